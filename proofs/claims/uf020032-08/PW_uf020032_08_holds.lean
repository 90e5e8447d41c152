import PyProof.Rows.All
import PyProof.P3Statements
import Wide.All
import OpenK.AllK
import Wide.FinOn
import KE.KDictOf
import KE.KDictSum
import KE.KRevIter
import OpenK.KCall
import PyProof.StationsW
import PyProof.ExcAttrAll.ValueError
import PyProof.IsInstanceH
import PyProof.NsDelKeeps
import PyProof.RulesAs
import PyProof.TableCode
import PySem.Challenge.RW_uf020032_08
set_option Elab.async false
set_option genSizeOf false
set_option linter.unusedVariables false
set_option linter.unusedSimpArgs false
set_option linter.unusedSectionVars false
section
set_option autoImplicit false
namespace Mini
open PySem

inductive V where
  | none
  | bool (b : Bool)
  | int (i : Int)
  | str (s : Str)
  | tup (vs : List V)
  | fl (vs : List V)
  | ref (a : Addr)
  | exc (c : String)

inductive Ob where
  | list (vs : List V)
  | dict (kvs : List (V × V))

abbrev MH := Addr → Option Ob
abbrev Env := String → Option V

noncomputable def upd (ρ : Env) (x : String) (v : V) : Env := fun y => if y = x then some v else ρ y
noncomputable def hupd (H : MH) (a : Addr) (o : Ob) : MH := fun b => if b = a then some o else H b

noncomputable instance : DecidableEq V := fun a b => Classical.propDecidable (a = b)

inductive Ty where
  | int | bool | list | tuple | str
  deriving DecidableEq
noncomputable def Ty.name : Ty → String
  | .int => "int"
  | .bool => "bool"
  | .list => "list"
  | .tuple => "tuple"
  | .str => "str"
inductive Prim where
  | add | sub | mul | mod | fdiv | neg | not
  | eq | ne | lt | le | gt | ge | isin | notin | isNone | isNotNone
  | idx | sliceTo | sliceFrom
  | tuple | list | dict0 | dict1
  | len | toInt | isi (t : Ty) | isx (cls : String) | tupleOf | listOf | listRange | listRev | sorted | sortedSet
  | min2 | max2 | minL | maxL | any | all | dictOf
  | append | index | join | get | setdefault | count
inductive Res where
  | val (v : V)
  | new (o : Ob)
  | upd (a : Addr) (o : Ob) (v : V)

noncomputable def fin (Q : V → MH → Prop) (H : MH) : Res → Prop
  | .val v => Q v H
  | .new o => ∀ a, H a = none → Q (.ref a) (hupd H a o)
  | .upd a o v => Q v (hupd H a o)

inductive SK where
  | plain | range | reversed
inductive X where
  | cst (c : V)
  | var (x : String)
  | prim (p : Prim) (args : List X)
  | and (l r : X)
  | or (l r : X)
  | call (f : String) (args : List X)
  | meth (p : Prim) (o : X) (args : List X)
  | comp (elt : X) (tgt : List String) (isT : Bool) (sk : SK) (src : X)
  | compIf (elt : X) (tgt : List String) (isT : Bool) (sk : SK) (src : X) (cond : X)

inductive S where
  | asg (x : String) (e : X)
  | asgT (xs : List String) (e : X)
  | asgI (o i e : X)
  | ex (e : X)
  | ifs (c : X) (t e : List S)
  | for (tgt : List String) (isT : Bool) (sk : SK) (src : X) (body : List S)
  | whl (c : X) (body : List S)
  | ret (e : X)
  | pass
  | raise (cls : String)
  | tryS (body : List S) (cls1 : String) (as1 : Option String) (h1 : List S) (cls2 : String) (h2 : List S)

noncomputable def lim : Nat := 1048576

noncomputable def mapO {α β : Type} (f : α → Option β) : List α → Option (List β)
  | [] => some []
  | a :: r => match f a, mapO f r with
    | some b, some t => some (b :: t)
    | _, _ => none

noncomputable def toD : Nat → MH → V → Option PyData
  | _, _, .none => some .none
  | _, _, .bool b => some (.bool b)
  | _, _, .int i => some (.int i)
  | _, _, .str s => if PyData.strOk s then some (.str s) else Option.none
  | 0, _, _ => Option.none
  | k + 1, H, .tup vs => (mapO (toD k H) vs).map .tuple
  | k + 1, H, .fl vs => (mapO (toD k H) vs).map .list
  | k + 1, H, .ref a => match H a with
    | some (.list vs) => (mapO (toD k H) vs).map .list
    | _ => Option.none
  | _, _, .exc _ => Option.none

noncomputable def lineD : Nat := 40

noncomputable def intsAll (vs : List V) : Bool := vs.all fun | .int _ => true | _ => false
noncomputable def kk : V → Nat
  | .str _ => 1
  | .tup vs => if intsAll vs then 2 else 3
  | _ => 3
noncomputable def dOK (kvs : List (V × V)) (k : V) : Bool := decide (kk k < 3) && kvs.all fun p => kk p.1 == kk k

noncomputable def dfind (kvs : List (V × V)) (k : V) : Option V := (kvs.find? fun p => p.1 == k).map (·.2)
noncomputable def dput : List (V × V) → V → V → List (V × V)
  | [], k, v => [(k, v)]
  | (k', v') :: r, k, v => if k' = k then (k', v) :: r else (k', v') :: dput r k v

noncomputable def chars (s : Str) : List V := s.cps.toList.map fun c => .str ⟨#[c]⟩
noncomputable def items (H : MH) : V → Option (List V)
  | .tup vs => some vs
  | .fl vs => some vs
  | .ref a => match H a with
    | some (.list vs) => some vs
    | _ => Option.none
  | _ => Option.none
noncomputable def pyIdx (n : Nat) (i : Int) : Option Nat := if 0 ≤ i then (if i < n then some i.toNat else none) else if -(n : Int) ≤ i then some (n + i).toNat else none
noncomputable def cutTo (n : Nat) (hi : Int) : Nat := if 0 ≤ hi then hi.toNat else (n + hi).toNat

noncomputable def ints? : List V → Option (List Int) := mapO fun | .int i => some i | _ => none
noncomputable def bools? : List V → Option (List Bool) := mapO fun | .bool b => some b | _ => none
noncomputable def strs? : List V → Option (List Str) := mapO fun | .str s => some s | _ => none

noncomputable def isiOf (H : MH) (t : Ty) : V → Option Bool
  | .none => some false
  | .bool _ => some (t == .int || t == .bool)
  | .int _ => some (t == .int)
  | .str _ => some (t == .str)
  | .tup _ => some (t == .tuple)
  | .fl _ => some (t == .list)
  | .ref a => match H a with
    | some (.list _) => some (t == .list)
    | _ => Option.none
  | .exc _ => Option.none

noncomputable def small (i : Int) : Bool := decide (i.natAbs < 1000000000000000000)

noncomputable def insI (x : Int) : List Int → List Int
  | [] => [x]
  | y :: r => if x ≤ y then x :: y :: r else y :: insI x r
noncomputable def sortI : List Int → List Int
  | [] => []
  | x :: r => insI x (sortI r)
noncomputable def dedupI : List Int → List Int
  | [] => []
  | x :: r => if x ∈ r then dedupI r else x :: dedupI r

noncomputable def newL (vs : List V) : Option Res := if vs.length ≤ lim then some (.new (.list vs)) else none
noncomputable def valT (vs : List V) : Option Res := if vs.length ≤ lim then some (.val (.tup vs)) else none
noncomputable def valS (s : Str) : Option Res := if s.length ≤ lim then some (.val (.str s)) else none

noncomputable def addOp (H : MH) : V → V → Option Res
  | .int a, .int b => some (.val (.int (a + b)))
  | .str a, .str b => valS (a ++ b)
  | .ref a, .ref b => match H a, H b with
    | some (.list x), some (.list y) => newL (x ++ y)
    | _, _ => none
  | _, _ => none

noncomputable def repS (s : Str) : Nat → Str
  | 0 => Str.empty
  | n + 1 => s ++ repS s n

noncomputable def mulOp (H : MH) : V → V → Option Res
  | .int a, .int b => if small a && small b then some (.val (.int (a * b))) else none
  | .str a, .int n => if small n && decide (n.toNat * a.length ≤ lim) then some (.val (.str (repS a n.toNat))) else none
  | _, _ => none

noncomputable def idxOp (H : MH) (o i : V) : Option V := match o, i with
  | .ref a, i => (match H a, i with
    | some (.list vs), .int k => (pyIdx vs.length k).bind (vs[·]?)
    | some (.dict kvs), k => if dOK kvs k then dfind kvs k else none
    | _, _ => none)
  | .tup vs, .int k => (pyIdx vs.length k).bind (vs[·]?)
  | .fl vs, .int k => (pyIdx vs.length k).bind (vs[·]?)
  | .str s, .int k => (pyIdx s.length k).bind fun j => s.cps[j]?.map fun c => .str ⟨#[c]⟩
  | _, _ => none

noncomputable def sliceToOp (H : MH) : V → V → Option Res
  | .fl vs, .int k => newL (vs.take (cutTo vs.length k))
  | .ref a, .int k => match H a with
    | some (.list vs) => newL (vs.take (cutTo vs.length k))
    | _ => none
  | _, _ => none

noncomputable def sliceFromOp (H : MH) : V → V → Option Res
  | .tup vs, .int k => if 1 ≤ k && decide (k ≤ vs.length) then valT (vs.drop k.toNat) else none
  | .ref a, .int k => match H a with
    | some (.list vs) => if 0 ≤ k then newL (vs.drop k.toNat) else none
    | _ => none
  | _, _ => none

noncomputable def eqOp (H : MH) (a b : V) : Option Bool := match toD lineD H a, toD lineD H b with
  | some x, some y => some (PyData.eqv x y)
  | _, _ => none

noncomputable def inOp (H : MH) (x c : V) : Option Bool := match c with
  | .str s => (match x with
    | .str t => if t.length = 1 then some (s.cps.toList.any fun c => t == ⟨#[c]⟩) else none
    | _ => none)
  | .ref a => (match H a with
    | some (.list vs) => (match toD lineD H x, mapO (toD lineD H) vs with
      | some d, some ds => some (ds.any fun y => PyData.eqv y d)
      | _, _ => none)
    | some (.dict kvs) => if dOK kvs x then some (dfind kvs x).isSome else none
    | _ => none)
  | .tup vs => (match toD lineD H x, mapO (toD lineD H) vs with
      | some d, some ds => some (ds.any fun y => PyData.eqv y d)
      | _, _ => none)
  | _ => none

noncomputable def indexOp (H : MH) (c x : V) : Option V := match items H c with
  | some vs => (match toD lineD H x, mapO (toD lineD H) vs with
    | some d, some ds => (ds.findIdx? fun y => PyData.eqv y d).map fun j => .int j
    | _, _ => none)
  | none => none

noncomputable def exSub (c cls : String) : Bool := cls == c || (cls == "SayError" && (c == "NoName" || c == "NoLetter" || c == "OtherMarks")) || cls == "ValueError"
noncomputable def isN : V → Bool
  | .none => true
  | _ => false
noncomputable def rb (b : Option Bool) : Option Res := b.map fun b => .val (.bool b)

noncomputable def primOp : Prim → MH → List V → Option Res
  | .add, H, [a, b] => addOp H a b
  | .sub, _, [.int a, .int b] => some (.val (.int (a - b)))
  | .mul, H, [a, b] => mulOp H a b
  | .mod, _, [.int a, .int b] => if 0 < b then some (.val (.int (a % b))) else none
  | .fdiv, _, [.int a, .int b] => if 0 < b && small b then some (.val (.int (a / b))) else none
  | .neg, _, [.int a] => some (.val (.int (-a)))
  | .not, _, [.bool b] => some (.val (.bool (!b)))
  | .eq, H, [a, b] => rb (eqOp H a b)
  | .ne, H, [a, b] => rb ((eqOp H a b).map (!·))
  | .lt, _, [.int a, .int b] => rb (some (decide (a < b)))
  | .le, _, [.int a, .int b] => rb (some (decide (a ≤ b)))
  | .gt, _, [.int a, .int b] => rb (some (decide (b < a)))
  | .ge, _, [.int a, .int b] => rb (some (decide (b ≤ a)))
  | .isin, H, [a, b] => rb (inOp H a b)
  | .notin, H, [a, b] => rb ((inOp H a b).map (!·))
  | .isNone, _, [a] => rb (some (isN a))
  | .isNotNone, _, [a] => rb (some (!isN a))
  | .idx, H, [o, i] => (idxOp H o i).map .val
  | .sliceTo, H, [o, i] => sliceToOp H o i
  | .sliceFrom, H, [o, i] => sliceFromOp H o i
  | .tuple, _, vs => valT vs
  | .list, _, vs => newL vs
  | .dict0, _, [] => some (.new (.dict []))
  | .len, H, [a] => (match a with
    | .str s => some (.val (.int s.length))
    | .ref r => (match H r with
      | some (.list vs) => some (.val (.int vs.length))
      | some (.dict kvs) => some (.val (.int kvs.length))
      | none => none)
    | .tup vs => some (.val (.int vs.length))
    | .fl vs => some (.val (.int vs.length))
    | _ => none)
  | .toInt, _, [.bool b] => some (.val (.int (if b then 1 else 0)))
  | .isi t, H, [a] => rb (isiOf H t a)
  | .isx cls, _, [.exc c] => rb (some (exSub c cls))
  | .tupleOf, H, [a] => (match a with
    | .str s => valT (chars s)
    | a => (items H a).bind valT)
  | .dictOf, H, [.ref a] => (match H a with
    | some (.dict kvs) => if kvs.all (fun p => kk p.1 != 2) then some (.new (.dict kvs)) else none
    | _ => none)
  | .append, H, [.ref a, v] => (match H a with
    | some (.list vs) => if vs.length < lim then some (.upd a (.list (vs ++ [v])) .none) else none
    | _ => none)
  | .join, H, [.str sep, .ref a] => (match (items H (.ref a)).bind strs? with
    | some ss => if sep.length = 0 then valS (Str.join sep ss) else none
    | none => none)
  | .get, H, [.ref a, k] => (match H a with
    | some (.dict kvs) => if dOK kvs k && kk k != 2 then some (.val ((dfind kvs k).getD .none)) else none
    | _ => none)
  | .count, H, [.ref a, x] => (match H a with
    | some (.list vs) => (match toD lineD H x, mapO (toD lineD H) vs with
      | some d, some ds => some (.val (.int (ds.countP fun y => PyData.eqv y d)))
      | _, _ => none)
    | _ => none)
  | _, _, _ => none

noncomputable def setOp (H : MH) (o i v : V) : Option Res := match o with
  | .ref a => (match H a, i with
    | some (.list vs), .int k => if 0 ≤ k && decide (k < vs.length) then some (.upd a (.list (vs.set k.toNat v)) .none) else none
    | some (.dict kvs), k => if dOK kvs k && decide (kvs.length < lim) then some (.upd a (.dict (dput kvs k v)) .none) else none
    | _, _ => none)
  | _ => none

noncomputable def srcItems (sk : SK) (H : MH) (v : V) : Option (List V × Option (Addr × List V)) := match sk, v with
  | .plain, .tup vs => some (vs, none)
  | .plain, .str s => some (chars s, none)
  | .plain, .ref a => (match H a with
    | some (.list vs) => some (vs, some (a, vs))
    | _ => none)
  | .range, .int n => if 0 ≤ n && decide (n ≤ lim) then some ((List.range n.toNat).map fun (i : Nat) => .int i, none) else none
  | _, _ => none
noncomputable def watch (w : Option (Addr × List V)) (H : MH) : Prop := match w with
  | none => True
  | some (a, vs) => H a = some (.list vs)

noncomputable def bindAll : List String → List V → Env → Option Env
  | [], [], ρ => some ρ
  | x :: xs, v :: vs, ρ => bindAll xs vs (upd ρ x v)
  | _, _, _ => none
noncomputable def bindT (isT : Bool) (tgt : List String) (v : V) (ρ : Env) : Option Env := match isT, tgt with
  | false, [x] => some (upd ρ x v)
  | true, xs => (match v with
    | .tup vs => bindAll xs vs ρ
    | _ => none)
  | _, _ => none
noncomputable def isPlain : V → Bool
  | .none => true
  | .bool _ => true
  | .int _ => true
  | .str _ => true
  | _ => false

abbrev Z0 := String → MH → Prop
abbrev CallSem := String → List V → (V → MH → Prop) → Z0 → MH → Prop
noncomputable def ZF : Z0 := fun _ _ => False

noncomputable def iterC (w : MH → Prop) (step : V → List V → (List V → MH → Prop) → MH → Prop) : List V → List V → (List V → MH → Prop) → MH → Prop
  | [], acc, K, H => w H ∧ K acc H
  | v :: vs, acc, K, H => w H ∧ step v acc (fun acc' H' => iterC w step vs acc' K H') H
noncomputable def iterF (w : MH → Prop) (step : V → Env → (Env → MH → Prop) → MH → Prop) : List V → Env → (Env → MH → Prop) → MH → Prop
  | [], ρ, K, H => w H ∧ K ρ H
  | v :: vs, ρ, K, H => w H ∧ step v ρ (fun ρ' H' => iterF w step vs ρ' K H') H
noncomputable def iterW (test : Env → (Bool → MH → Prop) → MH → Prop) (step : Env → (Env → MH → Prop) → MH → Prop) : Nat → Env → (Env → MH → Prop) → MH → Prop
  | 0, _, _, _ => False
  | n + 1, ρ, K, H => test ρ (fun b H' => (b = true → step ρ (fun ρ' H'' => iterW test step n ρ' K H'') H') ∧ (b = false → K ρ H')) H

noncomputable def doneC (Q : V → MH → Prop) (acc : List V) (H : MH) : Prop := acc.length ≤ lim ∧ ∀ a, H a = none → Q (.ref a) (hupd H a (.list acc))
noncomputable def asB (Q : Bool → MH → Prop) (v : V) (H : MH) : Prop := ∃ b, v = .bool b ∧ Q b H

noncomputable def methT : Prim → MH → V → Option String
  | .append, H, .ref a => (match H a with
    | some (.list _) => some "list"
    | _ => none)
  | .count, H, .ref a => (match H a with
    | some (.list _) => some "list"
    | _ => none)
  | .join, _, .str _ => some "str"
  | .get, H, .ref a => (match H a with
    | some (.dict _) => some "dict"
    | _ => none)
  | _, _, _ => none
mutual
noncomputable def wpE (C : CallSem) : X → Env → (V → MH → Prop) → Z0 → MH → Prop
  | .cst c, _, Q, _, H => Q c H
  | .var x, ρ, Q, _, H => ∃ v, ρ x = some v ∧ Q v H
  | .prim p args, ρ, Q, Z, H => wpL C args ρ (fun vs H' => ∃ r, primOp p H' vs = some r ∧ fin Q H' r) Z H
  | .and l r, ρ, Q, Z, H => wpE C l ρ (asB fun b H' => (b = true → wpE C r ρ Q Z H') ∧ (b = false → Q (.bool false) H')) Z H
  | .or l r, ρ, Q, Z, H => wpE C l ρ (asB fun b H' => (b = false → wpE C r ρ Q Z H') ∧ (b = true → Q (.bool true) H')) Z H
  | .call f args, ρ, Q, Z, H => wpL C args ρ (fun vs H' => C f vs Q Z H') Z H
  | .meth p o args, ρ, Q, Z, H => wpE C o ρ (fun ov H1 => (methT p H1 ov).isSome = true ∧ wpL C args ρ (fun vs H2 => ∃ r, primOp p H2 (ov :: vs) = some r ∧ fin Q H2 r) Z H1) Z H
  | .comp elt tgt isT sk src, ρ, Q, Z, H => wpE C src ρ (fun sv H1 => ∃ vs w, srcItems sk H1 sv = some (vs, w) ∧
      iterC (watch w) (fun v acc k H2 => ∃ ρ1, bindT isT tgt v ρ = some ρ1 ∧ wpE C elt ρ1 (fun ev H3 => k (acc ++ [ev]) H3) ZF H2) vs [] (doneC Q) H1) Z H
  | .compIf elt tgt isT sk src cond, ρ, Q, Z, H => wpE C src ρ (fun sv H1 => ∃ vs w, srcItems sk H1 sv = some (vs, w) ∧
      iterC (watch w) (fun v acc k H2 => ∃ ρ1, bindT isT tgt v ρ = some ρ1 ∧ wpE C cond ρ1 (asB fun b H3 =>
        (b = true → wpE C elt ρ1 (fun ev H4 => k (acc ++ [ev]) H4) ZF H3) ∧ (b = false → k acc H3)) ZF H2) vs [] (doneC Q) H1) Z H
noncomputable def wpL (C : CallSem) : List X → Env → (List V → MH → Prop) → Z0 → MH → Prop
  | [], _, Q, _, H => Q [] H
  | e :: r, ρ, Q, Z, H => wpE C e ρ (fun v H' => wpL C r ρ (fun vs H'' => Q (v :: vs) H'') Z H') Z H
end


noncomputable def exBind (x : Option String) (c : String) (ρ : Env) : Env := match x with
  | none => ρ
  | some x => upd ρ x (.exc c)
noncomputable def exFree (x : Option String) (ρ : Env) : Env := match x with
  | none => ρ
  | some x => fun y => if y = x then none else ρ y
mutual
noncomputable def wpS (C : CallSem) : S → Env → (Env → MH → Prop) → (V → MH → Prop) → Z0 → MH → Prop
  | .asg x e, ρ, N, _, Z, H => wpE C e ρ (fun v H' => N (upd ρ x v) H') Z H
  | .asgT xs e, ρ, N, _, Z, H => wpE C e ρ (fun v H' => ∃ ρ1, bindT true xs v ρ = some ρ1 ∧ N ρ1 H') Z H
  | .asgI o i e, ρ, N, _, Z, H => wpE C e ρ (fun v H1 => wpE C o ρ (fun ov H2 => wpE C i ρ (fun iv H3 => ∃ r, setOp H3 ov iv v = some r ∧ fin (fun _ H4 => N ρ H4) H3 r) Z H2) Z H1) Z H
  | .ex e, ρ, N, _, Z, H => wpE C e ρ (fun v H' => isPlain v = true ∧ N ρ H') Z H
  | .ifs c t e, ρ, N, R, Z, H => wpE C c ρ (asB fun b H' => (b = true → wpSs C t ρ N R Z H') ∧ (b = false → wpSs C e ρ N R Z H')) Z H
  | .for tgt isT sk src body, ρ, N, R, Z, H => wpE C src ρ (fun sv H1 => ∃ vs w, srcItems sk H1 sv = some (vs, w) ∧
      iterF (watch w) (fun v ρ' k H2 => ∃ ρ1, bindT isT tgt v ρ' = some ρ1 ∧ wpSs C body ρ1 k R ZF H2) vs ρ N H1) Z H
  | .whl c body, ρ, N, R, _, H => ∃ n, iterW (fun ρ' k H1 => wpE C c ρ' (asB k) ZF H1) (fun ρ' k H2 => wpSs C body ρ' k R ZF H2) n ρ N H
  | .ret e, ρ, _, R, Z, H => wpE C e ρ R Z H
  | .pass, ρ, N, _, _, H => N ρ H
  | .raise c, _, _, _, Z, H => Z c H
  | .tryS body c1 as1 h1 c2 h2, ρ, N, R, Z, H => wpSs C body ρ N R (fun c H' =>
      (exSub c c1 = true → wpSs C h1 (exBind as1 c ρ) (fun ρ2 H2 => N (exFree as1 ρ2) H2) R ZF H') ∧
      (exSub c c1 = false → exSub c c2 = true ∧ wpSs C h2 ρ N R ZF H')) H
noncomputable def wpSs (C : CallSem) : List S → Env → (Env → MH → Prop) → (V → MH → Prop) → Z0 → MH → Prop
  | [], ρ, N, _, _, H => N ρ H
  | s :: r, ρ, N, R, Z, H => wpS C s ρ (fun ρ' H' => wpSs C r ρ' N R Z H') R Z H
end

abbrev Tab := List (String × List String × List S)
noncomputable def bindE (ps : List String) (vs : List V) : Env := fun x => ((ps.zip vs).lookup x)

noncomputable def CallN (tab : Tab) : Nat → CallSem
  | 0 => fun _ _ _ _ _ => False
  | n + 1 => fun f args Q Z H => ∃ ps body, tab.lookup f = some (ps, body) ∧ ps.length = args.length ∧
      wpSs (CallN tab n) body (bindE ps args) (fun _ H' => Q .none H') Q Z H

end Mini

end
section
set_option autoImplicit false
set_option linter.unusedVariables false
set_option linter.unusedSectionVars false
set_option maxRecDepth 100000
namespace Mini
open PySem

noncomputable def MonoC (C : CallSem) : Prop := ∀ (f : String) (vs : List V) (Q Q' : V → MH → Prop) (Z Z' : Z0) (H : MH), (∀ v H, Q v H → Q' v H) → (∀ k H, Z k H → Z' k H) → C f vs Q Z H → C f vs Q' Z' H

theorem fin_mono {Q Q' : V → MH → Prop} {H : MH} {r : Res} (h : fin Q H r) (k : ∀ v H, Q v H → Q' v H) : fin Q' H r := by
  cases r with
  | val v => exact k _ _ h
  | new o => exact fun a ha => k _ _ (h a ha)
  | upd a o v => exact k _ _ h
theorem asB_mono {Q Q' : Bool → MH → Prop} {v : V} {H : MH} (h : asB Q v H) (k : ∀ b H, Q b H → Q' b H) : asB Q' v H := let ⟨b, e, q⟩ := h; ⟨b, e, k _ _ q⟩
theorem doneC_mono {Q Q' : V → MH → Prop} {acc : List V} {H : MH} (h : doneC Q acc H) (k : ∀ v H, Q v H → Q' v H) : doneC Q' acc H := ⟨h.1, fun a ha => k _ _ (h.2 a ha)⟩
theorem iterC_mono {w : MH → Prop} {st st' : V → List V → (List V → MH → Prop) → MH → Prop} (hs : ∀ v acc k k' H, (∀ a H, k a H → k' a H) → st v acc k H → st' v acc k' H) :
    ∀ (vs acc : List V) (K K' : List V → MH → Prop) (H : MH), (∀ a H, K a H → K' a H) → iterC w st vs acc K H → iterC w st' vs acc K' H
  | [], _, _, _, _, k, h => ⟨h.1, k _ _ h.2⟩
  | _ :: vs, _, K, K', _, k, h => ⟨h.1, hs _ _ _ _ _ (fun _ _ z => iterC_mono hs vs _ K K' _ k z) h.2⟩
theorem iterF_mono {w : MH → Prop} {st st' : V → Env → (Env → MH → Prop) → MH → Prop} (hs : ∀ v acc k k' H, (∀ a H, k a H → k' a H) → st v acc k H → st' v acc k' H) :
    ∀ (vs : List V) (ρ : Env) (K K' : Env → MH → Prop) (H : MH), (∀ a H, K a H → K' a H) → iterF w st vs ρ K H → iterF w st' vs ρ K' H
  | [], _, _, _, _, k, h => ⟨h.1, k _ _ h.2⟩
  | _ :: vs, _, K, K', _, k, h => ⟨h.1, hs _ _ _ _ _ (fun _ _ z => iterF_mono hs vs _ K K' _ k z) h.2⟩
theorem iterW_mono {t t' : Env → (Bool → MH → Prop) → MH → Prop} {st st' : Env → (Env → MH → Prop) → MH → Prop} (ht : ∀ ρ k k' H, (∀ a H, k a H → k' a H) → t ρ k H → t' ρ k' H) (hs : ∀ ρ k k' H, (∀ a H, k a H → k' a H) → st ρ k H → st' ρ k' H) :
    ∀ (n : Nat) (ρ : Env) (K K' : Env → MH → Prop) (H : MH), (∀ a H, K a H → K' a H) → iterW t st n ρ K H → iterW t' st' n ρ K' H
  | 0, _, _, _, _, _, h => h
  | n + 1, _, K, K', _, k, h => ht _ _ _ _ (fun _ _ z => ⟨fun e => hs _ _ _ _ (fun _ _ z => iterW_mono ht hs n _ K K' _ k z) (z.1 e), fun e => k _ _ (z.2 e)⟩) h

section
variable {C C' : CallSem} (hC : ∀ (f : String) (vs : List V) (Q Q' : V → MH → Prop) (Z Z' : Z0) (H : MH), (∀ v H, Q v H → Q' v H) → (∀ k H, Z k H → Z' k H) → C f vs Q Z H → C' f vs Q' Z' H)
include hC
mutual
theorem wpE_mono2 : ∀ (x : X) (ρ : Env) (Q Q' : V → MH → Prop) (Z Z' : Z0) (H : MH), (∀ v H, Q v H → Q' v H) → (∀ k H, Z k H → Z' k H) → wpE C x ρ Q Z H → wpE C' x ρ Q' Z' H
  | .cst c, ρ, Q, Q', Z, Z', H, k, z, h => k _ _ h
  | .var x, ρ, Q, Q', Z, Z', H, k, z, h => let ⟨v, e, q⟩ := (h : ∃ v, ρ x = some v ∧ Q v H); (⟨v, e, k _ _ q⟩ : ∃ v, ρ x = some v ∧ Q' v H)
  | .prim p args, ρ, Q, Q', Z, Z', H, k, z, h => wpL_mono2 args ρ _ _ Z Z' H (fun vs H' h => let ⟨r, e, f⟩ := h; ⟨r, e, fin_mono f k⟩) z h
  | .and l r, ρ, Q, Q', Z, Z', H, k, z, h => wpE_mono2 l ρ _ _ Z Z' H (fun v H' h => asB_mono h fun b H q => ⟨fun e => wpE_mono2 r ρ Q Q' Z Z' H k z (q.1 e), fun e => k _ _ (q.2 e)⟩) z h
  | .or l r, ρ, Q, Q', Z, Z', H, k, z, h => wpE_mono2 l ρ _ _ Z Z' H (fun v H' h => asB_mono h fun b H q => ⟨fun e => wpE_mono2 r ρ Q Q' Z Z' H k z (q.1 e), fun e => k _ _ (q.2 e)⟩) z h
  | .call f args, ρ, Q, Q', Z, Z', H, k, z, h => wpL_mono2 args ρ _ _ Z Z' H (fun vs H' h => hC f vs Q Q' Z Z' H' k z h) z h
  | .meth p o args, ρ, Q, Q', Z, Z', H, k, z, h => wpE_mono2 o ρ _ _ Z Z' H (fun v H1 h => ⟨h.1, wpL_mono2 args ρ _ _ Z Z' H1 (fun vs H' h => let ⟨r, e, f⟩ := h; ⟨r, e, fin_mono f k⟩) z h.2⟩) z h
  | .comp elt tgt isT sk src, ρ, Q, Q', Z, Z', H, k, z, h => wpE_mono2 src ρ _ _ Z Z' H (fun sv H1 h => let ⟨vs, w, e, h⟩ := h; ⟨vs, w, e,
      iterC_mono (fun v acc q q' H2 kk h => let ⟨ρ1, e, h⟩ := h; ⟨ρ1, e, wpE_mono2 elt ρ1 _ _ ZF ZF H2 (fun ev H3 h => kk _ _ h) (fun _ _ z => z) h⟩) vs [] _ _ H1 (fun _ _ h => doneC_mono h k) h⟩) z h
  | .compIf elt tgt isT sk src cond, ρ, Q, Q', Z, Z', H, k, z, h => wpE_mono2 src ρ _ _ Z Z' H (fun sv H1 h => let ⟨vs, w, e, h⟩ := h; ⟨vs, w, e,
      iterC_mono (fun v acc q q' H2 kk h => let ⟨ρ1, e, h⟩ := h; ⟨ρ1, e, wpE_mono2 cond ρ1 _ _ ZF ZF H2 (fun cv H3 h => asB_mono h fun b H4 h => ⟨fun e => wpE_mono2 elt ρ1 _ _ ZF ZF H4 (fun ev H3 h => kk _ _ h) (fun _ _ z => z) (h.1 e), fun e => kk _ _ (h.2 e)⟩) (fun _ _ z => z) h⟩) vs [] _ _ H1
        (fun _ _ h => doneC_mono h k) h⟩) z h
theorem wpL_mono2 : ∀ (xs : List X) (ρ : Env) (Q Q' : List V → MH → Prop) (Z Z' : Z0) (H : MH), (∀ v H, Q v H → Q' v H) → (∀ k H, Z k H → Z' k H) → wpL C xs ρ Q Z H → wpL C' xs ρ Q' Z' H
  | [], ρ, Q, Q', Z, Z', H, k, z, h => k _ _ h
  | e :: r, ρ, Q, Q', Z, Z', H, k, z, h => wpE_mono2 e ρ _ _ Z Z' H (fun v H' h => wpL_mono2 r ρ _ _ Z Z' H' (fun vs H'' h => k _ _ h) z h) z h
end
mutual
theorem wpS_mono2 : ∀ (x : S) (ρ : Env) (N N' : Env → MH → Prop) (R R' : V → MH → Prop) (Z Z' : Z0) (H : MH), (∀ v H, N v H → N' v H) → (∀ v H, R v H → R' v H) → (∀ k H, Z k H → Z' k H) → wpS C x ρ N R Z H → wpS C' x ρ N' R' Z' H
  | .asg x e, ρ, N, N', R, R', Z, Z', H, n, r, z, h => wpE_mono2 hC e ρ _ _ Z Z' H (fun v H' h => n _ _ h) z h
  | .asgT xs e, ρ, N, N', R, R', Z, Z', H, n, r, z, h => wpE_mono2 hC e ρ _ _ Z Z' H (fun v H' h => let ⟨ρ1, e, h⟩ := h; ⟨ρ1, e, n _ _ h⟩) z h
  | .asgI o i e, ρ, N, N', R, R', Z, Z', H, n, r, z, h => wpE_mono2 hC e ρ _ _ Z Z' H (fun v H1 h => wpE_mono2 hC o ρ _ _ Z Z' H1 (fun ov H2 h => wpE_mono2 hC i ρ _ _ Z Z' H2 (fun iv H3 h => let ⟨r, e, f⟩ := h; ⟨r, e, fin_mono f fun _ _ h => n _ _ h⟩) z h) z h) z h
  | .ex e, ρ, N, N', R, R', Z, Z', H, n, r, z, h => wpE_mono2 hC e ρ _ _ Z Z' H (fun v H' h => ⟨h.1, n _ _ h.2⟩) z h
  | .ifs c t e, ρ, N, N', R, R', Z, Z', H, n, r, z, h => wpE_mono2 hC c ρ _ _ Z Z' H (fun v H' h => asB_mono h fun b H q => ⟨fun x => wpSs_mono2 t ρ N N' R R' Z Z' H n r z (q.1 x), fun x => wpSs_mono2 e ρ N N' R R' Z Z' H n r z (q.2 x)⟩) z h
  | .for tgt isT sk src body, ρ, N, N', R, R', Z, Z', H, n, r, z, h => wpE_mono2 hC src ρ _ _ Z Z' H (fun sv H1 h => let ⟨vs, w, e, h⟩ := h; ⟨vs, w, e,
      iterF_mono (fun v ρ' k k' H2 kk h => let ⟨ρ1, e, h⟩ := h; ⟨ρ1, e, wpSs_mono2 body ρ1 _ _ R R' ZF ZF H2 kk r (fun _ _ z => z) h⟩) vs ρ _ _ H1 n h⟩) z h
  | .whl c body, ρ, N, N', R, R', Z, Z', H, n, r, z, h => let ⟨m, h⟩ := (h : ∃ n, iterW (fun ρ' k H1 => wpE C c ρ' (asB k) ZF H1) (fun ρ' k H2 => wpSs C body ρ' k R ZF H2) n ρ N H);
      (⟨m, iterW_mono (fun ρ' k k' H1 kk h => wpE_mono2 hC c ρ' _ _ ZF ZF H1 (fun v H h => asB_mono h kk) (fun _ _ z => z) h) (fun ρ' k k' H2 kk h => wpSs_mono2 body ρ' _ _ R R' ZF ZF H2 kk r (fun _ _ z => z) h) m ρ N N' H n h⟩ :
        ∃ n, iterW (fun ρ' k H1 => wpE C' c ρ' (asB k) ZF H1) (fun ρ' k H2 => wpSs C' body ρ' k R' ZF H2) n ρ N' H)
  | .ret e, ρ, N, N', R, R', Z, Z', H, n, r, z, h => wpE_mono2 hC e ρ R R' Z Z' H r z h
  | .pass, ρ, N, N', R, R', Z, Z', H, n, r, z, h => n _ _ h
  | .raise c, ρ, N, N', R, R', Z, Z', H, n, r, z, h => z _ _ h
  | .tryS body c1 as1 h1 c2 h2, ρ, N, N', R, R', Z, Z', H, n, r, z, h => wpSs_mono2 body ρ N N' R R' (fun c H' =>
      (exSub c c1 = true → wpSs C h1 (exBind as1 c ρ) (fun ρ2 H2 => N (exFree as1 ρ2) H2) R ZF H') ∧
      (exSub c c1 = false → exSub c c2 = true ∧ wpSs C h2 ρ N R ZF H')) (fun c H' =>
      (exSub c c1 = true → wpSs C' h1 (exBind as1 c ρ) (fun ρ2 H2 => N' (exFree as1 ρ2) H2) R' ZF H') ∧
      (exSub c c1 = false → exSub c c2 = true ∧ wpSs C' h2 ρ N' R' ZF H')) H n r (fun c H' k =>
      ⟨fun e => wpSs_mono2 h1 _ _ _ R R' ZF ZF H' (fun ρ2 H2 y => n _ _ y) r (fun _ _ y => y) (k.1 e), fun e => ⟨(k.2 e).1, wpSs_mono2 h2 ρ N N' R R' ZF ZF H' n r (fun _ _ y => y) (k.2 e).2⟩⟩) h
theorem wpSs_mono2 : ∀ (xs : List S) (ρ : Env) (N N' : Env → MH → Prop) (R R' : V → MH → Prop) (Z Z' : Z0) (H : MH), (∀ v H, N v H → N' v H) → (∀ v H, R v H → R' v H) → (∀ k H, Z k H → Z' k H) → wpSs C xs ρ N R Z H → wpSs C' xs ρ N' R' Z' H
  | [], ρ, N, N', R, R', Z, Z', H, n, r, z, h => n _ _ h
  | s :: t, ρ, N, N', R, R', Z, Z', H, n, r, z, h => wpS_mono2 s ρ _ _ R R' Z Z' H (fun ρ' H' h => wpSs_mono2 t ρ' N N' R R' Z Z' H' n r z h) r z h
end
end
theorem CallN_mono (tab : Tab) : ∀ n, MonoC (CallN tab n)
  | 0 => fun _ _ _ _ _ _ _ _ _ h => h
  | n + 1 => fun f vs Q Q' Z Z' H k z h => let ⟨ps, body, e, l, h⟩ := (h : ∃ ps body, tab.lookup f = some (ps, body) ∧ ps.length = vs.length ∧ wpSs (CallN tab n) body (bindE ps vs) (fun _ H' => Q .none H') Q Z H);
      (⟨ps, body, e, l, wpSs_mono2 (CallN_mono tab n) body _ _ _ Q Q' Z Z' H (fun _ _ h => k _ _ h) k z h⟩ : ∃ ps body, tab.lookup f = some (ps, body) ∧ ps.length = vs.length ∧ wpSs (CallN tab n) body (bindE ps vs) (fun _ H' => Q' .none H') Q' Z' H)
theorem wpE_mono {C : CallSem} (hC : MonoC C) {x : X} {ρ : Env} {Q Q' : V → MH → Prop} {Z Z' : Z0} {H : MH} (h : wpE C x ρ Q Z H) (k : ∀ v H, Q v H → Q' v H) (z : ∀ k H, Z k H → Z' k H) : wpE C x ρ Q' Z' H := wpE_mono2 hC x ρ Q Q' Z Z' H k z h
theorem wpSs_mono {C : CallSem} (hC : MonoC C) {x : List S} {ρ : Env} {N N' : Env → MH → Prop} {R R' : V → MH → Prop} {Z Z' : Z0} {H : MH} (h : wpSs C x ρ N R Z H) (n : ∀ v H, N v H → N' v H) (k : ∀ v H, R v H → R' v H) (z : ∀ k H, Z k H → Z' k H) : wpSs C x ρ N' R' Z' H :=
  wpSs_mono2 hC x ρ N N' R R' Z Z' H n k z h
end Mini

end
section
set_option autoImplicit false
set_option linter.unusedVariables false
set_option linter.unusedSectionVars false
namespace Mini
open PySem

abbrev OM := Addr → Option Obj
noncomputable def OLe (D D' : OM) : Prop := ∀ a o, D a = some o → D' a = some o
theorem OLe.refl (D : OM) : OLe D D := fun _ _ h => h
theorem OLe.trans {D E F : OM} (h : OLe D E) (k : OLe E F) : OLe D F := fun a o e => k a o (h a o e)
noncomputable def oput (D : OM) (a : Addr) (o : Obj) : OM := fun b => if b = a then some o else D b
theorem oput_same (D : OM) (a : Addr) (o : Obj) : oput D a o a = some o := by simp [oput]
theorem oput_ne {D : OM} {a b : Addr} {o : Obj} (h : b ≠ a) : oput D a o b = D b := by simp [oput, h]
theorem OLe.put {D : OM} {a : Addr} {o : Obj} (h : D a = none) : OLe D (oput D a o) := fun b x e => by
  by_cases q : b = a
  · rw [q, h] at e; cases e
  · rw [oput_ne q]; exact e

noncomputable def tupObj (vs : List Value) (n : Nat) : Obj := { cls := .type "tuple", dict := none, data := .seq vs.toArray n, slots := #[] }
noncomputable def listObj (vs : List Value) (n : Nat) : Obj := { cls := .type "list", dict := none, data := .seq vs.toArray n, slots := #[] }
noncomputable def TupO (o : Obj) (vs : List Value) : Prop := ∃ n, o = tupObj vs n
noncomputable def ListO (o : Obj) (vs : List Value) : Prop := ∃ n, o = listObj vs n
abbrev FM := Addr → Option (Str → Option Value)
noncomputable def FLe (D D' : FM) : Prop := ∀ a o, D a = some o → D' a = some o
noncomputable def fput (D : FM) (a : Addr) (o : Str → Option Value) : FM := fun b => if b = a then some o else D b
theorem fput_same (D : FM) (a : Addr) (o : Str → Option Value) : fput D a o a = some o := by simp [fput]
theorem fput_ne {D : FM} {a b : Addr} {o : Str → Option Value} (h : b ≠ a) : fput D a o b = D b := by simp [fput, h]

noncomputable def clsNames : List String := ["SayError", "NoName", "NoLetter", "OtherMarks"]
noncomputable def clsD (D : OM) (cls : String) (C : Addr) : Prop := ∃ o es ep, D mainGlobals = some o ∧ o.data = .dict es ep ∧ nsFind es (Str.ofString cls) = some (.ref C)
theorem clsD.mono {D D' : OM} (k : OLe D D') {cls : String} {C : Addr} (h : clsD D cls C) : clsD D' cls C := let ⟨o, es, ep, a, b⟩ := h; ⟨o, es, ep, k _ _ a, b⟩
inductive VR (D : OM) : Value → V → Prop
  | none : VR D .none .none
  | bool (b : Bool) : VR D (.bool b) (.bool b)
  | int (i : Int) (t : Tok) : VR D (.int i t) (.int i)
  | str (s : Str) (t : Tok) : s.length ≤ lim → VR D (.str s t) (.str s)
  | ref (a : Addr) : VR D (.ref a) (.ref a)
  | tup {a : Addr} {o : Obj} {cs : List Value} {vs : List V} : D a = some o → TupO o cs → vs.length ≤ lim → cs.length = vs.length → (∀ i (h : i < cs.length) (h' : i < vs.length), VR D cs[i] vs[i]) → VR D (.ref a) (.tup vs)
  | fl {a : Addr} {o : Obj} {cs : List Value} {vs : List V} : D a = some o → ListO o cs → vs.length ≤ lim → cs.length = vs.length → (∀ i (h : i < cs.length) (h' : i < vs.length), VR D cs[i] vs[i]) → VR D (.ref a) (.fl vs)
  | exc {a : Addr} {o : Obj} {C : Addr} {cls : String} : clsNames.contains cls = true → D a = some o → o.cls = .ref C → clsD D cls C → VR D (.ref a) (.exc cls)

noncomputable def VRs (D : OM) (cs : List Value) (vs : List V) : Prop := cs.length = vs.length ∧ ∀ i (h : i < cs.length) (h' : i < vs.length), VR D cs[i] vs[i]

theorem VR.mono {D D' : OM} (k : OLe D D') {c : Value} {v : V} (h : VR D c v) : VR D' c v := by
  induction h with
  | none => exact .none
  | bool b => exact .bool b
  | int i t => exact .int i t
  | str s t h => exact .str s t h
  | ref a => exact .ref a
  | tup e t b l _ ih => exact .tup (k _ _ e) t b l ih
  | fl e t b l _ ih => exact .fl (k _ _ e) t b l ih
  | exc n a b d => exact .exc n (k _ _ a) b (d.mono k)
theorem VRs.mono {D D' : OM} (k : OLe D D') {cs : List Value} {vs : List V} (h : VRs D cs vs) : VRs D' cs vs := ⟨h.1, fun i a b => (h.2 i a b).mono k⟩
theorem VRs.nil {D : OM} : VRs D [] [] := ⟨rfl, fun i h => nomatch h⟩
theorem VRs.cons {D : OM} {c : Value} {v : V} {cs : List Value} {vs : List V} (h : VR D c v) (t : VRs D cs vs) : VRs D (c :: cs) (v :: vs) :=
  ⟨by simp [t.1], fun i a b => by cases i with
    | zero => exact h
    | succ i => exact t.2 i (by simpa using a) (by simpa using b)⟩
theorem VRs.head {D : OM} {c : Value} {v : V} {cs : List Value} {vs : List V} (h : VRs D (c :: cs) (v :: vs)) : VR D c v := h.2 0 (by simp) (by simp)
theorem VRs.tail {D : OM} {c : Value} {v : V} {cs : List Value} {vs : List V} (h : VRs D (c :: cs) (v :: vs)) : VRs D cs vs :=
  ⟨by simpa using h.1, fun i a b => h.2 (i + 1) (by simpa using a) (by simpa using b)⟩
theorem VRs.nil_inv {D : OM} {cs : List Value} (h : VRs D cs []) : cs = [] := List.eq_nil_of_length_eq_zero h.1
theorem VRs.cons_inv {D : OM} {cs : List Value} {v : V} {vs : List V} (h : VRs D cs (v :: vs)) : ∃ c ds, cs = c :: ds ∧ VR D c v ∧ VRs D ds vs := by
  cases cs with
  | nil => have := h.1; simp at this
  | cons c ds => exact ⟨c, ds, rfl, h.head, h.tail⟩
theorem VRs.append {D : OM} {cs ds : List Value} {vs ws : List V} (h : VRs D cs vs) (k : VRs D ds ws) : VRs D (cs ++ ds) (vs ++ ws) := by
  induction cs generalizing vs with
  | nil => have := h.1; cases vs with
    | nil => exact k
    | cons _ _ => simp at this
  | cons c r ih => cases vs with
    | nil => have := h.1; simp at this
    | cons v vs => exact .cons h.head (ih h.tail)
theorem VRs.get? {D : OM} {cs : List Value} {vs : List V} {i : Nat} {v : V} (h : VRs D cs vs) (e : vs[i]? = some v) : ∃ c, cs[i]? = some c ∧ VR D c v := by
  obtain ⟨hi, rfl⟩ := List.getElem?_eq_some_iff.mp e
  have hi' : i < cs.length := by rw [h.1]; exact hi
  exact ⟨cs[i], List.getElem?_eq_getElem hi', h.2 i hi' hi⟩
theorem VRs.set {D : OM} {cs : List Value} {vs : List V} {i : Nat} {c : Value} {v : V} (h : VRs D cs vs) (k : VR D c v) : VRs D (cs.set i c) (vs.set i v) := by
  refine ⟨by simp [h.1], fun j a b => ?_⟩
  simp only [List.getElem_set]
  split
  · exact k
  · exact h.2 j (by simpa using a) (by simpa using b)
theorem VRs.take {D : OM} {cs : List Value} {vs : List V} (h : VRs D cs vs) (n : Nat) : VRs D (cs.take n) (vs.take n) :=
  ⟨by simp [h.1], fun i a b => by simpa using h.2 i (by simp at a; (first | lia | omega)) (by simp at b; (first | lia | omega))⟩
theorem VRs.drop {D : OM} {cs : List Value} {vs : List V} (h : VRs D cs vs) (n : Nat) : VRs D (cs.drop n) (vs.drop n) :=
  ⟨by simp [h.1], fun i a b => by simpa using h.2 (n + i) (by simp at a; (first | lia | omega)) (by simp at b; (first | lia | omega))⟩
noncomputable def KV {K : Type} (D : OM) (enc : K → V) (xs : List (K × Value)) (kvs : List (V × V)) : Prop :=
  xs.length = kvs.length ∧ ∀ i (h : i < xs.length) (h' : i < kvs.length), kvs[i].1 = enc xs[i].1 ∧ VR D xs[i].2 kvs[i].2
noncomputable def TupInts (D : OM) (is : List Int) (a : Addr) : Prop := ∃ o cs, D a = some o ∧ TupO o cs ∧ VRs D cs (is.map .int)
noncomputable def encT (is : List Int) : V := .tup (is.map .int)

structure Cx where
  prog : Program
  w : World
  s0 : Shared
  st : ∃ o, s0.heap.get? cStatics = some o
  fr : List PySem.Env

inductive DictR (c : Cx) (D : OM) (es : Array DictEntry) (kvs : List (V × V)) : Prop
  | int (xs : List (Int × Value)) : KeysOf (intKind c.prog c.w) es → Pairs (intKind c.prog c.w) es.toList xs → (xs.map (·.1)).Nodup → KV D V.int xs kvs → DictR c D es kvs
  | str (xs : List (Str × Value)) : KeysOf (strKind c.prog c.w) es → Pairs (strKind c.prog c.w) es.toList xs → (xs.map (·.1)).Nodup → KV D V.str xs kvs → DictR c D es kvs
  | tup (xs : List (List Int × Addr × Value)) : es.toList = xs.map (entryOfKey (tupleKind (intKind c.prog c.w))) → (∀ x ∈ xs, TupInts D x.1 x.2.1) → (xs.map (·.1)).Nodup →
      KV D encT (xs.map fun x => (x.1, x.2.2)) kvs → DictR c D es kvs

inductive OR (c : Cx) (D : OM) (o : Obj) : Ob → Prop
  | list {cs : List Value} {vs : List V} : ListO o cs → VRs D cs vs → vs.length ≤ lim → OR c D o (.list vs)
  | dict {es : Array DictEntry} {n : Nat} {kvs : List (V × V)} : o.ExactDict → o.data = .dict es n → DictR c D es kvs → kvs.length ≤ lim → OR c D o (.dict kvs)

theorem KV.mono {K : Type} {D D' : OM} (k : OLe D D') {enc : K → V} {xs : List (K × Value)} {kvs : List (V × V)} (h : KV D enc xs kvs) : KV D' enc xs kvs :=
  ⟨h.1, fun i a b => ⟨(h.2 i a b).1, (h.2 i a b).2.mono k⟩⟩
theorem TupInts.mono {D D' : OM} (k : OLe D D') {is : List Int} {a : Addr} (h : TupInts D is a) : TupInts D' is a :=
  let ⟨o, cs, e, t, v⟩ := h; ⟨o, cs, k _ _ e, t, v.mono k⟩
theorem DictR.mono {c : Cx} {D D' : OM} (k : OLe D D') {es : Array DictEntry} {kvs : List (V × V)} (h : DictR c D es kvs) : DictR c D' es kvs := by
  cases h with
  | int xs a b d e => exact .int xs a b d (e.mono k)
  | str xs a b d e => exact .str xs a b d (e.mono k)
  | tup xs a b d e => exact .tup xs a (fun x hx => (b x hx).mono k) d (e.mono k)
theorem OR.mono {c : Cx} {D D' : OM} (k : OLe D D') {o : Obj} {ob : Ob} (h : OR c D o ob) : OR c D' o ob := by
  cases h with
  | list a v l => exact .list a (v.mono k) l
  | dict a b d l => exact .dict a b (d.mono k) l

abbrev Cx.at (c : Cx) (l : List PySem.Env) : Cx := ⟨c.prog, c.w, c.s0, c.st, l⟩
theorem DictR.at {c : Cx} {D : OM} {es : Array DictEntry} {kvs : List (V × V)} (l : List PySem.Env) (h : DictR c D es kvs) : DictR (c.at l) D es kvs := by
  cases h with
  | int xs a b d e => exact .int xs a b d e
  | str xs a b d e => exact .str xs a b d e
  | tup xs a b d e => exact .tup xs a b d e
theorem OR.at {c : Cx} {D : OM} {o : Obj} {ob : Ob} (l : List PySem.Env) (h : OR c D o ob) : OR (c.at l) D o ob := by
  cases h with
  | list a b d => exact .list a b d
  | dict a b d e => exact .dict a b (d.at l) e
noncomputable def Frs (c : Cx) (F : FM) : Prop := ∀ e ∈ c.fr, e.scope.kind ≠ .module ∧ ∃ L, e.frame = some L ∧ (F L).isSome = true
structure Rel (c : Cx) (D O : OM) (F : FM) (H : MH) (s : Shared) : Prop where
  base : ∀ a o, c.s0.heap.get? a = some o → D a = some o
  dat : ∀ a o, D a = some o → s.heap.get? a = some o
  oth : ∀ a o, O a = some o → s.heap.get? a = some o ∧ D a = none ∧ F a = none ∧ H a = none
  frm : ∀ a m, F a = some m → s.heap.Ns a m ∧ D a = none ∧ H a = none
  own : ∀ a ob, H a = some ob → D a = none ∧ ∃ o, s.heap.get? a = some o ∧ OR c D o ob
  lo : ∀ a, ((∃ ob, H a = some ob) ∨ ∃ o, O a = some o) → a ≠ sysModules
  gens : s.gens = c.s0.gens
  os : s.os = c.s0.os
  frs : Frs c F

section
variable {c : Cx} {D O : OM} {F : FM} {H : MH} {s : Shared}
theorem Rel.toks (R : Rel c D O F H s) (t : Nat) : Rel c D O F H { s with toks := t } := ⟨R.base, R.dat, R.oth, R.frm, R.own, R.lo, R.gens, R.os, R.frs⟩
theorem none_of_size {h : Heap} : h.get? h.objs.size = none := by
  cases q : h.get? h.objs.size with
  | none => rfl
  | some o => exact absurd (Heap.lt_size q) (Nat.lt_irrefl _)
theorem Rel.fresh (R : Rel c D O F H s) : D s.heap.objs.size = none ∧ O s.heap.objs.size = none ∧ F s.heap.objs.size = none ∧ H s.heap.objs.size = none := by
  have hn := none_of_size (h := s.heap)
  refine ⟨?_, ?_, ?_, ?_⟩
  · cases q : D s.heap.objs.size with
    | none => rfl
    | some o => have := R.dat _ _ q; rw [hn] at this; cases this
  · cases q : O s.heap.objs.size with
    | none => rfl
    | some o => have := (R.oth _ _ q).1; rw [hn] at this; cases this
  · cases q : F s.heap.objs.size with
    | none => rfl
    | some o => obtain ⟨⟨_, _, _, e, _⟩, _⟩ := R.frm _ _ q; rw [hn] at e; cases e
  · cases q : H s.heap.objs.size with
    | none => rfl
    | some o => obtain ⟨_, _, e, _⟩ := R.own _ _ q; rw [hn] at e; cases e

theorem Rel.freshLo (R : Rel c D O F H s) {a : Addr} (h : s.heap.objs.size ≤ a) : a ≠ sysModules := by
  obtain ⟨o, ho⟩ := c.st
  have := Heap.lt_size (R.dat _ _ (R.base _ _ ho))
  have h2 : (2 : Nat) < s.heap.objs.size := this
  have h3 : (2 : Nat) < a := Nat.lt_of_lt_of_le h2 h
  intro e
  rw [e] at h3
  exact absurd h3 (by decide)
theorem Rel.at (R : Rel c D O F H s) {l : List PySem.Env} (h : Frs (c.at l) F) : Rel (c.at l) D O F H s :=
  ⟨R.base, R.dat, R.oth, R.frm, fun a ob e => let ⟨x, o, q, r⟩ := R.own a ob e; ⟨x, o, q, r.at l⟩, R.lo, R.gens, R.os, h⟩
theorem Rel.grow (R : Rel c D O F H s) {h' : Heap} {tk : Nat} (k : ∀ b o, s.heap.get? b = some o → h'.get? b = some o) : Rel c D O F H { s with heap := h', toks := tk } :=
  ⟨R.base, fun a o e => k _ _ (R.dat a o e), fun a o e => ⟨k _ _ (R.oth a o e).1, (R.oth a o e).2⟩, fun a o e => let ⟨q, r⟩ := R.frm a o e; ⟨q.keeps k, r⟩,
    fun a ob e => let ⟨x, o, q, r⟩ := R.own a ob e; ⟨x, o, k _ _ q, r⟩, R.lo, R.gens, R.os, R.frs⟩

theorem Rel.newD (R : Rel c D O F H s) {a : Addr} {o : Obj} (e : s.heap.get? a = some o) (h1 : D a = none) (h2 : O a = none) (h3 : F a = none) (h4 : H a = none) : Rel c (oput D a o) O F H s := by
  refine ⟨fun b x q => OLe.put h1 _ _ (R.base b x q), fun b x q => ?_, fun b x q => ?_, fun b x q => ?_, fun b x q => ?_, R.lo, R.gens, R.os, R.frs⟩
  · by_cases p : b = a
    · subst p; rw [oput_same] at q; cases q; exact e
    · rw [oput_ne p] at q; exact R.dat _ _ q
  · have p : b ≠ a := fun p => by rw [p, h2] at q; cases q
    rw [oput_ne p]; exact R.oth b x q
  · have p : b ≠ a := fun p => by rw [p, h3] at q; cases q
    rw [oput_ne p]; exact R.frm b x q
  · have p : b ≠ a := fun p => by rw [p, h4] at q; cases q
    rw [oput_ne p]
    obtain ⟨y, z, r, u⟩ := R.own b x q
    exact ⟨y, z, r, u.mono (OLe.put h1)⟩

theorem Rel.newH (R : Rel c D O F H s) {a : Addr} {o : Obj} {ob : Ob} (e : s.heap.get? a = some o) (h1 : D a = none) (h2 : O a = none) (h3 : F a = none) (k : OR c D o ob) (hlo : a ≠ sysModules) : Rel c D O F (hupd H a ob) s := by
  refine ⟨R.base, R.dat, fun b x q => ?_, fun b x q => ?_, fun b x q => ?_, (fun b hb => by
    by_cases p : b = a
    · rw [p]; exact hlo
    · exact R.lo b (by simpa [hupd, p] using hb)), R.gens, R.os, R.frs⟩
  · have p : b ≠ a := fun p => by rw [p, h2] at q; cases q
    have := R.oth b x q; exact ⟨this.1, this.2.1, this.2.2.1, by simpa [hupd, p] using this.2.2.2⟩
  · have p : b ≠ a := fun p => by rw [p, h3] at q; cases q
    have := R.frm b x q; exact ⟨this.1, this.2.1, by simpa [hupd, p] using this.2.2⟩
  · by_cases p : b = a
    · subst p; simp [hupd] at q; subst q; exact ⟨h1, o, e, k⟩
    · simp [hupd, p] at q; exact R.own b x q

theorem Rel.newO (R : Rel c D O F H s) {a : Addr} {o : Obj} (e : s.heap.get? a = some o) (h1 : D a = none) (h3 : F a = none) (h4 : H a = none) (hlo : a ≠ sysModules) : Rel c D (oput O a o) F H s := by
  refine ⟨R.base, R.dat, fun b x q => ?_, R.frm, R.own, (fun b hb => by
    by_cases p : b = a
    · rw [p]; exact hlo
    · exact R.lo b (by simpa [oput, p] using hb)), R.gens, R.os, R.frs⟩
  by_cases p : b = a
  · subst p; rw [oput_same] at q; cases q; exact ⟨e, h1, h3, h4⟩
  · rw [oput_ne p] at q; exact R.oth b x q
theorem Rel.subO (R : Rel c D O F H s) {O' : OM} (k : OLe O' O) : Rel c D O' F H s := ⟨R.base, R.dat, fun b x q => R.oth b x (k b x q), R.frm, R.own, fun b hb => R.lo b (hb.imp id fun ⟨o, e⟩ => ⟨o, k b o e⟩), R.gens, R.os, R.frs⟩
theorem Frs.put {c : Cx} {F : FM} (h : Frs c F) (a : Addr) (m : Str → Option Value) : Frs c (fput F a m) := fun e he => by
  obtain ⟨h1, L, h2, h3⟩ := h e he
  refine ⟨h1, L, h2, ?_⟩
  by_cases p : L = a
  · rw [p, fput_same]; rfl
  · rw [fput_ne p]; exact h3
theorem Rel.back {l : List PySem.Env} {O' : OM} {F' : FM} (R : Rel (c.at l) D O' F' H s) (ko : OLe O O') (kf : FLe F F') (h : Frs c F) : Rel c D O F H s :=
  ⟨R.base, R.dat, fun b x q => let y := R.oth b x (ko b x q); ⟨y.1, y.2.1, (by
    cases z : F b with
    | none => rfl
    | some w => have := kf _ _ z; rw [y.2.2.1] at this; cases this), y.2.2.2⟩, fun b x q => R.frm b x (kf b x q), fun a ob e => let ⟨x, o, q, r⟩ := R.own a ob e; ⟨x, o, q, r.at c.fr⟩, fun b hb => R.lo b (hb.imp id fun ⟨o, e⟩ => ⟨o, ko b o e⟩), R.gens, R.os, h⟩
theorem Rel.newF (R : Rel c D O F H s) {a : Addr} {m : Str → Option Value} (e : s.heap.Ns a m) (h1 : D a = none) (h2 : O a = none) (h4 : H a = none) : Rel c D O (fput F a m) H s := by
  refine ⟨R.base, R.dat, fun b x q => ?_, fun b x q => ?_, R.own, R.lo, R.gens, R.os, R.frs.put _ _⟩
  · have p : b ≠ a := fun p => by rw [p, h2] at q; cases q
    rw [fput_ne p]; exact R.oth b x q
  · by_cases p : b = a
    · subst p; rw [fput_same] at q; cases q; exact ⟨e, h1, h4⟩
    · rw [fput_ne p] at q; exact R.frm b x q

theorem Rel.setH (R : Rel c D O F H s) {a : Addr} {ob₀ ob : Ob} {o : Obj} {h' : Heap} {tk : Nat} (e₀ : H a = some ob₀) (hs : Heap.SameBut a s.heap h') (e : h'.get? a = some o) (k : OR c D o ob) :
    Rel c D O F (hupd H a ob) { s with heap := h', toks := tk } := by
  obtain ⟨hD, _⟩ := R.own _ _ e₀
  have hlo : a ≠ sysModules := R.lo a (.inl ⟨_, e₀⟩)
  refine ⟨R.base, fun b x q => ?_, fun b x q => ?_, fun b x q => ?_, fun b x q => ?_, (fun b hb => by
    by_cases p : b = a
    · rw [p]; exact hlo
    · exact R.lo b (by simpa [hupd, p] using hb)), R.gens, R.os, R.frs⟩
  · have p : b ≠ a := fun p => by rw [p, hD] at q; cases q
    exact (hs.2 b p).trans (R.dat b x q)
  · have y := R.oth b x q
    have p : b ≠ a := fun p => by rw [p, e₀] at y; cases y.2.2.2
    exact ⟨(hs.2 b p).trans y.1, y.2.1, y.2.2.1, by simpa [hupd, p] using y.2.2.2⟩
  · obtain ⟨y, z⟩ := R.frm b x q
    have p : b ≠ a := fun p => by rw [p, e₀] at z; cases z.2
    exact ⟨y.sameBut hs p, z.1, by simpa [hupd, p] using z.2⟩
  · by_cases p : b = a
    · subst p; simp [hupd] at q; subst q; exact ⟨hD, o, e, k⟩
    · simp [hupd, p] at q
      obtain ⟨x1, o1, x2, x3⟩ := R.own b x q
      exact ⟨x1, o1, (hs.2 b p).trans x2, x3⟩
theorem Rel.setO (R : Rel c D O F H s) {a : Addr} {o₀ o : Obj} {h' : Heap} {tk : Nat} (e₀ : O a = some o₀) (hs : Heap.SameBut a s.heap h') (e : h'.get? a = some o) :
    Rel c D (oput O a o) F H { s with heap := h', toks := tk } := by
  obtain ⟨_, hD, hF, hH⟩ := R.oth _ _ e₀
  have hlo : a ≠ sysModules := R.lo a (.inr ⟨_, e₀⟩)
  refine ⟨R.base, fun b x q => ?_, fun b x q => ?_, fun b x q => ?_, fun b x q => ?_, (fun b hb => by
    by_cases p : b = a
    · rw [p]; exact hlo
    · exact R.lo b (by simpa [oput, p] using hb)), R.gens, R.os, R.frs⟩
  · have p : b ≠ a := fun p => by rw [p, hD] at q; cases q
    exact (hs.2 b p).trans (R.dat b x q)
  · by_cases p : b = a
    · subst p; rw [oput_same] at q; cases q; exact ⟨e, hD, hF, hH⟩
    · rw [oput_ne p] at q
      have y := R.oth b x q
      exact ⟨(hs.2 b p).trans y.1, y.2⟩
  · obtain ⟨y, z⟩ := R.frm b x q
    have p : b ≠ a := fun p => by rw [p, hF] at q; cases q
    exact ⟨y.sameBut hs p, z⟩
  · have p : b ≠ a := fun p => by rw [p, hH] at q; cases q
    obtain ⟨x1, o1, x2, x3⟩ := R.own b x q
    exact ⟨x1, o1, (hs.2 b p).trans x2, x3⟩
theorem Rel.setF (R : Rel c D O F H s) {a : Addr} {m₀ m : Str → Option Value} {h' : Heap} {tk : Nat} (e₀ : F a = some m₀) (hs : Heap.SameBut a s.heap h') (e : h'.Ns a m) :
    Rel c D O (fput F a m) H { s with heap := h', toks := tk } := by
  obtain ⟨_, hD, hH⟩ := R.frm _ _ e₀
  refine ⟨R.base, fun b x q => ?_, fun b x q => ?_, fun b x q => ?_, fun b x q => ?_, R.lo, R.gens, R.os, R.frs.put _ _⟩
  · have p : b ≠ a := fun p => by rw [p, hD] at q; cases q
    exact (hs.2 b p).trans (R.dat b x q)
  · have y := R.oth b x q
    have p : b ≠ a := fun p => by rw [p, e₀] at y; cases y.2.2.1
    exact ⟨(hs.2 b p).trans y.1, y.2.1, by rw [fput_ne p]; exact y.2.2.1, y.2.2.2⟩
  · by_cases p : b = a
    · subst p; rw [fput_same] at q; cases q; exact ⟨e, hD, hH⟩
    · rw [fput_ne p] at q
      obtain ⟨y, z⟩ := R.frm b x q
      exact ⟨y.sameBut hs p, z⟩
  · have p : b ≠ a := fun p => by rw [p, hH] at q; cases q
    obtain ⟨x1, o1, x2, x3⟩ := R.own b x q
    exact ⟨x1, o1, (hs.2 b p).trans x2, x3⟩
end

noncomputable def Fin (c : Cx) (D O : OM) (F : FM) (H : MH) (r : Res) (cv : Value) (s' : Shared) : Prop := ∃ D', OLe D D' ∧ match r with
  | .val v => VR D' cv v ∧ Rel c D' O F H s'
  | .new o => ∃ a, cv = .ref a ∧ H a = none ∧ Rel c D' O F (hupd H a o) s'
  | .upd a o v => VR D' cv v ∧ Rel c D' O F (hupd H a o) s'
noncomputable def Post (c : Cx) (D O : OM) (F : FM) (Q : V → MH → Prop) (cv : Value) (s' : Shared) : Prop := ∃ D' v H', OLe D D' ∧ VR D' cv v ∧ Rel c D' O F H' s' ∧ Q v H'
theorem Fin.post {c : Cx} {D O : OM} {F : FM} {H : MH} {r : Res} {cv : Value} {s' : Shared} {Q : V → MH → Prop} (h : Fin c D O F H r cv s') (q : fin Q H r) : Post c D O F Q cv s' := by
  obtain ⟨D', k, h⟩ := h
  cases r with
  | val v => exact ⟨D', v, H, k, h.1, h.2, q⟩
  | new o => obtain ⟨a, rfl, hn, R⟩ := h; exact ⟨D', .ref a, _, k, .ref a, R, q a hn⟩
  | upd a o v => exact ⟨D', v, _, k, h.1, h.2, q⟩
end Mini

end
section
set_option autoImplicit false
set_option maxRecDepth 100000
namespace Mini
open PySem

abbrev W {α : Type} (c : Cx) (A : Around) (t : Sem α) (Q : α → Shared → Prop) (s : Shared) : Prop := wpAny (model c.prog c.w) A t Q (fun _ _ => False) s
structure Room (A : Around) : Prop where
  u : A.units + 200 < cLine
  d : A.depth < recursionLimit

section
variable {c : Cx} {A : Around} {D O : OM} {F : FM} {H : MH} {s : Shared}

theorem Fin.val {v : V} {cv : Value} {s' : Shared} (h : VR D cv v) (R : Rel c D O F H s') : Fin c D O F H (.val v) cv s' := ⟨D, .refl D, h, R⟩
theorem Fin.valT {v : V} {cv : Value} {t : Nat} (h : VR D cv v) (R : Rel c D O F H s) : Fin c D O F H (.val v) cv { s with toks := t } := ⟨D, .refl D, h, R.toks t⟩

theorem fin_newList {cs : List Value} {vs : List V} (R : Rel c D O F H s) (h : VRs D cs vs) (hl : vs.length ≤ lim) {arr : Array Value} {n tk : Nat} (e : arr = cs.toArray) :
    Fin c D O F H (.new (.list vs)) (.ref s.heap.objs.size) { s with heap := s.heap.push { cls := .type "list", data := .seq arr n }, toks := tk } := by
  obtain ⟨f1, f2, f3, f4⟩ := R.fresh
  subst e
  refine ⟨D, .refl D, _, rfl, f4, (R.grow (tk := tk) (h' := s.heap.push (listObj cs n)) fun b o e => Heap.get?_push_of_some _ e).newH (o := listObj cs n) (Heap.get?_push_size _ rfl) f1 f2 f3 (.list ⟨n, rfl⟩ h hl) (R.freshLo (Nat.le_refl _))⟩
theorem fin_newTup {cs : List Value} {vs : List V} (R : Rel c D O F H s) (h : VRs D cs vs) (hl : vs.length ≤ lim) {arr : Array Value} {n tk : Nat} (e : arr = cs.toArray) :
    Fin c D O F H (.val (.tup vs)) (.ref s.heap.objs.size) { s with heap := s.heap.push { cls := .type "tuple", data := .seq arr n }, toks := tk } := by
  obtain ⟨f1, f2, f3, f4⟩ := R.fresh
  subst e
  refine ⟨oput D s.heap.objs.size (tupObj cs n), .put f1, .tup (o := tupObj cs n) (cs := cs) (oput_same ..) ⟨n, rfl⟩ hl h.1 fun i a b => (h.2 i a b).mono (.put f1),
    (R.grow (tk := tk) (h' := s.heap.push (tupObj cs n)) fun b o e => Heap.get?_push_of_some _ e).newD (Heap.get?_push_size _ rfl) f1 f2 f3 f4⟩

theorem Rel.listAt (R : Rel c D O F H s) {a : Addr} {vs : List V} (e : H a = some (.list vs)) : ∃ cs n, VRs D cs vs ∧ s.heap.get? a = some (listObj cs n) ∧ vs.length ≤ lim := by
  obtain ⟨_, o, ho, k⟩ := R.own _ _ e
  cases k with
  | list l v b => obtain ⟨n, rfl⟩ := l; exact ⟨_, n, v, ho, b⟩
theorem VR.tup_inv {cv : Value} {vs : List V} (h : VR D cv (.tup vs)) : ∃ a cs n, cv = .ref a ∧ D a = some (tupObj cs n) ∧ VRs D cs vs ∧ vs.length ≤ lim := by
  cases h with
  | tup e t b l k => obtain ⟨n, rfl⟩ := t; exact ⟨_, _, n, rfl, e, ⟨l, k⟩, b⟩
theorem VR.fl_inv {cv : Value} {vs : List V} (h : VR D cv (.fl vs)) : ∃ a cs n, cv = .ref a ∧ D a = some (listObj cs n) ∧ VRs D cs vs ∧ vs.length ≤ lim := by
  cases h with
  | fl e t b l k => obtain ⟨n, rfl⟩ := t; exact ⟨_, _, n, rfl, e, ⟨l, k⟩, b⟩
theorem VR.int_inv {cv : Value} {i : Int} (h : VR D cv (.int i)) : ∃ t, cv = .int i t := by cases h; exact ⟨_, rfl⟩
theorem VR.str_inv {cv : Value} {x : Str} (h : VR D cv (.str x)) : ∃ t, cv = .str x t := by cases h; exact ⟨_, rfl⟩
theorem VR.str_len {cv : Value} {x : Str} (h : VR D cv (.str x)) : x.length ≤ lim := by cases h; assumption
theorem VR.bool_inv {cv : Value} {b : Bool} (h : VR D cv (.bool b)) : cv = .bool b := by cases h; rfl
theorem VR.none_inv {cv : Value} (h : VR D cv .none) : cv = .none := by cases h; rfl
theorem VR.ref_inv {cv : Value} {a : Addr} (h : VR D cv (.ref a)) : cv = .ref a := by cases h; rfl

theorem small_bits {i : Int} (h : small i = true) : Builtin.Int.intBits i ≤ 2 ^ 20 := by
  have h' : i.natAbs < 1000000000000000000 := of_decide_eq_true h
  unfold Builtin.Int.intBits
  split
  · decide
  · have : i.natAbs.log2 < 80 := by
      rw [Nat.log2_lt (by intro e; rename_i q; exact q (by simpa using e))]
      exact Nat.lt_trans h' (by decide)
    (first | lia | omega)

theorem add_snd {a b : Value} {va vb : V} {r : Res} (R : Rel c D O F H s) (ha : VR D a va) (hb : VR D b vb) (h : addOp H va vb = some r) : W c A (binaryOp .Add a b) (Fin c D O F H r) s := by
  cases va <;> cases vb <;> (try (cases h; done))
  case int.int i j =>
    obtain ⟨t, rfl⟩ := ha.int_inv; obtain ⟨u, rfl⟩ := hb.int_inv
    cases h
    exact PyProof.Rows.add_int (.valT (.int _ _) R)
  case str.str x y =>
    obtain ⟨t, rfl⟩ := ha.str_inv; obtain ⟨u, rfl⟩ := hb.str_inv
    have h' : (if (x ++ y).length ≤ lim then some (Res.val (.str (x ++ y))) else none) = some r := h
    split at h'
    · rename_i hl; cases h'
      refine PyProof.Rows.add_str (fun t' tk => .valT (.str _ _ hl) R) ?_
      have e : (x ++ y).length = x.length + y.length := by simp [Str.length_append]
      rw [e] at hl; unfold lim at hl; rw [sizeLine_eq]; (first | lia | omega)
    · cases h'
  case ref.ref x y =>
    obtain rfl := ha.ref_inv; obtain rfl := hb.ref_inv
    simp only [addOp] at h
    split at h
    · rename_i xs ys e1 e2
      unfold newL at h
      split at h
      · rename_i hl; cases h
        obtain ⟨cs, n, v1, g1, _⟩ := R.listAt e1
        obtain ⟨ds, m, v2, g2, _⟩ := R.listAt e2
        refine P.add_list g1 g2 ?_ ?_
        · exact fin_newList R (v1.append v2) hl (by simp)
        · rw [List.length_append, ← v1.1, ← v2.1] at hl; unfold lim at hl; rw [sizeLine_eq, List.size_toArray, List.size_toArray]; (first | lia | omega)
      · cases h
    · cases h

theorem sub_snd {a b : Value} {i j : Int} (R : Rel c D O F H s) (ha : VR D a (.int i)) (hb : VR D b (.int j)) : W c A (binaryOp .Sub a b) (Fin c D O F H (.val (.int (i - j)))) s := by
  obtain ⟨t, rfl⟩ := ha.int_inv; obtain ⟨u, rfl⟩ := hb.int_inv
  exact PyProof.Rows.sub_int (.valT (.int _ _) R)
theorem mod_snd {a b : Value} {i j : Int} (R : Rel c D O F H s) (ha : VR D a (.int i)) (hb : VR D b (.int j)) (h : 0 < j) : W c A (binaryOp .Mod a b) (Fin c D O F H (.val (.int (i % j)))) s := by
  obtain ⟨t, rfl⟩ := ha.int_inv; obtain ⟨u, rfl⟩ := hb.int_inv
  refine PyProof.Rows.mod_int' (by (first | lia | omega)) ?_
  rw [Int.fmod_eq_emod_of_nonneg _ (by (first | lia | omega))]
  exact .valT (.int _ _) R
theorem fdiv_snd {a b : Value} {i j : Int} (R : Rel c D O F H s) (ha : VR D a (.int i)) (hb : VR D b (.int j)) (h : 0 < j) (hs' : small j = true) : W c A (binaryOp .FloorDiv a b) (Fin c D O F H (.val (.int (i / j)))) s := by
  obtain ⟨t, rfl⟩ := ha.int_inv; obtain ⟨u, rfl⟩ := hb.int_inv
  refine PyProof.Rows.floordiv_int (by (first | lia | omega)) ?_ (.inl ?_)
  · rw [Int.fdiv_eq_ediv_of_nonneg _ (by (first | lia | omega))]
    exact .valT (.int _ _) R
  · have h' : j.natAbs < 1000000000000000000 := of_decide_eq_true hs'
    have h2 : j.natAbs.log2 < 80 := (Nat.log2_lt (by (first | lia | omega))).mpr (Nat.lt_trans h' (by decide))
    exact PyProof.noPylong_of_log2 (by (first | lia | omega))
theorem mul_snd_int {a b : Value} {i j : Int} (R : Rel c D O F H s) (ha : VR D a (.int i)) (hb : VR D b (.int j)) (hs : small i = true) (hs' : small j = true) : W c A (binaryOp .Mult a b) (Fin c D O F H (.val (.int (i * j)))) s := by
  obtain ⟨t, rfl⟩ := ha.int_inv; obtain ⟨u, rfl⟩ := hb.int_inv
  exact PyProof.Rows.mul_int (.valT (.int _ _) R) (IntMulOk.of_bits (small_bits hs) (small_bits hs'))
theorem neg_snd {a : Value} {i : Int} (R : Rel c D O F H s) (ha : VR D a (.int i)) : W c A (unaryOp .USub a) (Fin c D O F H (.val (.int (-i)))) s := by
  obtain ⟨t, rfl⟩ := ha.int_inv
  exact PyProof.Rows.neg_int (.valT (.int _ _) R)
theorem not_snd {a : Value} {b : Bool} (R : Rel c D O F H s) (ha : VR D a (.bool b)) : W c A (unaryOp .Not a) (Fin c D O F H (.val (.bool (!b)))) s := by
  obtain rfl := ha.bool_inv
  exact PyProof.Rows.not_of (wpAny_truthy_bool (.val (.bool _) R))
end
end Mini

end
section
set_option autoImplicit false
set_option maxRecDepth 100000
namespace Mini
open PySem

theorem mapO_cons {α β : Type} {f : α → Option β} {a : α} {r : List α} {l : List β} (h : mapO f (a :: r) = some l) : ∃ b t, f a = some b ∧ mapO f r = some t ∧ l = b :: t := by
  unfold mapO at h
  split at h
  · rename_i b t e1 e2; cases h; exact ⟨b, t, e1, e2, rfl⟩
  · cases h
section
variable {c : Cx} {A : Around} {D O : OM} {F : FM} {H : MH} {s : Shared}

mutual
theorem depth_le_all {k : Nat} : ∀ {ds : List PyData}, (∀ d ∈ ds, d.depth ≤ k) → PyData.depthAll ds ≤ k
  | [], _ => by simp [PyData.depthAll]
  | d :: r, h => by
    have h1 := h d (.head _)
    have h2 := depth_le_all (ds := r) fun x hx => h x (.tail _ hx)
    simp only [PyData.depthAll]; (first | lia | omega)
end

theorem reads_of : ∀ (k : Nat) {v : V} {cv : Value} {d : PyData}, Rel c D O F H s → VR D cv v → toD k H v = some d → (∃ as, Reads s.heap cv d as) ∧ d.canLay0 = true ∧ d.depth ≤ k := by
  intro k
  have many : ∀ (k : Nat), (∀ {v : V} {cv : Value} {d : PyData}, Rel c D O F H s → VR D cv v → toD k H v = some d → (∃ as, Reads s.heap cv d as) ∧ d.canLay0 = true ∧ d.depth ≤ k) →
      ∀ (vs : List V) (cs : List Value) (ds : List PyData), Rel c D O F H s → VRs D cs vs → mapO (toD k H) vs = some ds → (∃ as, ReadsAll s.heap cs ds as) ∧ PyData.canLayAll0 ds = true ∧ PyData.depthAll ds ≤ k := by
    intro k ih vs
    induction vs with
    | nil =>
      intro cs ds R h e
      cases e; obtain rfl := h.nil_inv
      exact ⟨⟨_, .nil⟩, by simp [PyData.canLayAll0], by simp [PyData.depthAll]⟩
    | cons v vs ihv =>
      intro cs ds R h e
      obtain ⟨d, t, e1, e2, rfl⟩ := mapO_cons e
      obtain ⟨x, xs, rfl, h1, h2⟩ := h.cons_inv
      obtain ⟨⟨as, r1⟩, c1, p1⟩ := ih R h1 e1
      obtain ⟨⟨bs, r2⟩, c2, p2⟩ := ihv xs t R h2 e2
      refine ⟨⟨_, .cons r1 r2⟩, by simp [PyData.canLayAll0, c1, c2], ?_⟩
      simp only [PyData.depthAll]; (first | lia | omega)
  induction k with
  | zero =>
    intro v cv d R h e
    cases v <;> simp only [toD] at e <;> (try (cases e; done))
    case none => cases e; obtain rfl := h.none_inv; exact ⟨⟨_, .none⟩, by simp [PyData.canLay0], by simp [PyData.depth]⟩
    case bool b => cases e; obtain rfl := h.bool_inv; exact ⟨⟨_, .bool b⟩, by simp [PyData.canLay0], by simp [PyData.depth]⟩
    case int b => cases e; obtain ⟨t, rfl⟩ := h.int_inv; exact ⟨⟨_, .int b t⟩, by simp [PyData.canLay0], by simp [PyData.depth]⟩
    case str b =>
      split at e
      · rename_i q; cases e; obtain ⟨t, rfl⟩ := h.str_inv; exact ⟨⟨_, .str b t⟩, by simpa [PyData.canLay0] using q, by simp [PyData.depth]⟩
      · cases e
  | succ k ih =>
    intro v cv d R h e
    cases v <;> simp only [toD] at e <;> (try (cases e; done))
    case none => cases e; obtain rfl := h.none_inv; exact ⟨⟨_, .none⟩, by simp [PyData.canLay0], by simp [PyData.depth]⟩
    case bool b => cases e; obtain rfl := h.bool_inv; exact ⟨⟨_, .bool b⟩, by simp [PyData.canLay0], by simp [PyData.depth]⟩
    case int b => cases e; obtain ⟨t, rfl⟩ := h.int_inv; exact ⟨⟨_, .int b t⟩, by simp [PyData.canLay0], by simp [PyData.depth]⟩
    case str b =>
      split at e
      · rename_i q; cases e; obtain ⟨t, rfl⟩ := h.str_inv; exact ⟨⟨_, .str b t⟩, by simpa [PyData.canLay0] using q, by simp [PyData.depth]⟩
      · cases e
    case tup vs =>
      obtain ⟨ds, e1, rfl⟩ := Option.map_eq_some_iff.mp e
      obtain ⟨a, cs, n, rfl, ea, hv, _⟩ := h.tup_inv
      obtain ⟨⟨as, r⟩, c1, p1⟩ := many k ih _ _ _ R hv e1
      exact ⟨⟨_, .tuple (R.dat _ _ ea) rfl rfl (by simpa using r)⟩, by simpa [PyData.canLay0] using c1, by simp only [PyData.depth]; (first | lia | omega)⟩
    case fl vs =>
      obtain ⟨ds, e1, rfl⟩ := Option.map_eq_some_iff.mp e
      obtain ⟨a, cs, n, rfl, ea, hv, _⟩ := h.fl_inv
      obtain ⟨⟨as, r⟩, c1, p1⟩ := many k ih _ _ _ R hv e1
      exact ⟨⟨_, .list (R.dat _ _ ea) rfl rfl (by simpa using r)⟩, by simpa [PyData.canLay0] using c1, by simp only [PyData.depth]; (first | lia | omega)⟩
    case ref a =>
      split at e
      · rename_i vs ea
        obtain ⟨ds, e1, rfl⟩ := Option.map_eq_some_iff.mp e
        obtain rfl := h.ref_inv
        obtain ⟨cs, n, hv, g, _⟩ := R.listAt ea
        obtain ⟨⟨as, r⟩, c1, p1⟩ := many k ih _ _ _ R hv e1
        exact ⟨⟨_, .list g rfl rfl (by simpa using r)⟩, by simpa [PyData.canLay0] using c1, by simp only [PyData.depth]; (first | lia | omega)⟩
      · cases e

theorem readsAll_of (k : Nat) (R : Rel c D O F H s) : ∀ (vs : List V) (cs : List Value) (ds : List PyData), VRs D cs vs → mapO (toD k H) vs = some ds → (∃ as, ReadsAll s.heap cs ds as) ∧ PyData.canLayAll0 ds = true ∧ PyData.depthAll ds ≤ k
  | [], cs, ds, h, e => by cases e; obtain rfl := h.nil_inv; exact ⟨⟨_, .nil⟩, by simp [PyData.canLayAll0], by simp [PyData.depthAll]⟩
  | v :: vs, cs, ds, h, e => by
    obtain ⟨d, t, e1, e2, rfl⟩ := mapO_cons e
    obtain ⟨x, xs, rfl, h1, h2⟩ := h.cons_inv
    obtain ⟨⟨as, r1⟩, c1, p1⟩ := reads_of k R h1 e1
    obtain ⟨⟨bs, r2⟩, c2, p2⟩ := readsAll_of k R vs xs t h2 e2
    refine ⟨⟨_, .cons r1 r2⟩, by simp [PyData.canLayAll0, c1, c2], ?_⟩
    simp only [PyData.depthAll]; (first | lia | omega)

theorem shaped_of {d : PyData} (h : d.canLay0 = true) (h' : d.depth ≤ lineD) : SeqAt.shaped d = true := by
  unfold SeqAt.shaped; rw [h]; simp; unfold lineD at h'; (first | lia | omega)

theorem eqOp_inv {a b : V} {r : Bool} (h : eqOp H a b = some r) : ∃ x y, toD lineD H a = some x ∧ toD lineD H b = some y ∧ r = PyData.eqv x y := by
  unfold eqOp at h; split at h
  · rename_i x y e1 e2; cases h; exact ⟨x, y, e1, e2, rfl⟩
  · cases h

theorem eq_snd {a b : Value} {va vb : V} {r : Bool} (R : Rel c D O F H s) (M : Room A) (ha : VR D a va) (hb : VR D b vb) (h : eqOp H va vb = some r) : W c A (compareOp .Eq a b) (Fin c D O F H (.val (.bool r))) s := by
  obtain ⟨x, y, e1, e2, rfl⟩ := eqOp_inv h
  obtain ⟨⟨as, r1⟩, c1, p1⟩ := reads_of _ R ha e1
  obtain ⟨⟨bs, r2⟩, c2, p2⟩ := reads_of _ R hb e2
  exact PyProof.Rows.eq_dataH r1 r2 (shaped_of c1 p1) (shaped_of c2 p2) (by have := M.u; (first | lia | omega)) (.val (.bool _) R)
theorem ne_snd {a b : Value} {va vb : V} {r : Bool} (R : Rel c D O F H s) (M : Room A) (ha : VR D a va) (hb : VR D b vb) (h : eqOp H va vb = some r) : W c A (compareOp .NotEq a b) (Fin c D O F H (.val (.bool (!r)))) s := by
  obtain ⟨x, y, e1, e2, rfl⟩ := eqOp_inv h
  obtain ⟨⟨as, r1⟩, c1, p1⟩ := reads_of _ R ha e1
  obtain ⟨⟨bs, r2⟩, c2, p2⟩ := reads_of _ R hb e2
  exact PyProof.Rows.ne_dataH r1 r2 (shaped_of c1 p1) (shaped_of c2 p2) (by have := M.u; (first | lia | omega)) (.val (.bool _) R)
theorem lt_snd {a b : Value} {i j : Int} (R : Rel c D O F H s) (ha : VR D a (.int i)) (hb : VR D b (.int j)) : W c A (compareOp .Lt a b) (Fin c D O F H (.val (.bool (decide (i < j))))) s := by
  obtain ⟨t, rfl⟩ := ha.int_inv; obtain ⟨u, rfl⟩ := hb.int_inv
  exact PyProof.Rows.lt_int (.val (.bool _) R)
theorem le_snd {a b : Value} {i j : Int} (R : Rel c D O F H s) (ha : VR D a (.int i)) (hb : VR D b (.int j)) : W c A (compareOp .LtE a b) (Fin c D O F H (.val (.bool (decide (i ≤ j))))) s := by
  obtain ⟨t, rfl⟩ := ha.int_inv; obtain ⟨u, rfl⟩ := hb.int_inv
  exact PyProof.Rows.le_int (.val (.bool _) R)
theorem gt_snd {a b : Value} {i j : Int} (R : Rel c D O F H s) (ha : VR D a (.int i)) (hb : VR D b (.int j)) : W c A (compareOp .Gt a b) (Fin c D O F H (.val (.bool (decide (j < i))))) s := by
  obtain ⟨t, rfl⟩ := ha.int_inv; obtain ⟨u, rfl⟩ := hb.int_inv
  exact PyProof.Rows.gt_int (.val (.bool _) R)
theorem ge_snd {a b : Value} {i j : Int} (R : Rel c D O F H s) (ha : VR D a (.int i)) (hb : VR D b (.int j)) : W c A (compareOp .GtE a b) (Fin c D O F H (.val (.bool (decide (j ≤ i))))) s := by
  obtain ⟨t, rfl⟩ := ha.int_inv; obtain ⟨u, rfl⟩ := hb.int_inv
  exact PyProof.Rows.ge_int (.val (.bool _) R)

theorem isSame_none {cv : Value} {v : V} (h : VR D cv v) : isSame cv .none = pure (isN v) := by
  cases h <;> rfl
theorem isNone_snd {a : Value} {va : V} (R : Rel c D O F H s) (ha : VR D a va) : W c A (compareOp .Is a .none) (Fin c D O F H (.val (.bool (isN va)))) s := by
  show wpAny _ _ (do return Value.bool (← isSame a .none)) _ _ _
  rw [isSame_none ha]
  exact wpAny_bind (wpAny_pure (wpAny_pure (.val (.bool _) R)))
theorem isNotNone_snd {a : Value} {va : V} (R : Rel c D O F H s) (ha : VR D a va) : W c A (compareOp .IsNot a .none) (Fin c D O F H (.val (.bool (!isN va)))) s := by
  show wpAny _ _ (do return Value.bool (!(← isSame a .none))) _ _ _
  rw [isSame_none ha]
  exact wpAny_bind (wpAny_pure (wpAny_pure (.val (.bool _) R)))

theorem in_list_snd {a : Value} {l : Addr} {vx : V} {d : PyData} {ds : List PyData} {cs : List Value} {vs : List V} {n : Nat} (R : Rel c D O F H s) (M : Room A) (ha : VR D a vx) (g : s.heap.get? l = some (listObj cs n)) (hv : VRs D cs vs)
    (e1 : toD lineD H vx = some d) (e2 : mapO (toD lineD H) vs = some ds) : W c A (compareOp .In a (.ref l)) (Fin c D O F H (.val (.bool (ds.any fun y => PyData.eqv y d)))) s ∧
      W c A (compareOp .NotIn a (.ref l)) (Fin c D O F H (.val (.bool (!ds.any fun y => PyData.eqv y d)))) s := by
  obtain ⟨⟨as, r1⟩, c1, p1⟩ := reads_of _ R ha e1
  obtain ⟨⟨bs, r2⟩, c2, p2⟩ := readsAll_of _ R _ _ _ hv e2
  have hu : A.units + 1 + min (PyData.depthAll ds) d.depth < cLine := by have := M.u; unfold lineD at p1; (first | lia | omega)
  exact ⟨SeqAt.in_list_reads (.list g rfl rfl (by simpa using r2)) r1 c2 c1 hu (.val (.bool _) R), SeqAt.notIn_list_reads (.list g rfl rfl (by simpa using r2)) r1 c2 c1 hu (.val (.bool _) R)⟩
theorem in_tup_snd {a : Value} {l : Addr} {vx : V} {d : PyData} {ds : List PyData} {cs : List Value} {vs : List V} {n : Nat} (R : Rel c D O F H s) (M : Room A) (ha : VR D a vx) (g : s.heap.get? l = some (tupObj cs n)) (hv : VRs D cs vs)
    (e1 : toD lineD H vx = some d) (e2 : mapO (toD lineD H) vs = some ds) : W c A (compareOp .In a (.ref l)) (Fin c D O F H (.val (.bool (ds.any fun y => PyData.eqv y d)))) s ∧
      W c A (compareOp .NotIn a (.ref l)) (Fin c D O F H (.val (.bool (!ds.any fun y => PyData.eqv y d)))) s := by
  obtain ⟨⟨as, r1⟩, c1, p1⟩ := reads_of _ R ha e1
  obtain ⟨⟨bs, r2⟩, c2, p2⟩ := readsAll_of _ R _ _ _ hv e2
  have hu : A.units + 1 + min (PyData.depthAll ds) d.depth < cLine := by have := M.u; unfold lineD at p1; (first | lia | omega)
  exact ⟨SeqAt.in_tuple_reads (.tuple g rfl rfl (by simpa using r2)) r1 c2 c1 hu (.val (.bool _) R), SeqAt.notIn_tuple_reads (.tuple g rfl rfl (by simpa using r2)) r1 c2 c1 hu (.val (.bool _) R)⟩
end
end Mini

end
section
set_option autoImplicit false
set_option maxRecDepth 100000
namespace Mini
open PySem

section
variable {c : Cx} {A : Around} {D O : OM} {F : FM} {H : MH} {s : Shared}

theorem pyIdx_eq (n : Nat) (i : Int) : pyIdx n i = seqIndex? i n := by
  unfold pyIdx seqIndex?
  dsimp only
  by_cases h : 0 ≤ i
  · have e : (if i < 0 then i + (n : Int) else i) = i := if_neg (by (first | lia | omega))
    rw [if_pos h, e]
    by_cases h2 : i < n
    · rw [if_pos h2, if_pos (by simp [h, h2])]
    · rw [if_neg h2, if_neg (by simp [h2])]
  · have e : (if i < 0 then i + (n : Int) else i) = i + n := if_pos (by (first | lia | omega))
    rw [if_neg h, e]
    by_cases h2 : -(n : Int) ≤ i
    · rw [if_pos h2, if_pos (by simp only [Bool.and_eq_true, decide_eq_true_eq]; (first | lia | omega))]
      congr 2; (first | lia | omega)
    · rw [if_neg h2, if_neg (by simp only [Bool.and_eq_true, decide_eq_true_eq]; (first | lia | omega))]
theorem pyIdx_bounds {n : Nat} {i : Int} {j : Nat} (h : pyIdx n i = some j) : -(n : Int) ≤ i ∧ i < n ∧ j < n := by
  unfold pyIdx at h
  split at h
  · split at h
    · cases h; (first | lia | omega)
    · cases h
  · split at h
    · cases h; (first | lia | omega)
    · cases h

theorem getItem_list_snd {l : Addr} {cs : List Value} {n : Nat} {k : Int} {t : Tok} {j : Nat} {x : Value} {Q : Value → Shared → Prop} (g : s.heap.get? l = some (listObj cs n)) (hl : cs.length ≤ lim)
    (hj : pyIdx cs.length k = some j) (hx : cs[j]? = some x) (h : Q x s) : W c A (getItem (.ref l) (.int k t)) Q s := by
  have hb := pyIdx_bounds hj
  have hL : s.heap.IsList l cs.toArray := ⟨_, g, rfl, n, rfl⟩
  unfold lim at hl
  unfold pyIdx at hj
  by_cases h0 : 0 ≤ k
  · rw [if_pos h0, if_pos hb.2.1] at hj
    cases hj
    exact wpAny_getItem_list hL h0 (by (first | lia | omega)) (by simpa using hx) h
  · rw [if_neg h0, if_pos hb.1] at hj
    cases hj
    refine wpAny_getItem_list_neg hL (by (first | lia | omega)) (by simpa using hb.1) (by (first | lia | omega)) ?_ h
    have e : (k + (cs.toArray.size : Int)) = ((cs.length : Int) + k) := by simp [Int.add_comm]
    rw [e]; simpa using hx

theorem tail_snd {value slice : Expr} {o i : Value} {T id : String} {Q : Value → Shared → Prop} (hT : s.TypeIs o T) (hl : typeLookup (.type T) "__getitem__" = pure (some (.builtin id)))
    (hg : W c A (getItem o i) Q s) (hs : ∀ l u p, slice ≠ .Slice l u none p) : W c A (PyProof.Rows.subscriptTail value slice o i) Q s := by
  refine PyProof.Rows.tail_any (ops := [o, i]) hT hl hg ?_
  unfold subscripted
  split
  · exact absurd rfl (hs _ _ _)
  · rename_i q; cases q
  · rfl

theorem idx_seq_snd {value slice : Expr} {o i : Value} {vo vi r : V} (R : Rel c D O F H s) (ho : VR D o vo) (hi : VR D i vi) (h : idxOp H vo vi = some r)
    (hnd : ∀ a kvs, vo = .ref a → H a ≠ some (.dict kvs)) (hs : ∀ l u p, slice ≠ .Slice l u none p) :
    W c A (PyProof.Rows.subscriptTail value slice o i) (Fin c D O F H (.val r)) s := by
  cases vo <;> (try (cases vi <;> cases h; done))
  case ref a =>
    obtain rfl := ho.ref_inv
    simp only [idxOp] at h
    split at h
    · rename_i vs k e
      obtain ⟨j, e1, e2⟩ := Option.bind_eq_some_iff.mp h
      obtain ⟨cs, n, v1, g, hl⟩ := R.listAt e
      obtain ⟨t, rfl⟩ := hi.int_inv
      obtain ⟨x, hx, hv⟩ := v1.get? e2
      exact tail_snd (T := "list") ⟨_, g, rfl⟩ slot_list_getitem.lookup (getItem_list_snd g (by rw [v1.1]; exact hl) (by rw [v1.1]; exact e1) hx (.val hv R)) hs
    · rename_i kvs k e; exact absurd e (hnd _ _ rfl)
    · cases h
  case tup vs =>
    obtain ⟨a, cs, n, rfl, e, v1, hl⟩ := ho.tup_inv
    cases vi <;> (try (cases h; done))
    case int k =>
      simp only [idxOp] at h
      obtain ⟨j, e1, e2⟩ := Option.bind_eq_some_iff.mp h
      obtain ⟨t, rfl⟩ := hi.int_inv
      obtain ⟨x, hx, hv⟩ := v1.get? e2
      have hb := pyIdx_bounds e1
      unfold lim at hl
      have g := R.dat _ _ e
      exact tail_snd (T := "tuple") ⟨_, g, rfl⟩ PySem.F.slot_tuple_getitem.lookup (P.getItem_tuple g (by (first | lia | omega)) (by (first | lia | omega)) (by rw [← pyIdx_eq, List.size_toArray, v1.1]; exact e1) (by simpa using hx) (.val hv R)) hs
  case fl vs =>
    obtain ⟨a, cs, n, rfl, e, v1, hl⟩ := ho.fl_inv
    cases vi <;> (try (cases h; done))
    case int k =>
      simp only [idxOp] at h
      obtain ⟨j, e1, e2⟩ := Option.bind_eq_some_iff.mp h
      obtain ⟨t, rfl⟩ := hi.int_inv
      obtain ⟨x, hx, hv⟩ := v1.get? e2
      exact tail_snd (T := "list") ⟨_, R.dat _ _ e, rfl⟩ slot_list_getitem.lookup (getItem_list_snd (R.dat _ _ e) (by rw [v1.1]; exact hl) (by rw [v1.1]; exact e1) hx (.val hv R)) hs
  case str x =>
    have hl := ho.str_len
    obtain ⟨t, rfl⟩ := ho.str_inv
    cases vi <;> (try (cases h; done))
    case int k =>
      simp only [idxOp] at h
      obtain ⟨j, e1, e2⟩ := Option.bind_eq_some_iff.mp h
      obtain ⟨ch, e3, rfl⟩ := Option.map_eq_some_iff.mp e2
      obtain ⟨u, rfl⟩ := hi.int_inv
      have hb := pyIdx_bounds e1
      unfold lim at hl
      refine tail_snd (T := "str") (typeIs_str s x t) PySem.F.slot_str_getitem.lookup (P.getItem_str (c := ch) ?_ ?_ (.valT (.str _ _ (by show 1 ≤ lim; decide)) R)) hs
      · simp only [Bool.or_eq_false_iff, decide_eq_false_iff_not]; (first | lia | omega)
      · rw [← pyIdx_eq, e1]; exact e3

theorem len_snd {a : Value} {va : V} {r : Res} (R : Rel c D O F H s) (ha : VR D a va) (h : primOp .len H [va] = some r) (hnd : ∀ x kvs, va = .ref x → H x ≠ some (.dict kvs)) : W c A (call (.builtin "len") [a]) (Fin c D O F H r) s := by
  cases va <;> (try (cases h; done))
  case str x =>
    cases h
    have hl := ha.str_len
    obtain ⟨t, rfl⟩ := ha.str_inv
    unfold lim at hl
    exact P.len_str (by (first | lia | omega)) (.valT (.int _ _) R)
  case tup vs =>
    cases h
    obtain ⟨p, cs, n, rfl, e, v1, hl⟩ := ha.tup_inv
    unfold lim at hl
    refine P.len_tuple (R.dat _ _ e) (by rw [List.size_toArray, v1.1]; (first | lia | omega)) ?_
    rw [List.size_toArray, v1.1]
    exact .valT (.int _ _) R
  case fl vs =>
    cases h
    obtain ⟨p, cs, n, rfl, e, v1, hl⟩ := ha.fl_inv
    unfold lim at hl
    refine PyProof.Rows.len_list ⟨_, R.dat _ _ e, rfl, n, rfl⟩ (by rw [List.size_toArray, v1.1]; (first | lia | omega)) ?_
    rw [List.size_toArray, v1.1]
    exact .valT (.int _ _) R
  case ref x =>
    obtain rfl := ha.ref_inv
    have h' : (match H x with
      | some (.list vs) => some (Res.val (.int vs.length))
      | some (.dict kvs) => some (Res.val (.int kvs.length))
      | none => none) = some r := h
    split at h'
    · rename_i vs e
      cases h'
      obtain ⟨cs, n, v1, g, hl⟩ := R.listAt e
      unfold lim at hl
      refine PyProof.Rows.len_list ⟨_, g, rfl, n, rfl⟩ (by rw [List.size_toArray, v1.1]; (first | lia | omega)) ?_
      rw [List.size_toArray, v1.1]
      exact .valT (.int _ _) R
    · rename_i kvs e; exact absurd e (hnd _ _ rfl)
    · cases h'

theorem isi_snd {a : Value} {va : V} {t : Ty} {r : Bool} (R : Rel c D O F H s) (ha : VR D a va) (h : isiOf H t va = some r) : W c A (call (.builtin "isinstance") [a, .type t.name]) (Fin c D O F H (.val (.bool r))) s := by
  cases va <;> simp only [isiOf] at h <;> (try (cases h; done))
  case none => cases h; obtain rfl := ha.none_inv; cases t <;> first
    | exact IsiPair.NoneType_int (.valT (.bool _) R) | exact IsiPair.NoneType_bool (.valT (.bool _) R) | exact IsiPair.NoneType_list (.valT (.bool _) R) | exact IsiPair.NoneType_tuple (.valT (.bool _) R) | exact IsiPair.NoneType_str (.valT (.bool _) R)
  case bool b => cases h; obtain rfl := ha.bool_inv; cases t <;> first
    | exact IsiPair.bool_int (.val (.bool _) R) | exact IsiPair.bool_bool (.val (.bool _) R) | exact IsiPair.bool_list (.valT (.bool _) R) | exact IsiPair.bool_tuple (.valT (.bool _) R) | exact IsiPair.bool_str (.valT (.bool _) R)
  case int b => cases h; obtain ⟨u, rfl⟩ := ha.int_inv; cases t <;> first
    | exact IsiPair.int_int (.val (.bool _) R) | exact IsiPair.int_bool (.valT (.bool _) R) | exact IsiPair.int_list (.valT (.bool _) R) | exact IsiPair.int_tuple (.valT (.bool _) R) | exact IsiPair.int_str (.valT (.bool _) R)
  case str b => cases h; obtain ⟨u, rfl⟩ := ha.str_inv; cases t <;> first
    | exact IsiPair.str_int (.valT (.bool _) R) | exact IsiPair.str_bool (.valT (.bool _) R) | exact IsiPair.str_list (.valT (.bool _) R) | exact IsiPair.str_tuple (.valT (.bool _) R) | exact IsiPair.str_str (.val (.bool _) R)
  case tup vs => cases h; obtain ⟨p, cs, n, rfl, e, _, _⟩ := ha.tup_inv; have g := R.dat _ _ e; cases t <;> first
    | exact IsiPair.tuple_int g rfl (.valT (.bool _) R) | exact IsiPair.tuple_bool g rfl (.valT (.bool _) R) | exact IsiPair.tuple_list g rfl (.valT (.bool _) R) | exact IsiPair.tuple_tuple g rfl (.val (.bool _) R) | exact IsiPair.tuple_str g rfl (.valT (.bool _) R)
  case fl vs => cases h; obtain ⟨p, cs, n, rfl, e, _, _⟩ := ha.fl_inv; have g := R.dat _ _ e; cases t <;> first
    | exact IsiPair.list_int g rfl (.valT (.bool _) R) | exact IsiPair.list_bool g rfl (.valT (.bool _) R) | exact IsiPair.list_list g rfl (.val (.bool _) R) | exact IsiPair.list_tuple g rfl (.valT (.bool _) R) | exact IsiPair.list_str g rfl (.valT (.bool _) R)
  case ref x =>
    obtain rfl := ha.ref_inv
    split at h
    · rename_i vs e; cases h
      obtain ⟨cs, n, v1, g, hl⟩ := R.listAt e
      cases t <;> first
        | exact IsiPair.list_int g rfl (.valT (.bool _) R) | exact IsiPair.list_bool g rfl (.valT (.bool _) R) | exact IsiPair.list_list g rfl (.val (.bool _) R) | exact IsiPair.list_tuple g rfl (.valT (.bool _) R) | exact IsiPair.list_str g rfl (.valT (.bool _) R)
    · cases h

theorem toInt_snd {a : Value} {b : Bool} (R : Rel c D O F H s) (ha : VR D a (.bool b)) : W c A (call (.type "int") [a]) (Fin c D O F H (.val (.int (if b then 1 else 0)))) s := by
  obtain rfl := ha.bool_inv
  exact call_int_bool (.valT (.int _ _) R)
end
end Mini

end
section
set_option autoImplicit false
set_option linter.unusedVariables false
set_option linter.unusedSectionVars false
set_option maxRecDepth 100000
namespace Mini
open PySem

section
variable {K : Type} [DecidableEq K] {D : OM} {enc : K → V}

theorem KV.nil : KV D enc [] [] := ⟨rfl, fun i h => nomatch h⟩
theorem KV.cons {x : K × Value} {p : V × V} {xs : List (K × Value)} {kvs : List (V × V)} (h : p.1 = enc x.1) (h' : VR D x.2 p.2) (t : KV D enc xs kvs) : KV D enc (x :: xs) (p :: kvs) :=
  ⟨by simp [t.1], fun i a b => by cases i with
    | zero => exact ⟨h, h'⟩
    | succ i => exact t.2 i (by simpa using a) (by simpa using b)⟩
theorem KV.cons_inv {x : K × Value} {p : V × V} {xs : List (K × Value)} {kvs : List (V × V)} (t : KV D enc (x :: xs) (p :: kvs)) : p.1 = enc x.1 ∧ VR D x.2 p.2 ∧ KV D enc xs kvs :=
  ⟨(t.2 0 (by simp) (by simp)).1, (t.2 0 (by simp) (by simp)).2, by simpa using t.1, fun i a b => t.2 (i + 1) (by simpa using a) (by simpa using b)⟩
theorem KV.find (inj : ∀ a b, enc a = enc b → a = b) {k : K} : ∀ {xs : List (K × Value)} {kvs : List (V × V)}, KV D enc xs kvs →
    (∀ v, dfind kvs (enc k) = some v → ∃ cv, valueAt xs k = some cv ∧ VR D cv v) ∧ (dfind kvs (enc k) = none → valueAt xs k = none)
  | [], [], _ => ⟨fun v h => by simp [dfind] at h, fun _ => rfl⟩
  | [], _ :: _, h => by have := h.1; simp at this
  | _ :: _, [], h => by have := h.1; simp at this
  | x :: xs, p :: kvs, h => by
    obtain ⟨h1, h2, h3⟩ := h.cons_inv
    have ih := KV.find inj (k := k) h3
    by_cases e : x.1 = k
    · have e' : p.1 = enc k := by rw [h1, e]
      refine ⟨fun v hv => ?_, fun hv => ?_⟩
      · simp [dfind, e'] at hv
        subst hv
        exact ⟨x.2, by simp [valueAt, e], h2⟩
      · simp [dfind, e'] at hv
    · have e' : p.1 ≠ enc k := fun q => e (inj _ _ (h1.symm.trans q))
      refine ⟨fun v hv => ?_, fun hv => ?_⟩
      · have : dfind kvs (enc k) = some v := by simpa [dfind, List.find?_cons, e'] using hv
        obtain ⟨cv, q1, q2⟩ := ih.1 v this
        exact ⟨cv, by simpa [valueAt, List.find?_cons, e] using q1, q2⟩
      · have : dfind kvs (enc k) = none := by simpa [dfind, List.find?_cons, e'] using hv
        simpa [valueAt, List.find?_cons, e] using ih.2 this
theorem stored_cons {x : K × Value} {xs : List (K × Value)} {k : K} {cv : Value} (hn : ((x :: xs).map (·.1)).Nodup) : stored (x :: xs) k cv = if x.1 = k then (x.1, cv) :: xs else x :: stored xs k cv := by
  rw [List.map_cons, List.nodup_cons] at hn
  by_cases e : x.1 = k
  · rw [if_pos e]
    unfold stored
    rw [if_pos (by simp [e]), List.map_cons, if_pos e, map_store_of_not_mem xs k cv (e ▸ hn.1)]
  · rw [if_neg e]
    unfold stored
    by_cases h : xs.any (fun kv => kv.1 = k) = true
    · rw [if_pos (by simp [h]), if_pos h, List.map_cons, if_neg e]
    · rw [if_neg (by simp [h, e]), if_neg h]; rfl
theorem KV.put (inj : ∀ a b, enc a = enc b → a = b) {k : K} {cv : Value} {v : V} (hv : VR D cv v) : ∀ {xs : List (K × Value)} {kvs : List (V × V)}, (xs.map (·.1)).Nodup → KV D enc xs kvs →
    KV D enc (stored xs k cv) (dput kvs (enc k) v)
  | [], [], _, _ => .cons rfl hv .nil
  | [], _ :: _, _, h => by have := h.1; simp at this
  | _ :: _, [], _, h => by have := h.1; simp at this
  | x :: xs, (k', v') :: kvs, hn, h => by
    obtain ⟨h1, h2, h3⟩ := h.cons_inv
    rw [stored_cons hn]
    have h1' : k' = enc x.1 := h1
    by_cases e : x.1 = k
    · have e' : k' = enc k := by rw [h1', e]
      rw [if_pos e, dput, if_pos e']
      exact .cons h1 hv h3
    · have e' : k' ≠ enc k := fun q => e (inj _ _ (h1'.symm.trans q))
      rw [if_neg e, dput, if_neg e']
      exact .cons h1 h2 (KV.put inj hv (by rw [List.map_cons, List.nodup_cons] at hn; exact hn.2) h3)
theorem stored_nodup {xs : List (K × Value)} {k : K} {cv : Value} (hn : (xs.map (·.1)).Nodup) : ((stored xs k cv).map (·.1)).Nodup := by
  unfold stored
  split
  · rename_i h
    have e : (xs.map fun kv => if kv.1 = k then (kv.1, cv) else kv).map (·.1) = xs.map (·.1) := by
      rw [List.map_map]; apply List.map_congr_left; intro a _; simp only [Function.comp]; split <;> rfl
    rw [e]; exact hn
  · rename_i h
    rw [List.map_append, List.map_cons, List.map_nil, List.nodup_append]
    refine ⟨hn, by simp, ?_⟩
    intro a ha b hb
    simp only [List.mem_singleton] at hb
    subst hb
    intro e
    subst e
    obtain ⟨p, hp, rfl⟩ := List.mem_map.mp ha
    exact h (List.any_eq_true.mpr ⟨p, hp, by simp⟩)
theorem dput_length {k v : V} : ∀ (kvs : List (V × V)), (dput kvs k v).length ≤ kvs.length + 1
  | [] => by simp [dput]
  | (a, b) :: r => by
    unfold dput
    split
    · simp
    · have := dput_length (k := k) (v := v) r; simp; (first | lia | omega)
end

theorem encT_inj : ∀ a b : List Int, encT a = encT b → a = b := fun a b h => by
  unfold encT at h
  injection h with h
  exact List.map_inj_right (fun x y e => by injection e) |>.mp h
theorem int_inj : ∀ a b : Int, V.int a = V.int b → a = b := fun a b h => by injection h
theorem str_inj : ∀ a b : Str, V.str a = V.str b → a = b := fun a b h => by injection h

theorem KV.kk {K : Type} {D : OM} {enc : K → V} {n : Nat} (he : ∀ k, kk (enc k) = n) {xs : List (K × Value)} {kvs : List (V × V)} (h : KV D enc xs kvs) : ∀ p ∈ kvs, Mini.kk p.1 = n := fun p hp => by
  obtain ⟨i, hi, rfl⟩ := List.getElem_of_mem hp
  rw [(h.2 i (by rw [h.1]; exact hi) hi).1, he]
theorem kk_int (i : Int) : kk (.int i) = 3 := rfl
theorem kk_str (i : Str) : kk (.str i) = 1 := rfl
theorem intsAll_map (is : List Int) : intsAll (is.map .int) = true := by simp [intsAll]
theorem kk_encT (is : List Int) : kk (encT is) = 2 := by simp [kk, encT, intsAll_map]
theorem ints_of_all : ∀ {vs : List V}, intsAll vs = true → ∃ is : List Int, vs = is.map .int := by
  intro vs
  induction vs with
  | nil => intro _; exact ⟨[], rfl⟩
  | cons v r ih =>
    intro h
    unfold intsAll at h
    rw [List.all_cons, Bool.and_eq_true] at h
    obtain ⟨is, rfl⟩ := ih h.2
    cases v with
    | int i => exact ⟨i :: is, rfl⟩
    | none | bool | str | tup | fl | ref | exc => exact Bool.noConfusion h.1
theorem pairs_nil {prog : Program} {w : World} {K : Type} [DecidableEq K] {k : KeyKind prog w K} {l : List DictEntry} (h : Pairs k l []) : l = [] := by cases h; rfl

section
variable {c : Cx} {A : Around} {D O : OM} {F : FM} {H : MH} {s : Shared}

theorem itemsAre_of {D : OM} : ∀ {is : List Int} {cs : List Value}, VRs D cs (is.map .int) → ItemsAre (intKind c.prog c.w) is cs
  | [], cs, h => by obtain rfl := VRs.nil_inv h; exact .nil
  | i :: is, cs, h => by
    obtain ⟨x, xs, rfl, h1, h2⟩ := VRs.cons_inv h
    obtain ⟨t, rfl⟩ := h1.int_inv
    exact .cons (intKind_is _ _ _ _) (itemsAre_of h2)
theorem TupInts.key (R : Rel c D O F H s) {is : List Int} {a : Addr} (h : TupInts D is a) : (tupleKind (intKind c.prog c.w)).is s.heap is a := by
  obtain ⟨o, cs, e, ⟨n, rfl⟩, v⟩ := h
  exact ⟨_, _, n, R.dat _ _ e, rfl, rfl, by simpa using itemsAre_of v⟩
theorem tupInts_of {a : Value} {is : List Int} (h : VR D a (encT is)) : ∃ x, a = .ref x ∧ TupInts D is x := by
  obtain ⟨x, cs, n, rfl, e, v, _⟩ := VR.tup_inv h
  exact ⟨x, rfl, _, cs, e, ⟨n, rfl⟩, v⟩

inductive DictAt (c : Cx) (D : OM) (s : Shared) (d : Addr) (kvs : List (V × V)) : Prop
  | int (xs : List (Int × Value)) : s.heap.DictOf (intKind c.prog c.w) d xs → KV D V.int xs kvs → DictAt c D s d kvs
  | str (xs : List (Str × Value)) : s.heap.DictOf (strKind c.prog c.w) d xs → KV D V.str xs kvs → DictAt c D s d kvs
  | tup (xs : List (List Int × Addr × Value)) : s.heap.DictOfH (tupleKind (intKind c.prog c.w)) d xs → (∀ x ∈ xs, TupInts D x.1 x.2.1) → KV D encT (PyProof.Rows.kvsOf xs) kvs → DictAt c D s d kvs
theorem Rel.dictAt (R : Rel c D O F H s) {d : Addr} {kvs : List (V × V)} (e : H d = some (.dict kvs)) : DictAt c D s d kvs ∧ kvs.length ≤ lim := by
  obtain ⟨_, o, ho, k⟩ := R.own _ _ e
  cases k with
  | dict x y z l =>
    refine ⟨?_, l⟩
    cases z with
    | int xs a b n kv => exact .int xs ⟨_, _, _, ho, x, y, a, b, n⟩ kv
    | str xs a b n kv => exact .str xs ⟨_, _, _, ho, x, y, a, b, n⟩ kv
    | tup xs a b n kv => exact .tup xs ⟨_, _, _, ho, x, y, a, fun q hq => (b q hq).key R, n⟩ b kv

theorem KV.nil_of {K : Type} {D : OM} {enc : K → V} {xs : List (K × Value)} (h : KV D enc xs []) : xs = [] := List.eq_nil_of_length_eq_zero h.1
theorem dictOf_nil_any {prog : Program} {w : World} {K K' : Type} [DecidableEq K] [DecidableEq K'] {k : KeyKind prog w K} {k' : KeyKind prog w K'} {h : Heap} {d : Addr} (x : h.DictOf k d []) : h.DictOf k' d [] := by
  obtain ⟨o, es, ep, h1, h2, h3, _, h5, _⟩ := x
  have e : es.toList = [] := pairs_nil h5
  have e' : es = #[] := by rw [← Array.toArray_toList (xs := es), e]
  subst e'
  exact ⟨o, _, ep, h1, h2, h3, fun e he => by simp at he, .nil, by simp⟩
theorem dictOf_nil_H {prog : Program} {w : World} {K K' : Type} [DecidableEq K] [DecidableEq K'] {k : KeyKind prog w K} {k' : HeapKind prog w K'} {h : Heap} {d : Addr} (x : h.DictOf k d []) : h.DictOfH k' d [] := by
  obtain ⟨o, es, ep, h1, h2, h3, _, h5, _⟩ := x
  have e : es.toList = [] := pairs_nil h5
  exact ⟨o, _, ep, h1, h2, h3, by simpa using e, (fun x hx => by cases hx), by simp⟩
theorem dictOfH_nil_any {prog : Program} {w : World} {K K' : Type} [DecidableEq K] [DecidableEq K'] {k : HeapKind prog w K} {k' : KeyKind prog w K'} {h : Heap} {d : Addr} (x : h.DictOfH k d []) : h.DictOf k' d [] := by
  obtain ⟨o, es, ep, h1, h2, h3, h5, _, _⟩ := x
  have e : es.toList = [] := by simpa using h5
  have e' : es = #[] := by rw [← Array.toArray_toList (xs := es), e]
  subst e'
  exact ⟨o, _, ep, h1, h2, h3, fun e he => by simp at he, .nil, by simp⟩

theorem dOK_inv {kvs : List (V × V)} {k : V} (h : dOK kvs k = true) : kk k < 3 ∧ ∀ p ∈ kvs, kk p.1 = kk k := by
  unfold dOK at h
  rw [Bool.and_eq_true, decide_eq_true_eq, List.all_eq_true] at h
  exact ⟨h.1, fun p hp => by simpa using h.2 p hp⟩

inductive DictKey (c : Cx) (D : OM) (s : Shared) (d : Addr) (kvs : List (V × V)) (key : Value) (k : V) : Prop
  | str (xs : List (Str × Value)) (i : Str) : s.heap.DictOf (strKind c.prog c.w) d xs → KV D V.str xs kvs → k = .str i → (strKind c.prog c.w).is i key = true → DictKey c D s d kvs key k
  | tup (xs : List (List Int × Addr × Value)) (is : List Int) (a : Addr) : s.heap.DictOfH (tupleKind (intKind c.prog c.w)) d xs → (∀ x ∈ xs, TupInts D x.1 x.2.1) → KV D encT (PyProof.Rows.kvsOf xs) kvs → k = encT is → key = .ref a → TupInts D is a → DictKey c D s d kvs key k
theorem dictKey_of {d : Addr} {kvs : List (V × V)} {key : Value} {k : V} (X : DictAt c D s d kvs) (hk : VR D key k) (ok : dOK kvs k = true) : DictKey c D s d kvs key k := by
  obtain ⟨h3, hall⟩ := dOK_inv ok
  cases k <;> (try (exact absurd h3 (show ¬ (3 < 3) from Nat.lt_irrefl 3)))
  case str i =>
    have ik : (strKind c.prog c.w).is i key = true := by obtain ⟨t, rfl⟩ := hk.str_inv; exact strKind_is _ _ _ _
    cases X with
    | str xs a b => exact .str xs i a b rfl ik
    | int xs a b =>
      cases kvs with
      | nil => obtain rfl := b.nil_of; exact .str [] i (dictOf_nil_any a) .nil rfl ik
      | cons p r => have := hall p (.head _); rw [b.kk kk_int p (.head _)] at this; cases this
    | tup xs a t b =>
      cases kvs with
      | nil =>
        have e := b.nil_of
        have : xs = [] := by cases xs with | nil => rfl | cons x y => simp [PyProof.Rows.kvsOf] at e
        subst this; exact .str [] i (dictOfH_nil_any a) .nil rfl ik
      | cons p r => have := hall p (.head _); rw [b.kk kk_encT p (.head _)] at this; cases this
  case tup vs =>
    have hi : intsAll vs = true := by
      cases q : intsAll vs with
      | true => rfl
      | false => simp [kk, q] at h3
    obtain ⟨is, rfl⟩ := ints_of_all hi
    obtain ⟨x, rfl, T⟩ := tupInts_of (is := is) hk
    have e2 : kk (V.tup (is.map .int)) = 2 := kk_encT is
    cases X with
    | tup xs a t b => exact .tup xs is x a t b rfl rfl T
    | int xs a b =>
      cases kvs with
      | nil => obtain rfl := b.nil_of; exact .tup [] is x (dictOf_nil_H a) (fun _ q => nomatch q) .nil rfl rfl T
      | cons p r => have := hall p (.head _); rw [b.kk kk_int p (.head _), e2] at this; cases this
    | str xs a b =>
      cases kvs with
      | nil => obtain rfl := b.nil_of; exact .tup [] is x (dictOf_nil_H a) (fun _ q => nomatch q) .nil rfl rfl T
      | cons p r => have := hall p (.head _); rw [b.kk kk_str p (.head _), e2] at this; cases this
end
end Mini

end
section
set_option autoImplicit false
set_option maxRecDepth 100000
namespace Mini
open PySem


section
variable {c : Cx} {A : Around} {D O : OM} {F : FM} {H : MH} {s : Shared}

theorem Rel.notMods (R : Rel c D O F H s) (hm : True) {d : Addr} {ob : Ob} (e : H d = some ob) : (d == sysModules) = false :=
  beq_eq_false_iff_ne.mpr (R.lo d (.inl ⟨_, e⟩))

theorem in_dict_snd {a : Value} {d : Addr} {k : V} {kvs : List (V × V)} (R : Rel c D O F H s) (M : Room A) (hm : True) (ha : VR D a k) (e : H d = some (.dict kvs)) (ok : dOK kvs k = true) :
    W c A (compareOp .In a (.ref d)) (Fin c D O F H (.val (.bool (dfind kvs k).isSome))) s ∧ W c A (compareOp .NotIn a (.ref d)) (Fin c D O F H (.val (.bool (!(dfind kvs k).isSome)))) s := by
  have nm := R.notMods hm e
  obtain ⟨X, hl⟩ := R.dictAt e
  have inI : ∀ {b : Bool} {t : Nat}, Fin c D O F H (.val (.bool b)) (.bool b) { s with toks := t } := .valT (.bool _) R
  have hn : ∀ {b : Bool}, W c A (compareOp .In a (.ref d)) (fun v s' => v = .bool b ∧ ∃ t, s' = { s with toks := t }) s → W c A (compareOp .NotIn a (.ref d)) (Fin c D O F H (.val (.bool (!b)))) s := fun {b} h => by
    have h' : W c A (contains (.ref d) a >>= fun x => pure (Value.bool x)) (fun v s' => v = .bool b ∧ ∃ t, s' = { s with toks := t }) s := h
    show W c A (contains (.ref d) a >>= fun x => pure (Value.bool (!x))) _ s
    refine wpAny_bind (fun Γ p hΓ => ?_)
    have h2 := h' Γ p hΓ
    rw [Sem.wp_bind'] at h2
    refine Sem.wp_mono _ Γ _ (fun x p' s' hx => ?_) (fun _ _ _ y => y) p s h2
    obtain ⟨q1, t, rfl⟩ := hx
    injection q1 with q1; subst q1
    exact wpAny_pure (.valT (.bool _) R)
  have both : ∀ {b : Bool}, W c A (compareOp .In a (.ref d)) (fun v s' => v = .bool b ∧ ∃ t, s' = { s with toks := t }) s →
      W c A (compareOp .In a (.ref d)) (Fin c D O F H (.val (.bool b))) s ∧ W c A (compareOp .NotIn a (.ref d)) (Fin c D O F H (.val (.bool (!b)))) s := fun h =>
    ⟨wpAny_mono h (fun v s' ⟨q, t, q'⟩ => by subst q q'; exact .valT (.bool _) R) fun _ _ x => x, hn h⟩
  refine both ?_
  cases dictKey_of X ha ok with
  | str xs i h1 h2 h3 h4 =>
    subst h3
    refine wpAny_in_of h4 nm h1.mapOf ⟨?_, _, rfl⟩
    congr 1
    cases q : dfind kvs (.str i) with
    | none => rw [(h2.find str_inj).2 q]; rfl
    | some v => obtain ⟨cv, q1, _⟩ := (h2.find str_inj).1 v q; rw [q1]; rfl
  | tup xs is x h1 h2 h3 h4 h5 h6 =>
    subst h4 h5
    refine wpAny_in_heap (tupleKind_room_in1 (by have := M.u; (first | lia | omega))) (h6.key R) nm h1 ⟨?_, _, rfl⟩
    congr 1
    have ev := PyProof.Rows.valueAt_kvsOf xs is
    cases q : dfind kvs (encT is) with
    | none => rw [(h3.find encT_inj).2 q] at ev; cases q2 : atKey xs is with
      | none => rfl
      | some p => rw [q2] at ev; cases ev
    | some v => obtain ⟨cv, q1, _⟩ := (h3.find encT_inj).1 v q; rw [q1] at ev; cases q2 : atKey xs is with
      | none => rw [q2] at ev; cases ev
      | some p => rfl

theorem getItem_dict_snd {a : Value} {d : Addr} {k r : V} {kvs : List (V × V)} (R : Rel c D O F H s) (M : Room A) (ha : VR D a k) (e : H d = some (.dict kvs)) (ok : dOK kvs k = true) (hr : dfind kvs k = some r) :
    W c A (getItem (.ref d) a) (Fin c D O F H (.val r)) s := by
  obtain ⟨X, hl⟩ := R.dictAt e
  cases dictKey_of X ha ok with
  | str xs i h1 h2 h3 h4 =>
    subst h3
    obtain ⟨cv, q1, q2⟩ := (h2.find str_inj).1 _ hr
    exact wpAny_getItem_of h4 h1.mapOf q1 (.valT q2 R)
  | tup xs is x h1 h2 h3 h4 h5 h6 =>
    subst h4 h5
    obtain ⟨cv, q1, q2⟩ := (h3.find encT_inj).1 _ hr
    rw [PyProof.Rows.valueAt_kvsOf] at q1
    obtain ⟨p, q3, rfl⟩ := Option.map_eq_some_iff.mp q1
    exact wpAny_getItem_heap (tupleKind_room_in1 (by have := M.u; (first | lia | omega))) (h6.key R) h1 q3 (.valT q2 R)

theorem idx_dict_snd {value slice : Expr} {a : Value} {d : Addr} {k r : V} {kvs : List (V × V)} (R : Rel c D O F H s) (M : Room A) (ha : VR D a k) (e : H d = some (.dict kvs)) (ok : dOK kvs k = true) (hr : dfind kvs k = some r)
    (hs : ∀ l u p, slice ≠ .Slice l u none p) : W c A (PyProof.Rows.subscriptTail value slice (.ref d) a) (Fin c D O F H (.val r)) s := by
  have hT : s.TypeIs (.ref d) "dict" := by
    obtain ⟨_, o, ho, q⟩ := R.own _ _ e
    cases q with
    | dict x _ _ _ => exact ⟨o, ho, x.1⟩
  exact tail_snd hT slot_dict_getitem.lookup (getItem_dict_snd R M ha e ok hr) hs

theorem DictR.obj {d : Addr} {kvs : List (V × V)} {h' : Heap} (hl : kvs.length ≤ lim) : (∃ xs, h'.DictOf (intKind c.prog c.w) d xs ∧ KV D V.int xs kvs) ∨ (∃ xs, h'.DictOf (strKind c.prog c.w) d xs ∧ KV D V.str xs kvs) ∨
    (∃ xs, h'.DictOfH (tupleKind (intKind c.prog c.w)) d xs ∧ (∀ x ∈ xs, TupInts D x.1 x.2.1) ∧ KV D encT (PyProof.Rows.kvsOf xs) kvs) → ∃ o, h'.get? d = some o ∧ OR c D o (.dict kvs) := by
  rintro (⟨xs, ⟨o, es, ep, h1, h2, h3, h4, h5, h6⟩, kv⟩ | ⟨xs, ⟨o, es, ep, h1, h2, h3, h4, h5, h6⟩, kv⟩ | ⟨xs, ⟨o, es, ep, h1, h2, h3, h4, h5, h6⟩, ht, kv⟩)
  · exact ⟨o, h1, .dict h2 h3 (.int xs h4 h5 h6 kv) hl⟩
  · exact ⟨o, h1, .dict h2 h3 (.str xs h4 h5 h6 kv) hl⟩
  · exact ⟨o, h1, .dict h2 h3 (.tup xs h4 ht h6 kv) hl⟩

theorem setItem_dict_snd {a b : Value} {d : Addr} {k v : V} {kvs : List (V × V)} (R : Rel c D O F H s) (M : Room A) (ha : VR D a k) (hb : VR D b v) (e : H d = some (.dict kvs)) (ok : dOK kvs k = true) (hlt : kvs.length < lim) :
    W c A (setItem (.ref d) a b) (fun _ s' => Rel c D O F (hupd H d (.dict (dput kvs k v))) s') s := by
  obtain ⟨X, hl⟩ := R.dictAt e
  have hl' : (dput kvs k v).length ≤ lim := Nat.le_trans (dput_length kvs) hlt
  have hsz : ∀ {n : Nat}, n = kvs.length → n ≤ sizeLine := fun q => by rw [q, sizeLine_eq]; unfold lim at hl; (first | lia | omega)
  cases dictKey_of X ha ok with
  | str xs i h1 h2 h3 h4 =>
    subst h3
    refine wpAny_setItem_pairs h4 h1 (fun h' hd hs => ?_) (hsz h2.1)
    obtain ⟨o, q1, q2⟩ := DictR.obj (c := c) (D := D) (h' := h') (d := d) hl' (.inr (.inl ⟨_, hd, KV.put str_inj hb (let ⟨_, _, _, _, _, _, _, _, n⟩ := h1; n) h2⟩))
    exact R.setH e hs q1 q2
  | tup xs is x h1 h2 h3 h4 h5 h6 =>
    subst h4 h5
    refine wpAny_setItem_heap (tupleKind_room_in1 (by have := M.u; (first | lia | omega))) (h6.key R) h1 (fun h' hd hs => ?_) (hsz (by have := h3.1; simpa [PyProof.Rows.kvsOf] using this))
    have hn : ((PyProof.Rows.kvsOf xs).map (·.1)).Nodup := by
      obtain ⟨_, _, _, _, _, _, _, _, n⟩ := h1
      simpa [PyProof.Rows.kvsOf, List.map_map, Function.comp_def] using n
    obtain ⟨o, q1, q2⟩ := DictR.obj (c := c) (D := D) (h' := h') (d := d) hl' (.inr (.inr ⟨_, hd, fun y hy => by
        rcases PyProof.Rows.mem_storedH hy with ⟨z, hz, e1, e2⟩ | ⟨e1, e2⟩
        · rw [e1, e2]; exact h2 z hz
        · rw [e1, e2]; exact h6, by rw [PyProof.Rows.kvsOf_storedH]; exact KV.put encT_inj hb hn h3⟩))
    exact R.setH e hs q1 q2

theorem meets_len_any (d : Addr) (hd : (d == sysModules) = false) :
    MeetsIn c.prog c.w (Builtin.«dict.__len__» ⟨[.ref d], []⟩) (fun _ R s => ∃ o es ep, s.heap.get? d = some o ∧ o.data = .dict es ep ∧ R (.ok (.ret (.int es.size s.toks))) { s with toks := s.toks + 1 }) :=
  .of_wp fun A R s ⟨o, es, ep, ho, hdat, h⟩ => by
    show wpAny _ _ (dictSize d >>= _) _ _ s
    unfold dictSize
    refine wpAny_bind (wpAny_bind (wpAny_dictEntries ho hdat (wpAny_pure ?_)))
    show wpAny _ _ (Builtin.Dict.pendingCount d >>= _) _ _ s
    refine wpAny_bind (wpAny_pendingCount_other hd ?_)
    refine wpAny_ret_mkInt ?_
    rw [Nat.add_zero]; exact h
theorem len_any {d : Addr} {o : Obj} {es : Array DictEntry} {ep : Nat} {Q : Value → Shared → Prop} (hd : (d == sysModules) = false) (ho : s.heap.get? d = some o) (hc : o.cls = .type "dict") (hdat : o.data = .dict es ep) (hfit : (es.size : Int) < 2 ^ 63)
    (h : Q (.int es.size (s.toks + 1)) { s with toks := s.toks + 1 + 1 }) : W c A (call (.builtin "len") [.ref d]) Q s := by
  refine Calls.call_function_entry kind_len plain_len entry_len (args_len1 _) ?_
  unfold Builtin.«len»
  have hT : s.TypeIs (.ref d) "dict" := ⟨o, ho, hc⟩
  refine wpAny_bind (m := oneArg "len" _) (wpAny_pure ?_)
  refine wpAny_bind (m := callSpecial? (.ref d) (Str.ofString "__len__")) (wpAny_callSpecial?_slot (name := Str.ofString "__len__") hT PySem.F.slot_dict_len
    (call_meetsIn PySem.F.slot_dict_len hT PySem.F.entry_dict_len (PySem.F.args_dict_len_1 _) (meets_len_any d hd) ⟨o, es, ep, ho, hdat, ?_⟩))
  show wpAny _ _ _ _ _ { s with toks := s.toks + 1 }
  refine wpAny_bind (wpAny_holding (wpAny_pure ?_))
  refine wpAny_bind (wpAny_letGo ?_)
  show wpAny _ _ (if ((es.size : Nat) : Int) < 0 then _ else _) _ _ _
  rw [if_neg (by (first | lia | omega))]
  show wpAny _ _ (if ((es.size : Nat) : Int) ≥ 2 ^ 63 then _ else _) _ _ _
  rw [if_neg (by (first | lia | omega))]
  exact wpAny_bind (wpAny_mkInt (wpAny_pure ⟨_, rfl, h⟩))

theorem len_dict_snd {d : Addr} {kvs : List (V × V)} (R : Rel c D O F H s) (hm : True) (e : H d = some (.dict kvs)) : W c A (call (.builtin "len") [.ref d]) (Fin c D O F H (.val (.int kvs.length))) s := by
  have nm := R.notMods hm e
  obtain ⟨X, hl⟩ := R.dictAt e
  unfold lim at hl
  cases X with
  | int xs h1 h2 => refine call_len_dict nm h1 (by rw [h2.1]; (first | lia | omega)) ?_; rw [h2.1]; exact .valT (.int _ _) R
  | str xs h1 h2 => refine call_len_dict nm h1 (by rw [h2.1]; (first | lia | omega)) ?_; rw [h2.1]; exact .valT (.int _ _) R
  | tup xs h1 h2 h3 =>
    obtain ⟨o, es, ep, q1, q2, q3, q4, _, _⟩ := h1
    have hz : es.size = kvs.length := by
      have e1 : es.toList.length = xs.length := by rw [q4]; simp
      have e2 := h3.1
      simp only [PyProof.Rows.kvsOf, List.length_map] at e2
      simpa [e2] using e1
    refine len_any nm q1 q2.1 q3 (by rw [hz]; (first | lia | omega)) ?_
    rw [hz]; exact .valT (.int _ _) R

theorem dictOf_snd {d : Addr} {kvs : List (V × V)} (R : Rel c D O F H s) (hm : True) (e : H d = some (.dict kvs)) (hk : ∀ p ∈ kvs, kk p.1 ≠ 2) : W c A (call (.type "dict") [.ref d]) (Fin c D O F H (.new (.dict kvs))) s := by
  have nm := R.notMods hm e
  obtain ⟨X, hl⟩ := R.dictAt e
  have hsz : ∀ {n : Nat}, n = kvs.length → n ≤ sizeLine := fun q => by rw [q, sizeLine_eq]; unfold lim at hl; (first | lia | omega)
  obtain ⟨f1, f2, f3, f4⟩ := R.fresh
  have fin : ∀ h', Heap.SameBut s.heap.objs.size (s.heap.push { cls := .type "dict", data := .dict #[] }) h' → (∃ o, h'.get? s.heap.objs.size = some o ∧ OR c D o (.dict kvs)) → Fin c D O F H (.new (.dict kvs)) (.ref s.heap.objs.size) { s with heap := h' } := fun h' hs ⟨o, q1, q2⟩ =>
    ⟨D, .refl D, _, rfl, f4, (R.grow (tk := s.toks) fun b x q => (hs.2 b (Nat.ne_of_lt (Heap.lt_size q))).trans (Heap.get?_push_of_some _ q)).newH q1 f1 f2 f3 q2 (R.freshLo (Nat.le_refl _))⟩
  cases X with
  | int xs h1 h2 => exact kt_call_dict nm h1 (hsz h2.1) fun h' hd hs => fin h' hs (DictR.obj hl (.inl ⟨_, hd, h2⟩))
  | str xs h1 h2 => exact kt_call_dict nm h1 (hsz h2.1) fun h' hd hs => fin h' hs (DictR.obj hl (.inr (.inl ⟨_, hd, h2⟩)))
  | tup xs h1 h2 h3 =>
    cases kvs with
    | cons p r => exact absurd (h3.kk kk_encT p (.head _)) (hk p (.head _))
    | nil =>
      have e' := h3.nil_of
      have : xs = [] := by cases xs with | nil => rfl | cons x y => simp [PyProof.Rows.kvsOf] at e'
      subst this
      exact kt_call_dict nm (dictOfH_nil_any (k' := intKind c.prog c.w) h1) (by decide) fun h' hd hs => fin h' hs (DictR.obj hl (.inl ⟨_, hd, .nil⟩))
end
end Mini

end
section
set_option autoImplicit false
set_option maxRecDepth 100000
namespace Mini
open PySem

noncomputable def okIter (o : Obj) : Bool := match o.cls with
  | .type n => !(["enumerate", "zip", "dict_itemiterator", "dict_reverseitemiterator", "odict_iterator", "itertools.zip_longest", "itertools.pairwise"].contains n)
  | _ => true
theorem okIter_of {o : Obj} {n : String} (h : o.cls = .type n) (k : (["enumerate", "zip", "dict_itemiterator", "dict_reverseitemiterator", "odict_iterator", "itertools.zip_longest", "itertools.pairwise"].contains n) = false) : okIter o = true := by
  unfold okIter; rw [h]; simp only [k]; rfl
inductive It (c : Cx) (A : Around) (D : OM) (I : Addr) (w : Option (Addr × List V)) (vs : List V) (i : Nat) (h : Heap) : Prop
  | gen (fp : List Addr) (P : Nat → Value → Prop) (St : Nat → Heap → Prop) : w = none → Walks c.prog c.w A I fp [I] vs.length P St → St i h → (∀ b ∈ fp, b = I ∨ ∃ o, D b = some o) → (∀ j v, P j v → ∀ hj : j < vs.length, VR D v vs[j]) →
      (∀ j h, St j h → ∃ o, h.get? I = some o ∧ okIter o = true) → It c A D I w vs i h
  | list (ax : Addr) : w = some (ax, vs) → h.IsListIter I ax i → It c A D I w vs i h

section
variable {c : Cx} {A : Around} {D O : OM} {F : FM} {H : MH} {s : Shared} {I : Addr} {w : Option (Addr × List V)} {vs : List V} {i : Nat}

theorem It.keep {h h' : Heap} (x : It c A D I w vs i h) (k : ∀ b o, (b = I ∨ ∃ x, D b = some x) → h.get? b = some o → h'.get? b = some o) : It c A D I w vs i h' := by
  cases x with
  | gen fp P St hw W st hfp hP hx => exact .gen fp P St hw W (W.frame _ _ _ st fun b hb o e => k b o (hfp b hb) e) hfp hP hx
  | list ax hw hi => exact .list ax hw (let ⟨o, ho, r⟩ := hi; ⟨o, k _ _ (.inl rfl) ho, r⟩)
theorem It.monoD {D' : OM} {h : Heap} (x : It c A D I w vs i h) (k : OLe D D') : It c A D' I w vs i h := by
  cases x with
  | gen fp P St hw W st hfp hP hx => exact .gen fp P St hw W st (fun b hb => (hfp b hb).imp id fun ⟨o, e⟩ => ⟨o, k _ _ e⟩) (fun j v p hj => (hP j v p hj).mono k) hx
  | list ax hw hi => exact .list ax hw hi

theorem It.okIter {h : Heap} (x : It c A D I w vs i h) : ∃ o, h.get? I = some o ∧ okIter o = true := by
  cases x with
  | gen fp P St hw W st hfp hP hx => exact hx _ _ st
  | list ax hw hi => obtain ⟨o, ho, hc, _⟩ := hi; exact ⟨o, ho, okIter_of hc (by decide)⟩
theorem it_self {Q : Value → Shared → Prop} {E : Value → Shared → Prop} (x : It c A D I w vs i s.heap) (h : Q (.ref I) s) : wpAny (model c.prog c.w) A (pyIter (.ref I)) Q E s := by
  cases x with
  | gen fp P St hw W st hfp hP hx => exact W.self _ _ _ _ st h
  | list ax hw hi => exact wpAny_pyIter_listiter hi h
theorem Rel.stepO {o : Obj} {h' : Heap} {tk : Nat} (R : Rel c D (oput O I o) F H s) (hx : ∃ o', h'.get? I = some o') (hk : ∀ b x, b ≠ I → s.heap.get? b = some x → h'.get? b = some x) :
    ∃ o', h'.get? I = some o' ∧ Rel c D (oput O I o') F H { s with heap := h', toks := tk } := by
  obtain ⟨o', ho'⟩ := hx
  obtain ⟨g, hD, hF, hH⟩ := R.oth I o (oput_same ..)
  refine ⟨o', ho', R.base, fun b x q => ?_, fun b x q => ?_, fun b x q => ?_, fun b x q => ?_, (fun b hb => R.lo b (hb.imp id fun ⟨x, e⟩ => by
    by_cases p : b = I
    · exact ⟨o, by rw [p]; exact oput_same ..⟩
    · exact ⟨x, by rw [oput_ne p] at e ⊢; exact e⟩)), R.gens, R.os, R.frs⟩
  · exact hk b x (fun p => by rw [p, hD] at q; cases q) (R.dat b x q)
  · by_cases p : b = I
    · subst p; rw [oput_same] at q; cases q; exact ⟨ho', hD, hF, hH⟩
    · rw [oput_ne p] at q
      have y := R.oth b x (by rw [oput_ne p]; exact q)
      exact ⟨hk b x p y.1, y.2⟩
  · obtain ⟨⟨oF, es, ep, y, r⟩, z⟩ := R.frm b x q
    exact ⟨⟨oF, es, ep, hk b oF (fun p => by rw [p, hF] at q; cases q) y, r⟩, z⟩
  · obtain ⟨x1, o1, x2, x3⟩ := R.own b x q
    exact ⟨x1, o1, hk b o1 (fun p => by rw [p, hH] at q; cases q) x2, x3⟩
theorem Rel.dropO {o : Obj} {h' : Heap} {tk : Nat} (R : Rel c D (oput O I o) F H s) (hO : O I = none) (hk : ∀ b x, b ≠ I → s.heap.get? b = some x → h'.get? b = some x) :
    Rel c D O F H { s with heap := h', toks := tk } := by
  obtain ⟨g, hD, hF, hH⟩ := R.oth I o (oput_same ..)
  refine ⟨R.base, fun b x q => ?_, fun b x q => ?_, fun b x q => ?_, fun b x q => ?_, (fun b hb => R.lo b (hb.imp id fun ⟨x, e⟩ => ⟨x, by
    have p : b ≠ I := fun p => by rw [p, hO] at e; cases e
    rw [oput_ne p]; exact e⟩)), R.gens, R.os, R.frs⟩
  · exact hk b x (fun p => by rw [p, hD] at q; cases q) (R.dat b x q)
  · have p : b ≠ I := fun p => by rw [p, hO] at q; cases q
    have y := R.oth b x (by rw [oput_ne p]; exact q)
    exact ⟨hk b x p y.1, y.2⟩
  · obtain ⟨⟨oF, es, ep, y, r⟩, z⟩ := R.frm b x q
    exact ⟨⟨oF, es, ep, hk b oF (fun p => by rw [p, hF] at q; cases q) y, r⟩, z⟩
  · obtain ⟨x1, o1, x2, x3⟩ := R.own b x q
    exact ⟨x1, o1, hk b o1 (fun p => by rw [p, hH] at q; cases q) x2, x3⟩

theorem it_next {o : Obj} {Q : Option Value → Shared → Prop} (R : Rel c D (oput O I o) F H s) (x : It c A D I w vs i s.heap) (hw : watch w H) (hi : i < vs.length)
    (hQ : ∀ cv s' o', VR D cv vs[i] → Rel c D (oput O I o') F H s' → It c A D I w vs (i + 1) s'.heap → Q (some cv) s') : W c A (pyNext (.ref I)) Q s := by
  cases x with
  | gen fp P St hw' W st hfp hP hx =>
    refine W.item i s _ _ hi st fun v h' tk hp st' hk => ?_
    obtain ⟨o', ho', R'⟩ := R.stepO (tk := tk) (let ⟨o, ho, _⟩ := hx _ _ st'; ⟨o, ho⟩) fun b y hb e => hk b y (by simpa using hb) e
    exact hQ v _ o' (hP i v hp hi) R' (.gen fp P St hw' W st' hfp hP hx)
  | list ax hw' hit =>
    subst hw'
    have hw2 : H ax = some (.list vs) := hw
    obtain ⟨cs, n, v1, g, hl⟩ := R.listAt hw2
    have hi' : i < cs.length := by rw [v1.1]; exact hi
    refine wpAny_pyNext_list_item hit ⟨_, g, rfl, n, rfl⟩ (x := cs[i]) (by simp [hi']) fun h' hit' hs => ?_
    obtain ⟨o', ho', R'⟩ := R.stepO (tk := s.toks) (let ⟨o, ho, _⟩ := hit'; ⟨o, ho⟩) fun b y hb e => (hs.2 b hb).trans e
    exact hQ _ _ o' (v1.2 i hi' hi) R' (.list ax rfl hit')

theorem it_done {o : Obj} {Q : Option Value → Shared → Prop} (M : A.handled = none) (R : Rel c D (oput O I o) F H s) (hO : O I = none) (x : It c A D I w vs vs.length s.heap) (hw : watch w H)
    (hQ : ∀ s', Rel c D O F H s' → Q none s') : W c A (pyNext (.ref I)) Q s := by
  cases x with
  | gen fp P St hw' W st hfp hP hx =>
    refine W.done s _ _ st fun h' tk hk => hQ _ (R.dropO hO fun b y hb e => hk b y (by simpa using hb) e)
  | list ax hw' hit =>
    subst hw'
    have hw2 : H ax = some (.list vs) := hw
    obtain ⟨cs, n, v1, g, hl⟩ := R.listAt hw2
    exact wpAny_pyNext_list_end M hit ⟨_, g, rfl, n, rfl⟩ (by simp [v1.1]) fun h' hs => hQ _ (R.dropO (tk := s.toks) hO fun b y hb e => hs b y hb e)

noncomputable def ItStart (c : Cx) (A : Around) (D O : OM) (F : FM) (H : MH) (w : Option (Addr × List V)) (vs : List V) (iv : Value) (s' : Shared) : Prop :=
  ∃ I o, iv = .ref I ∧ D I = none ∧ O I = none ∧ F I = none ∧ H I = none ∧ Rel c D (oput O I o) F H s' ∧ It c A D I w vs 0 s'.heap

theorem start_push {o : Obj} {x : It c A D s.heap.objs.size w vs 0 (s.heap.push o)} (R : Rel c D O F H s) (hf : o.isFreed = false) : ItStart c A D O F H w vs (.ref s.heap.objs.size) { s with heap := s.heap.push o } := by
  obtain ⟨f1, f2, f3, f4⟩ := R.fresh
  exact ⟨_, o, rfl, f1, f2, f3, f4, (R.grow (tk := s.toks) fun b y e => Heap.get?_push_of_some _ e).newO (Heap.get?_push_size _ hf) f1 f3 f4 (R.freshLo (Nat.le_refl _)), x⟩

theorem iter_plain {cv : Value} {v : V} (M : A.handled = none) (R : Rel c D O F H s) (hv : VR D cv v) (h : srcItems .plain H v = some (vs, w)) : W c A (pyIter cv) (ItStart c A D O F H w vs) s := by
  cases v <;> simp only [srcItems] at h <;> (try (cases h; done))
  case tup us =>
    cases h
    obtain ⟨a, cs, n, rfl, e, v1, hl⟩ := hv.tup_inv
    have g := R.dat _ _ e
    have hT : s.heap.IsTuple a cs.toArray := ⟨_, g, rfl, n, rfl⟩
    refine wpAny_pyIter_tuple hT (start_push (x := ?_) R rfl)
    have hne : a ≠ s.heap.objs.size := Nat.ne_of_lt (Heap.lt_size g)
    have hW := Walks.tuple (prog := c.prog) (w := c.w) (A := A) M s.heap.objs.size a hne cs.toArray
    have hsz : cs.toArray.size = vs.length := by rw [List.size_toArray]; exact v1.1
    rw [hsz] at hW
    refine .gen _ _ _ rfl hW ⟨⟨_, Heap.get?_push_size _ rfl, rfl, rfl⟩, hT.push _⟩ (fun b hb => ?_) (fun j x hx hj => ?_) (fun j h st => let ⟨⟨o, ho, hc, _⟩, _⟩ := st; ⟨o, ho, okIter_of hc (by decide)⟩)
    · simp at hb; rcases hb with rfl | rfl
      · exact .inl rfl
      · exact .inr ⟨_, e⟩
    · have hx' : cs[j]? = some x := by simpa using hx
      obtain ⟨hj', rfl⟩ := List.getElem?_eq_some_iff.mp hx'
      exact v1.2 j hj' hj
  case str x =>
    cases h
    obtain ⟨t, rfl⟩ := hv.str_inv
    have hlen : (chars x).length = x.cps.size := by simp [chars]
    have hP : ∀ j v, SignAt x j v → ∀ hj : j < (chars x).length, VR D v (chars x)[j] := fun j v hv hj => by
      obtain ⟨cc, u, e1, rfl⟩ := hv
      have hj' : j < x.cps.size := by simpa [chars] using hj
      have e2 : x.cps[j] = cc := by rw [Array.getElem?_eq_getElem hj'] at e1; exact Option.some.inj e1
      have e3 : (chars x)[j] = .str ⟨#[cc]⟩ := by simp [chars, e2]
      rw [e3]; exact .str _ _ (by show 1 ≤ lim; decide)
    cases ha : x.cps.all (· < 128)
    · refine wpAny_pyIter_wide ha (start_push (x := ?_) R rfl)
      have hW := Walks.strWide (prog := c.prog) (w := c.w) (A := A) M s.heap.objs.size x t
      rw [← hlen] at hW
      exact .gen _ _ _ rfl hW ⟨_, Heap.get?_push_size _ rfl, rfl, rfl⟩ (fun b hb => .inl (by simpa using hb)) hP (fun j h st => let ⟨o, ho, hc, _⟩ := st; ⟨o, ho, okIter_of hc (by decide)⟩)
    · refine wpAny_pyIter_ascii ha (start_push (x := ?_) R rfl)
      have hW := Walks.strAscii (prog := c.prog) (w := c.w) (A := A) M s.heap.objs.size x t
      rw [← hlen] at hW
      exact .gen _ _ _ rfl hW ⟨_, Heap.get?_push_size _ rfl, rfl, rfl⟩ (fun b hb => .inl (by simpa using hb)) hP (fun j h st => let ⟨o, ho, hc, _⟩ := st; ⟨o, ho, okIter_of hc (by decide)⟩)
  case ref a =>
    obtain rfl := hv.ref_inv
    split at h
    · rename_i us e
      cases h
      obtain ⟨cs, n, v1, g, hl⟩ := R.listAt e
      exact wpAny_pyIter_list ⟨_, g, rfl, n, rfl⟩ (start_push (x := .list a rfl ⟨_, Heap.get?_push_size _ rfl, rfl, rfl⟩) R rfl)
    · cases h

theorem iter_range {cv : Value} {v : V} (M : A.handled = none) (R : Rel c D O F H s) (hv : VR D cv v) (h : srcItems .range H v = some (vs, w)) :
    W c A (call (.type "range") [cv]) (fun rv s' => W c A (pyIter rv) (ItStart c A D O F H w vs) s') s := by
  cases v <;> simp only [srcItems] at h <;> (try (cases h; done))
  case int n =>
    split at h
    · rename_i hn
      cases h
      obtain ⟨t, rfl⟩ := hv.int_inv
      refine call_range_1 ?_
      have hR := IsRange.new s.heap 0 n 1 s.toks t (s.toks + 1)
      have hn0 : 0 ≤ n ∧ n ≤ (lim : Int) := by simpa using hn
      unfold lim at hn0
      have hlo : -(2 ^ 62) ≤ n := by (first | lia | omega)
      · have hsm : Builtin.Range.small 0 n 1 = true := small_one (by decide) (by decide) hlo (by (first | lia | omega))
        refine wpAny_pyIter_range hR hsm ?_
        have R1 : Rel c D O F H { s with heap := s.heap.push { cls := .type "range", data := .fields #[.int 0 s.toks, .int n t, .int 1 (s.toks + 1)] }, toks := s.toks + 1 + 1 } := R.grow fun b y e => Heap.get?_push_of_some _ e
        refine start_push (x := ?_) R1 rfl
        have hlen : ((List.range n.toNat).map fun (i : Nat) => V.int i).length = n.toNat := by simp
        have hW := Walks.range (prog := c.prog) (w := c.w) (A := A) M (s.heap.push { cls := .type "range", data := .fields #[.int 0 s.toks, .int n t, .int 1 (s.toks + 1)] }).objs.size 0 1 n.toNat
        rw [← hlen] at hW
        refine .gen _ _ _ rfl hW ?_ (fun b hb => .inl (by simpa using hb)) (fun j x hx hj => ?_) (fun j h st => ⟨_, st, okIter_of rfl (by decide)⟩)
        · show IsRangeIter _ _ (0 + ((0 : Nat) : Int) * 1) ((((List.range n.toNat).map fun (i : Nat) => V.int i).length : Int) - ((0 : Nat) : Int)) 1
          have e : (((List.range n.toNat).map fun (i : Nat) => V.int i).length : Int) - ((0 : Nat) : Int) = Builtin.Range.rangeSize 0 n 1 := by
            rw [hlen, rangeSize_one]; split <;> (first | lia | omega)
          rw [e]
          exact Heap.get?_push_size _ rfl
        · obtain ⟨tk, rfl⟩ := hx
          have e : ((List.range n.toNat).map fun (i : Nat) => V.int i)[j] = V.int (0 + (j : Int) * 1) := by simp
          rw [e]; exact .int _ _
    · cases h
end
end Mini

end
section
set_option autoImplicit false
set_option maxRecDepth 100000
namespace Mini
open PySem

abbrev nm (x : String) : Str := Str.ofString x
theorem nm_inj {x y : String} (h : nm x = nm y) : x = y := by
  rw [show nm x = _ from Str.ofString_eq_toList x, show nm y = _ from Str.ofString_eq_toList y] at h
  have h1 : x.toList.map Char.toNat = y.toList.map Char.toNat := by simpa using h
  have h2 : x.toList = y.toList := by
    revert h1
    generalize x.toList = a
    generalize y.toList = b
    intro h1
    induction a generalizing b with
    | nil => cases b with
      | nil => rfl
      | cons _ _ => simp at h1
    | cons c r ih => cases b with
      | nil => simp at h1
      | cons d t =>
        simp only [List.map_cons, List.cons.injEq] at h1
        have e : c = d := by
          have := h1.1
          exact Char.toNat_inj.mp this
        rw [e, ih t h1.2]
  exact String.toList_inj.mp h2

structure FOK (env : PySem.Env) : Prop where
  kind : env.scope.kind = .function
  globals : env.globals = mainGlobals
  builtins : env.builtins = builtinsNs

structure FS (env : PySem.Env) (D O : OM) (F : FM) (ρ : Env) : Prop where
  fr : ∃ m, F env.locals = some m ∧ ∀ x v, ρ x = some v → env.kindOf (nm x) = some .local → x ≠ ".0" → ∃ cv, m (nm x) = some cv ∧ VR D cv v
  ce : ∀ x v, ρ x = some v → (env.kindOf (nm x) = some .cell ∨ env.kindOf (nm x) = some .free) → ∃ a o cv, env.cells.lookup (nm x) = some a ∧ O a = some o ∧ o.data = .cell (some cv) ∧ VR D cv v
  own : ∀ n : Str, (env.kindOf n = some .cell ∨ env.kindOf n = some .free) → ∃ a o cv, env.cells.lookup n = some a ∧ O a = some o ∧ o.data = .cell cv
  cel : ∀ n a, env.cells.lookup n = some a → ∃ o, O a = some o

structure Out (env : PySem.Env) (O : OM) (F : FM) (O' : OM) (F' : FM) : Prop where
  f : ∀ a, a ≠ env.locals → F' a = F a
  o : ∀ a, (∀ n, env.cells.lookup n ≠ some a) → O' a = O a
  oc : ∀ a, O a = none → O' a = none
  fc : ∀ a, F a = none → F' a = none
theorem Out.refl (env : PySem.Env) (O : OM) (F : FM) : Out env O F O F := ⟨fun _ _ => rfl, fun _ _ => rfl, fun _ h => h, fun _ h => h⟩
theorem Out.trans {env : PySem.Env} {O O' O'' : OM} {F F' F'' : FM} (h : Out env O F O' F') (k : Out env O' F' O'' F'') : Out env O F O'' F'' :=
  ⟨fun a x => (k.f a x).trans (h.f a x), fun a x => (k.o a x).trans (h.o a x), fun a x => k.oc a (h.oc a x), fun a x => k.fc a (h.fc a x)⟩

section
variable {c : Cx} {A : Around} {D O : OM} {F : FM} {H : MH} {s : Shared} {env : PySem.Env} {ρ : Env}

theorem FS.mono {D' : OM} (h : FS env D O F ρ) (k : OLe D D') : FS env D' O F ρ :=
  ⟨let ⟨m, e, p⟩ := h.fr; ⟨m, e, fun x v q l z => let ⟨cv, a, b⟩ := p x v q l z; ⟨cv, a, b.mono k⟩⟩,
   fun x v q l => let ⟨a, o, cv, h1, h2, h3, h4⟩ := h.ce x v q l; ⟨a, o, cv, h1, h2, h3, h4.mono k⟩, h.own, h.cel⟩

theorem load_snd {x : String} {v : V} {Q : Value → Shared → Prop} {E : Value → Shared → Prop} (hF : FOK env) (fs : FS env D O F ρ) (R : Rel c D O F H s) (hv : ρ x = some v) (hk : env.kindOf (nm x) = some .local ∨ env.kindOf (nm x) = some .cell ∨ env.kindOf (nm x) = some .free)
    (hn : (nm x == ("__classdict__" : Str)) = false) (h0 : x ≠ ".0") (hQ : ∀ cv, VR D cv v → Q cv s) : wpAny (model c.prog c.w) A (loadName env (nm x)) Q E s := by
  rcases hk with hk | hk | hk
  · obtain ⟨m, e, p⟩ := fs.fr
    obtain ⟨cv, e1, e2⟩ := p x v hv hk h0
    exact wpAny_loadName_local hF.kind hk (R.frm _ _ e).1 e1 (hQ cv e2)
  · obtain ⟨a, o, cv, h1, h2, h3, h4⟩ := fs.ce x v hv (.inl hk)
    exact wpAny_loadName_cell hF.kind hk h1 ⟨o, (R.oth _ _ h2).1, h3⟩ (hQ cv h4)
  · obtain ⟨a, o, cv, h1, h2, h3, h4⟩ := fs.ce x v hv (.inr hk)
    exact wpAny_loadName_free hF.kind hk h1 ⟨o, (R.oth _ _ h2).1, h3⟩ (hQ cv h4) hn

theorem store_snd {x : String} {v : V} {cv : Value} {Q : Unit → Shared → Prop} {E : Value → Shared → Prop} (hF : FOK env) (fs : FS env D O F ρ) (R : Rel c D O F H s) (hv : VR D cv v) (hk : env.kindOf (nm x) = some .local ∨ env.kindOf (nm x) = some .cell) (ap : env.kindOf (nm x) = some .cell → env.cells.Pairwise fun x y => x.2 ≠ y.2)
    (hQ : ∀ O' F' s', Out env O F O' F' → (env.kindOf (nm x) = some .local → O' = O) → FS env D O' F' (upd ρ x v) → Rel c D O' F' H s' → Q () s') : wpAny (model c.prog c.w) A (storeName env (nm x) cv) Q E s := by
  rcases hk with hk | hk
  · obtain ⟨m, e, p⟩ := fs.fr
    refine wpAny_storeName_local hk (R.frm _ _ e).1 (fun h' hn hs => ?_) (by rw [hF.kind]; rfl)
    refine hQ O (fput F env.locals _) _ ⟨fun a ha => fput_ne ha, fun _ _ => rfl, fun _ h => h, fun a ha => ?_⟩ (fun _ => rfl) ⟨⟨_, fput_same .., fun y u hu hl h0 => ?_⟩, fun y u hu hl => ?_, fs.own, fs.cel⟩ (R.setF (tk := s.toks + 1) e hs hn)
    · have : a ≠ env.locals := fun q => by rw [q, e] at ha; cases ha
      rw [fput_ne this]; exact ha
    · by_cases q : y = x
      · subst q; simp [upd] at hu; subst hu; exact ⟨cv, by simp, hv⟩
      · simp [upd, q] at hu
        obtain ⟨cv', e1, e2⟩ := p y u hu hl h0
        exact ⟨cv', by rw [if_neg fun z => q (nm_inj z)]; exact e1, e2⟩
    · have q : y ≠ x := fun q => by subst q; rw [hk] at hl; rcases hl with hl | hl <;> cases hl
      simp [upd, q] at hu
      exact fs.ce y u hu hl
  · obtain ⟨a, o, ov, h1, h2, h3⟩ := fs.own (nm x) (.inl hk)
    refine wpAny_storeName_cell hF.kind hk h1 ⟨o, (R.oth _ _ h2).1, h3⟩ fun h' hc hs => ?_
    obtain ⟨o', ho', hd'⟩ := hc
    refine hQ (oput O a o') F _ ⟨fun _ _ => rfl, fun b hb => oput_ne fun q => hb (nm x) (q ▸ h1), fun b hb => ?_, fun _ h => h⟩ (fun q => by rw [hk] at q; cases q)
      ⟨let ⟨m, e, p⟩ := fs.fr; ⟨m, e, fun y u hu hl h0 => ?_⟩, fun y u hu hl => ?_, fun y hl => ?_, fun y b hb => ?_⟩ (R.setO (tk := s.toks) h2 hs ho')
    · have : b ≠ a := fun q => by rw [q, h2] at hb; cases hb
      rw [oput_ne this]; exact hb
    · have q : y ≠ x := fun q => by subst q; rw [hk] at hl; cases hl
      simp [upd, q] at hu
      exact p y u hu hl h0
    · by_cases q : y = x
      · subst q; simp [upd] at hu; subst hu; exact ⟨a, o', cv, h1, oput_same .., hd', hv⟩
      · simp [upd, q] at hu
        obtain ⟨b, ob, cv', e1, e2, e3, e4⟩ := fs.ce y u hu hl
        have hb : b ≠ a := fun z => q (nm_inj (name_of_addr (ap hk) (mem_of_lookup e1) (z ▸ mem_of_lookup h1)))
        exact ⟨b, ob, cv', e1, by rw [oput_ne hb]; exact e2, e3, e4⟩
    · obtain ⟨b, ob, cv', e1, e2, e3⟩ := fs.own y hl
      by_cases hb : b = a
      · subst hb; exact ⟨b, o', _, e1, oput_same .., hd'⟩
      · exact ⟨b, ob, cv', e1, by rw [oput_ne hb]; exact e2, e3⟩
    · by_cases q : b = a
      · subst q; exact ⟨o', oput_same ..⟩
      · rw [oput_ne q]; exact fs.cel y b hb
end
end Mini

end
section
set_option autoImplicit false
set_option maxRecDepth 100000
namespace Mini
open PySem

abbrev Kn := List (Str × NameKind)

noncomputable def binP : Operator → Option Prim
  | .Add => some .add
  | .Sub => some .sub
  | .Mult => some .mul
  | .Mod => some .mod
  | .FloorDiv => some .fdiv
  | _ => none
noncomputable def cmpP : CmpOp → Option Prim
  | .Eq => some .eq
  | .NotEq => some .ne
  | .Lt => some .lt
  | .LtE => some .le
  | .Gt => some .gt
  | .GtE => some .ge
  | .In => some .isin
  | .NotIn => some .notin
  | _ => none
noncomputable def bfn : Prim → Option (String × Value)
  | .len => some ("len", .builtin "len")
  | .toInt => some ("int", .type "int")
  | .tupleOf => some ("tuple", .type "tuple")
  | .listOf => some ("list", .type "list")
  | .sorted => some ("sorted", .builtin "sorted")
  | .min2 => some ("min", .builtin "min")
  | .max2 => some ("max", .builtin "max")
  | .minL => some ("min", .builtin "min")
  | .maxL => some ("max", .builtin "max")
  | .any => some ("any", .builtin "any")
  | .all => some ("all", .builtin "all")
  | .dictOf => some ("dict", .type "dict")
  | _ => none
noncomputable def methN : Prim → Option String
  | .append => some "append"
  | .join => some "join"
  | .get => some "get"
  | .count => some "count"
  | _ => none

noncomputable def varK : Option NameKind → Bool
  | some .local => true
  | some .cell => true
  | some .free => true
  | _ => false
noncomputable def stoK : Option NameKind → Bool
  | some .local => true
  | some .cell => true
  | _ => false
noncomputable def gloK (K : Kn) (x : String) : Bool := K.lookup (nm x) == some .globalImplicit && !(nm x == ("__debug__" : Str))

noncomputable def relabelK (K names : Kn) : Kn := names.map fun (n, k) => if (k == .free && K.lookup n == some .cell) then (n, .cell) else (n, k)
noncomputable def scOK (K : Kn) (sc : Scope) : Bool :=
  sc.kind == .function && sc.names.all fun y => y.2 != .cell && (y.2 != .local || sc.names.lookup y.1 == some .local) && (y.2 != .free || (K.lookup y.1 == some .cell || K.lookup y.1 == some .free) && sc.names.lookup y.1 == some .free)

noncomputable def scTgt (K : Kn) (tgt : List String) : Bool := (tgt.all fun x => K.lookup (nm x) == some .local) && K.all fun y => y.2 != .local || y.1 == nm ".0" || tgt.any fun x => nm x == y.1
inductive SrcTr (K : Kn) : SK → Expr → Expr → Prop
  | plain {e : Expr} : SrcTr K .plain e e
  | range {e : Expr} {p q : Pos} : gloK K "range" = true → SrcTr K .range e (.Call (.Name (nm "range") p) [e] [] q)

inductive TgtNames (K : Kn) : List String → List Expr → Prop
  | nil : TgtNames K [] []
  | cons {x : String} {p : Pos} {xs : List String} {es : List Expr} : stoK (K.lookup (nm x)) = true → TgtNames K xs es → TgtNames K (x :: xs) (.Name (nm x) p :: es)
inductive TgtTr (K : Kn) : List String → Bool → Expr → Prop
  | one {x : String} {p : Pos} : stoK (K.lookup (nm x)) = true → TgtTr K [x] false (.Name (nm x) p)
  | tup {xs : List String} {es : List Expr} {k : Nat} {p : Pos} : TgtNames K xs es → TgtTr K xs true (.Tuple es k p)

mutual
inductive TrE (G : List String) : Kn → X → Expr → Prop
  | none {K : Kn} {k : Nat} {p : Pos} : TrE G K (.cst .none) (.Constant .none k p)
  | bool {K : Kn} {b : Bool} {k : Nat} {p : Pos} : TrE G K (.cst (.bool b)) (.Constant (.bool b) k p)
  | int {K : Kn} {i : Int} {k : Nat} {p : Pos} : TrE G K (.cst (.int i)) (.Constant (.int i) k p)
  | str {K : Kn} {x : Str} {k : Nat} {p : Pos} : x.length ≤ lim → TrE G K (.cst (.str x)) (.Constant (.str x) k p)
  | var {K : Kn} {x : String} {p : Pos} : varK (K.lookup (nm x)) = true → (nm x == ("__debug__" : Str)) = false → (nm x == ("__classdict__" : Str)) = false → (x == ".0") = false → TrE G K (.var x) (.Name (nm x) p)
  | bin {K : Kn} {op : Operator} {q : Prim} {a b : X} {l r : Expr} {p : Pos} : binP op = some q → TrE G K a l → TrE G K b r → TrE G K (.prim q [a, b]) (.BinOp l op r p)
  | neg {K : Kn} {a : X} {e : Expr} {p : Pos} : TrE G K a e → TrE G K (.prim .neg [a]) (.UnaryOp .USub e p)
  | not {K : Kn} {a : X} {e : Expr} {p : Pos} : TrE G K a e → TrE G K (.prim .not [a]) (.UnaryOp .Not e p)
  | cmp {K : Kn} {op : CmpOp} {q : Prim} {a b : X} {l r : Expr} {p : Pos} : cmpP op = some q → TrE G K a l → TrE G K b r → TrE G K (.prim q [a, b]) (.Compare l [op] [r] p)
  | isNone {K : Kn} {a : X} {l : Expr} {k : Nat} {p q : Pos} : TrE G K a l → TrE G K (.prim .isNone [a]) (.Compare l [.Is] [.Constant .none k q] p)
  | one {K : Kn} {op : BoolOp} {a : X} {e : Expr} {p : Pos} : TrE G K a e → TrE G K a (.BoolOp op [e] p)
  | and {K : Kn} {a b : X} {e e' : Expr} {es : List Expr} {p : Pos} : TrE G K a e → TrE G K b (.BoolOp .And (e' :: es) p) → TrE G K (.and a b) (.BoolOp .And (e :: e' :: es) p)
  | or {K : Kn} {a b : X} {e e' : Expr} {es : List Expr} {p : Pos} : TrE G K a e → TrE G K b (.BoolOp .Or (e' :: es) p) → TrE G K (.or a b) (.BoolOp .Or (e :: e' :: es) p)
  | idx {K : Kn} {a b : X} {l r : Expr} {p : Pos} : TrE G K a l → TrE G K b r → TrE G K (.prim .idx [a, b]) (.Subscript l r p)
  | sliceTo {K : Kn} {a b : X} {l r : Expr} {p q : Pos} : TrE G K a l → TrE G K b r → TrE G K (.prim .sliceTo [a, b]) (.Subscript l (.Slice Option.none (some r) Option.none q) p)
  | sliceFrom {K : Kn} {a b : X} {l r : Expr} {p q : Pos} : TrE G K a l → TrE G K b r → TrE G K (.prim .sliceFrom [a, b]) (.Subscript l (.Slice (some r) Option.none Option.none q) p)
  | tuple {K : Kn} {xs : List X} {es : List Expr} {k : Nat} {p : Pos} : TrEs G K xs es → TrE G K (.prim .tuple xs) (.Tuple es k p)
  | list {K : Kn} {xs : List X} {es : List Expr} {p : Pos} : TrEs G K xs es → TrE G K (.prim .list xs) (.List es p)
  | dict0 {K : Kn} {p : Pos} : TrE G K (.prim .dict0 []) (.Dict [] [] p)
  | bcall {K : Kn} {q : Prim} {x : String} {fv : Value} {xs : List X} {e : Expr} {es : List Expr} {p p' : Pos} : bfn q = some (x, fv) → gloK K x = true → TrEs G K xs (e :: es) → TrE G K (.prim q xs) (.Call (.Name (nm x) p') (e :: es) [] p)
  | isi {K : Kn} {t : Ty} {a : X} {e : Expr} {p p' p'' : Pos} : gloK K "isinstance" = true → gloK K t.name = true → TrE G K a e → TrE G K (.prim (.isi t) [a]) (.Call (.Name (nm "isinstance") p') [e, .Name (nm t.name) p''] [] p)
  | listRev {K : Kn} {a : X} {e : Expr} {p p' p'' q : Pos} : gloK K "list" = true → gloK K "reversed" = true → TrE G K a e → TrE G K (.prim .listRev [a]) (.Call (.Name (nm "list") p') [.Call (.Name (nm "reversed") p'') [e] [] q] [] p)
  | meth1 {K : Kn} {q : Prim} {x : String} {a b : X} {o e : Expr} {p p' : Pos} : methN q = some x → (p'.endLine == p.line) = true → TrE G K a o → TrE G K b e → TrE G K (.meth q a [b]) (.Call (.Attribute o (nm x) p') [e] [] p)
  | meth2 {K : Kn} {q : Prim} {x : String} {a b d : X} {o e e' : Expr} {p p' : Pos} : methN q = some x → (p'.endLine == p.line) = true → TrE G K a o → TrE G K b e → TrE G K d e' → TrE G K (.meth q a [b, d]) (.Call (.Attribute o (nm x) p') [e, e'] [] p)
  | call {K : Kn} {f : String} {xs : List X} {e : Expr} {es : List Expr} {p p' : Pos} : G.contains f = true → gloK K f = true → TrEs G K xs (e :: es) → TrE G K (.call f xs) (.Call (.Name (nm f) p') (e :: es) [] p)
  | lc {K : Kn} {x : X} {e : Expr} : TrC G K x e → TrE G K x e
inductive TrC (G : List String) : Kn → X → Expr → Prop
  | comp {K : Kn} {x : X} {tgt : List String} {isT : Bool} {sk : SK} {a : X} {elt te src it : Expr} {sc : Scope} {p : Pos} : TrE G K a src → SrcTr K sk src it → scOK K sc = true → TgtTr (relabelK K sc.names) tgt isT te → scTgt (relabelK K sc.names) tgt = true → TrE G (relabelK K sc.names) x elt →
      TrC G K (.comp x tgt isT sk a) (.ListComp elt [⟨te, it, [], 0⟩] sc p)
  | compIf {K : Kn} {x : X} {tgt : List String} {isT : Bool} {sk : SK} {a y : X} {elt te src it cond : Expr} {sc : Scope} {p : Pos} : TrE G K a src → SrcTr K sk src it → scOK K sc = true → TgtTr (relabelK K sc.names) tgt isT te → scTgt (relabelK K sc.names) tgt = true → TrE G (relabelK K sc.names) x elt →
      TrE G (relabelK K sc.names) y cond → TrC G K (.compIf x tgt isT sk a y) (.ListComp elt [⟨te, it, [cond], 0⟩] sc p)
inductive TrEs (G : List String) : Kn → List X → List Expr → Prop
  | nil {K : Kn} : TrEs G K [] []
  | cons {K : Kn} {x : X} {xs : List X} {e : Expr} {es : List Expr} : TrE G K x e → TrEs G K xs es → TrEs G K (x :: xs) (e :: es)
end

noncomputable def isComp : Expr → Bool
  | .ListComp .. => true
  | .SetComp .. => true
  | .DictComp .. => true
  | _ => false
noncomputable def isTupE : Expr → Bool
  | .Tuple .. => true
  | _ => false

noncomputable def okE : Expr → Bool
  | .Starred .. => false
  | .Set .. => false
  | .Slice .. => false
  | .Call (.Name _ _) [] [] _ => false
  | _ => true
inductive TrH (K : Kn) : X → Expr → Prop
  | bool {b : Bool} {k : Nat} {p : Pos} : TrH K (.cst (.bool b)) (.Constant (.bool b) k p)
  | int {i : Int} {k : Nat} {p : Pos} : TrH K (.cst (.int i)) (.Constant (.int i) k p)
  | str {x : Str} {k : Nat} {p : Pos} : x.length ≤ lim → TrH K (.cst (.str x)) (.Constant (.str x) k p)
  | var {x : String} {p : Pos} : varK (K.lookup (nm x)) = true → (nm x == ("__debug__" : Str)) = false → (nm x == ("__classdict__" : Str)) = false → (x == ".0") = false → TrH K (.var x) (.Name (nm x) p)
  | add {a b : X} {l r : Expr} {p : Pos} : TrH K a l → TrH K b r → TrH K (.prim .add [a, b]) (.BinOp l .Add r p)
  | not {a : X} {e : Expr} {p : Pos} : TrH K a e → TrH K (.prim .not [a]) (.UnaryOp .Not e p)
  | eq {a b : X} {l r : Expr} {p : Pos} : okE r = true → TrH K a l → TrH K b r → TrH K (.prim .eq [a, b]) (.Compare l [.Eq] [r] p)
  | one {op : BoolOp} {a : X} {e : Expr} {p : Pos} : TrH K a e → TrH K a (.BoolOp op [e] p)
  | and {a b : X} {e e' : Expr} {es : List Expr} {p : Pos} : TrH K a e → TrH K b (.BoolOp .And (e' :: es) p) → TrH K (.and a b) (.BoolOp .And (e :: e' :: es) p)
  | or {a b : X} {e e' : Expr} {es : List Expr} {p : Pos} : TrH K a e → TrH K b (.BoolOp .Or (e' :: es) p) → TrH K (.or a b) (.BoolOp .Or (e :: e' :: es) p)
  | toInt {a : X} {e : Expr} {p p' : Pos} : gloK K "int" = true → okE e = true → TrH K a e → TrH K (.prim .toInt [a]) (.Call (.Name (nm "int") p') [e] [] p)
  | isx {cls : String} {a : X} {e : Expr} {p p' p'' : Pos} : gloK K "isinstance" = true → gloK K cls = true → (clsNames.contains cls || cls == "ValueError") = true → okE e = true → TrH K a e → TrH K (.prim (.isx cls) [a]) (.Call (.Name (nm "isinstance") p') [e, .Name (nm cls) p''] [] p)
  | list3 {a b d : X} {e1 e2 e3 : Expr} {p : Pos} : okE e1 = true → okE e2 = true → okE e3 = true → TrH K a e1 → TrH K b e2 → TrH K d e3 → TrH K (.prim .list [a, b, d]) (.List [e1, e2, e3] p)
  | count {a b : X} {o e : Expr} {p p' : Pos} : (p'.endLine == p.line) = true → okE o = true → okE e = true → TrH K a o → TrH K b e → TrH K (.meth .count a [b]) (.Call (.Attribute o (nm "count") p') [e] [] p)
noncomputable def asOK (K : Kn) : Option String → Bool
  | none => true
  | some x => K.lookup (nm x) == some .local
inductive TrBs (G : List String) (K : Kn) : List S → List Stmt → Prop
  | nil : TrBs G K [] []
  | ex {a : X} {e : Expr} {p : Pos} {xs : List S} {sts : List Stmt} : isComp e = false → TrE G K a e → TrBs G K xs sts → TrBs G K (.ex a :: xs) (.Expr e p :: sts)
  | ifs {a : X} {t u : List S} {e : Expr} {t' u' : List Stmt} {p : Pos} {xs : List S} {sts : List Stmt} : TrE G K a e → TrBs G K t t' → TrBs G K u u' → TrBs G K xs sts → TrBs G K (.ifs a t u :: xs) (.If e t' u' p :: sts)
inductive TrHs (K : Kn) : List S → List Stmt → Prop
  | nil : TrHs K [] []
  | asg {x : String} {a : X} {e : Expr} {p p' : Pos} {xs : List S} {sts : List Stmt} : stoK (K.lookup (nm x)) = true → isComp e = false → TrH K a e → TrHs K xs sts → TrHs K (.asg x a :: xs) (.Assign [.Name (nm x) p'] e p :: sts)
  | ret {a : X} {e : Expr} {p : Pos} {xs : List S} {sts : List Stmt} : TrH K a e → TrHs K xs sts → TrHs K (.ret a :: xs) (.Return (some e) p :: sts)
mutual
inductive TrS (G : List String) : Kn → S → Stmt → Prop
  | asg {K : Kn} {x : String} {a : X} {e : Expr} {p p' : Pos} : stoK (K.lookup (nm x)) = true → isComp e = false → TrE G K a e → TrS G K (.asg x a) (.Assign [.Name (nm x) p'] e p)
  | asgC {K : Kn} {x : String} {a : X} {e : Expr} {p p' : Pos} : stoK (K.lookup (nm x)) = true → TrC G K a e → TrS G K (.asg x a) (.Assign [.Name (nm x) p'] e p)
  | asgT {K : Kn} {xs : List String} {a : X} {e : Expr} {es : List Expr} {k : Nat} {p p' : Pos} : TgtNames K xs es → isTupE e = false → TrE G K a e → TrS G K (.asgT xs a) (.Assign [.Tuple es k p'] e p)
  | asgI {K : Kn} {a b d : X} {o i e : Expr} {p p' : Pos} : TrE G K a o → TrE G K b i → TrE G K d e → TrS G K (.asgI a b d) (.Assign [.Subscript o i p'] e p)
  | ex {K : Kn} {a : X} {e : Expr} {p : Pos} : isComp e = false → TrE G K a e → TrS G K (.ex a) (.Expr e p)
  | ifs {K : Kn} {a : X} {t u : List S} {e : Expr} {t' u' : List Stmt} {p : Pos} : TrE G K a e → TrSs G K t t' → TrSs G K u u' → TrS G K (.ifs a t u) (.If e t' u' p)
  | for {K : Kn} {tgt : List String} {isT : Bool} {sk : SK} {a : X} {t : List S} {te src it : Expr} {t' : List Stmt} {p : Pos} : TrE G K a src → SrcTr K sk src it → TgtTr K tgt isT te → TrSs G K t t' → TrS G K (.for tgt isT sk a t) (.For te it t' [] p)
  | ret {K : Kn} {a : X} {e : Expr} {p : Pos} : TrE G K a e → TrS G K (.ret a) (.Return (some e) p)
  | pass {K : Kn} {p : Pos} : TrS G K .pass (.Pass p)
  | raise {K : Kn} {cls : String} {x : Str} {k : Nat} {np cp cpos pos : Pos} : clsNames.contains cls = true → gloK K cls = true → x.length ≤ lim → TrS G K (.raise cls) (.Raise (some (.Call (.Name (nm cls) np) [.Constant (.str x) k cp] [] cpos)) none pos)
  | try1 {K : Kn} {body h1 : List S} {c1 : String} {as1 : Option String} {body' r1 : List Stmt} {b1 : Stmt} {p1 pos1 pos : Pos} : TrBs G K body body' → clsNames.contains c1 = true → gloK K c1 = true → asOK K as1 = true → TrHs K h1 (b1 :: r1) →
      TrS G K (.tryS body c1 as1 h1 "" []) (.Try body' [.ExceptHandler (some (.Name (nm c1) p1)) (as1.map nm) (b1 :: r1) pos1] [] [] pos)
  | try2 {K : Kn} {body h1 h2 : List S} {c1 c2 : String} {body' r1 r2 : List Stmt} {b1 b2 : Stmt} {p1 pos1 p2 pos2 pos : Pos} : TrBs G K body body' → clsNames.contains c1 = true → gloK K c1 = true → TrHs K h1 (b1 :: r1) → clsNames.contains c2 = true → gloK K c2 = true → TrHs K h2 (b2 :: r2) →
      TrS G K (.tryS body c1 none h1 c2 h2) (.Try body' [.ExceptHandler (some (.Name (nm c1) p1)) none (b1 :: r1) pos1, .ExceptHandler (some (.Name (nm c2) p2)) none (b2 :: r2) pos2] [] [] pos)
inductive TrSs (G : List String) : Kn → List S → List Stmt → Prop
  | nil {K : Kn} : TrSs G K [] []
  | cons {K : Kn} {x : S} {xs : List S} {e : Stmt} {es : List Stmt} : TrS G K x e → TrSs G K xs es → TrSs G K (x :: xs) (e :: es)
end

theorem okE.star {e : Expr} (h : okE e = true) (rest : List Expr) (env : PySem.Env) : starEach (e :: rest) env = (false, eval e env) :: starEach rest env := by
  cases e <;> first | rfl | cases h
theorem okE.behind {e : Expr} (h : okE e = true) (op : CmpOp) : behindInMarks op e = false := by
  cases e <;> first | rfl | cases h
theorem okE.fold {e : Expr} (h : okE e = true) (env : PySem.Env) (x : Value) : foldedSetIterable e env x = pure x := by
  cases e <;> first | rfl | cases h
theorem okE.base {e : Expr} (h : okE e = true) (attr : Str) (env : PySem.Env) (wh : Sem Value) : attributeBase e attr env wh = wh := by
  cases e <;> first | rfl | skip
  rename_i f as ks p
  cases f <;> first | rfl | skip
  cases as <;> first | rfl | skip
  cases ks <;> first | rfl | cases h
theorem okE.slice {e : Expr} (h : okE e = true) : ∀ l u p, e ≠ .Slice l u none p := by
  intro l u p q; subst q; cases h
theorem okEs_any {es : List Expr} (h : ∀ e ∈ es, okE e = true) (pos : Pos) (env : PySem.Env) : (backTo pos (starEach es env)).any (·.1) = false := by
  induction es with
  | nil => rfl
  | cons e es ih => rw [okE.star (h e (.head _)) es env]; exact ih fun x hx => h x (.tail _ hx)
theorem SrcTr.ok {K : Kn} {sk : SK} {src it : Expr} (h : SrcTr K sk src it) (k : okE src = true) : okE it = true := by
  cases h <;> first | exact k | rfl
theorem not_comp_swaps {e : Expr} (h : isComp e = false) (tg : Option Expr) (line : Nat) (env : PySem.Env) : swapsWith e tg line env = pure false := by
  cases e <;> first | rfl | cases h
theorem swaps_tup (e : Expr) (es : List Expr) (k : Nat) (p : Pos) (line : Nat) (env : PySem.Env) : swapsWith e (some (.Tuple es k p)) line env = pure false := by
  cases e <;> rfl
theorem swaps_sub (e o i : Expr) (p : Pos) (line : Nat) (env : PySem.Env) : swapsWith e (some (.Subscript o i p)) line env = pure false := by
  cases e <;> rfl
theorem not_tup_stores {e : Expr} (h : isTupE e = false) (es : List Expr) (k : Nat) (p : Pos) (env : PySem.Env) : swappedStores [.Tuple es k p] e env = pure none := by
  cases e <;> first | rfl | cases h
end Mini

end
section
set_option autoImplicit false
set_option linter.unusedVariables false
set_option linter.unusedSectionVars false
set_option maxRecDepth 100000
namespace Mini
open PySem

noncomputable def mroVE : List Value := [.type "ValueError", .type "Exception", .type "BaseException", .type "object"]
noncomputable def qn : List Str := "__class__" :: quietNames
inductive OwnT (h : Heap) (bmB : List Value) : List Value → Prop
  | base : OwnT h bmB bmB
  | own {A : Addr} {c0 : Value} {dd : Option Addr} {cd : ClassData} {sl : Array (Option Value)} {mA : Str → Option Value} {tl : List Value} :
      h.get? A = some { cls := c0, dict := dd, data := .cls cd, slots := sl } → h.Ns cd.ns mA → (∀ n ∈ qn, mA n = none) → OwnT h bmB tl → OwnT h bmB (.ref A :: tl)
theorem OwnT.q {h : Heap} {bmB tl : List Value} (T : OwnT h bmB tl) : OwnTailQ h bmB tl := by
  induction T with
  | base => exact .base
  | own hA hN hq _ ih => exact .own hA hN (fun n hn => hq n (.tail _ hn)) ih
theorem OwnT.keeps {h h' : Heap} {bmB tl : List Value} (T : OwnT h bmB tl) (hk : ∀ b o, h.get? b = some o → h'.get? b = some o) : OwnT h' bmB tl := by
  induction T with
  | base => exact .base
  | own hA hN hq _ ih => exact .own (hk _ _ hA) (hN.keeps hk) hq ih
section
variable {prog : Program} {w : World} {M : Model} {A : Around} {E : Value → Shared → Prop} {h : Heap} {g : Array GenState} {d : Drawn} {t : Nat} {os : OsState} {a : Addr} {o : Obj}
variable {n q : Str} {C N : Addr} {bs bm bmB : List Value} {hdct : Bool} {sn : List Str} {sub : List Value} {ab : Bool} {col : Option Bool} {dd : Option Addr} {k0 k1 k2 k3 k5 : Option Value} {B newId : String} {mN : Str → Option Value}
theorem along_T {tl : List Value} {x : Str} {y : Option Value} {Q : Option Value → Shared → Prop} (hn : x ∈ qn) (T : OwnT h bmB tl) (hrest : lookupAlong bmB x = pure y) (hq : Q y ⟨h, g, d, t, os⟩) :
    wpAny M A (lookupAlong tl x) Q E ⟨h, g, d, t, os⟩ := by
  induction T with
  | base => rw [hrest]; exact wpAny_pure hq
  | own hA hN hni _ ih =>
    rw [lookupAlong_cons]
    refine wpAny_bind (wpAny_classOwn_cls hA hN ?_)
    rw [hni x hn]
    exact ih
theorem lookup_T {x : Str} {y : Option Value} {Q : Option Value → Shared → Prop} (hn : x ∈ qn) (hC : h.get? C = some (excClassObj n q C N bs bm hdct sn sub ab col dd k0 k1 k2 k3 k5 newId)) (hN : h.Ns N mN) (hmN : ∀ n ∈ qn, mN n = none) (T : OwnT h bmB bm) (hbm : mroOf (.type B) = pure bmB)
    (hB : typeLookup (.type B) x = pure y) (hq : Q y ⟨h, g, d, t, os⟩) : wpAny M A (typeLookup (.ref C) x) Q E ⟨h, g, d, t, os⟩ := by
  have hrest : lookupAlong bmB x = pure y := by rw [typeLookup_eq, hbm] at hB; exact hB
  rw [typeLookup_eq]
  refine wpAny_bind (wpAny_mroOf_exc hC ?_)
  rw [lookupAlong_cons]
  refine wpAny_bind (wpAny_classOwn_exc hC hN ?_)
  rw [hmN x hn]
  exact along_T hn T hrest hq
theorem lk_VE_class : typeLookup (.type "ValueError") "__class__" = pure (some (.builtin "object.__class__")) := by rw [typeLookup_type, builtinLookup_eq_fast]; kernel_rfl
theorem class_get_own {R : Result → Shared → Prop} (hC : h.get? C = some (excClassObj n q C N bs bm hdct sn sub ab col dd k0 k1 k2 k3 k5 newId)) (T : OwnT h mroVE bm) (hx : h.get? a = some o) (hc : o.cls = .ref C) (hq : R (.ok (.ret (.ref C))) ⟨h, g, d, t, os⟩) :
    codeAny (model prog w) A (.call (.builtin "getset_descriptor.__get__") ⟨[.builtin "object.__class__", .ref a, .ref C], []⟩) R ⟨h, g, d, t, os⟩ := by
  have hT5 : (⟨h, g, d, t, os⟩ : Shared).TypeIs (.builtin "object.__class__") "getset_descriptor" := F.typeOf_object_class
  have hcB : (Value.ref C :: bm).contains (.type (".".intercalate ("object.__class__".cutAt '.').dropLast)) = true := by
    rw [F.owner_object_class, List.contains_cons, T.q.tail.hasType (X := "object") (b := true) (by decide +kernel)]; rfl
  refine codeAny_call_builtin F.slot_gs_get.plain F.entry_gs_get (F.slot_gs_get.check _ _ _ _ _ _ _ _ hT5 (F.args_gs_get _ _ _) ?_)
  repeat (any_goals (first | assumption | (with_reducible refine wpAny_loadPart_at hx ?_; rw [hc]) | (with_reducible refine wpAny_isSubtype_exc hC ?_; rw [hcB]) | wp_step))
  refine ⟨Code.quiet_builtin _ (by decide +kernel), codeAny_builtin F.entry_object_class ?_⟩
  repeat (any_goals (first | assumption | (with_reducible refine wpAny_loadPart_at hx ?_; rw [hc]) | wp_step))
theorem class_entry_own {tk : Tok} {Q : PySem.Fin → Shared → Prop} (hC : h.get? C = some (excClassObj n q C N bs bm hdct sn sub ab col dd k0 k1 k2 k3 k5 newId)) (hN : h.Ns N mN) (hmN : ∀ n ∈ qn, mN n = none) (T : OwnT h mroVE bm) (hx : h.get? a = some o) (hc : o.cls = .ref C) (hq : Q (.done (.ret (.ref C))) ⟨h, g, d, t, os⟩) :
    wpAny (model prog w) A (Builtin.«object.__getattribute__» ⟨[.ref a, .str "__class__" tk], []⟩) Q E ⟨h, g, d, t, os⟩ := by
  have hT5 : (⟨h, g, d, t, os⟩ : Shared).TypeIs (.builtin "object.__class__") "getset_descriptor" := F.typeOf_object_class
  have f5 := F.typeOf_object_class
  have f6 := F.slot_gs_get.lookup
  have f7 := F.slot_gs_set.lookup
  have hmA : ("__class__" : Str) ∈ qn := .head _
  repeat (any_goals (first | assumption | (with_reducible refine wpAny_loadPart_at hx ?_; rw [hc]) | with_reducible refine lookup_T hmA hC hN hmN T PySem.F.excBase_ValueError.mroIs lk_VE_class ?_ | wp_step))
  refine class_get_own hC T hx hc ?_
  repeat (any_goals (first | assumption | wp_step))
theorem class_call_own {tk : Tok} {R : Result → Shared → Prop} (hC : h.get? C = some (excClassObj n q C N bs bm hdct sn sub ab col dd k0 k1 k2 k3 k5 newId)) (hN : h.Ns N mN) (hmN : ∀ n ∈ qn, mN n = none) (T : OwnT h mroVE bm) (hx : h.get? a = some o) (hc : o.cls = .ref C) (hq : R (.ok (.ret (.ref C))) ⟨h, g, d, t, os⟩) :
    codeAny (model prog w) A (.call (.builtin "BaseException.__getattribute__") ⟨[.ref a, .str "__class__" tk], []⟩) R ⟨h, g, d, t, os⟩ :=
  codeAny_call_builtin PySem.F.attrBase_ValueError.ga.plain F.entry_bexc_ga (wpAny_check_ga_own PySem.F.attrBase_ValueError hC T.q hx hc (class_entry_own hC hN hmN T hx hc hq))
theorem class_by_own {tk : Tok} {Q : Value → Shared → Prop} (hC : h.get? C = some (excClassObj n q C N bs bm hdct sn sub ab col dd k0 k1 k2 k3 k5 newId)) (hN : h.Ns N mN) (hmN : ∀ n ∈ qn, mN n = none) (T : OwnT h mroVE bm) (hx : h.get? a = some o) (hc : o.cls = .ref C) (hq : Q (.ref C) ⟨h, g, d, t, os⟩) :
    wpAny (model prog w) A (getAttrBy (.ref a) (.str "__class__" tk) false) Q E ⟨h, g, d, t, os⟩ := by
  have f3 := PySem.F.attrBase_ValueError.ga.bind (.ref a)
  have hx2 : (Value.builtin "BaseException.__getattribute__" == Value.builtin "object.__getattribute__") = false := by decide +kernel
  have hx1 : (onTheHeap (Value.ref C) && Value.builtin "BaseException.__getattribute__" == Value.builtin "object.__getattribute__") = false := by rw [hx2]; rfl
  have hm1 : ("__getattribute__" : Str) ∈ qn := .tail _ (.tail _ (.head _))
  have hm2 : ("__getattr__" : Str) ∈ qn := .tail _ (.tail _ (.tail _ (.head _)))
  repeat (any_goals (first | assumption | (with_reducible refine wpAny_loadPart_at hx ?_; rw [hc]) | with_reducible refine lookup_T hm1 hC hN hmN T PySem.F.excBase_ValueError.mroIs PySem.F.attrBase_ValueError.ga.lookup ?_ | with_reducible refine lookup_T hm2 hC hN hmN T PySem.F.excBase_ValueError.mroIs PySem.F.attrBase_ValueError.noGetattr ?_ | wp_step))
  refine class_call_own hC hN hmN T hx hc ?_
  repeat (any_goals (first | assumption | wp_step))
theorem class_attr_own {Q : Option Value → Shared → Prop} (hC : h.get? C = some (excClassObj n q C N bs bm hdct sn sub ab col dd k0 k1 k2 k3 k5 newId)) (hN : h.Ns N mN) (hmN : ∀ n ∈ qn, mN n = none) (T : OwnT h mroVE bm) (hx : h.get? a = some o) (hc : o.cls = .ref C) (hq : Q (some (.ref C)) ⟨h, g, d, t + 1, os⟩) :
    wpAny (model prog w) A (getAttr? (.ref a) "__class__") Q E ⟨h, g, d, t, os⟩ := by
  unfold getAttr? getAttrBy?
  repeat (any_goals (first | assumption | with_reducible apply class_by_own hC hN hmN T hx hc | wp_step))
end
end Mini

end
section
set_option autoImplicit false
set_option linter.unusedVariables false
set_option linter.unusedSectionVars false
set_option maxRecDepth 100000
namespace Mini
open PySem

section
variable {prog : Program} {w : World} {A : Around} {E : Value → Shared → Prop} {h : Heap} {g : Array GenState} {d : Drawn} {t : Nat} {os : OsState} {a : Addr} {o : Obj}
variable {n q : Str} {C N : Addr} {bs bm : List Value} {hdct : Bool} {sn : List Str} {sub : List Value} {ab : Bool} {col : Option Bool} {dd : Option Addr} {k0 k1 k2 k3 k5 : Option Value} {newId : String} {mN : Str → Option Value}
variable {n' q' : Str} {C' N' : Addr} {bs' bm' : List Value} {hdct' : Bool} {sn' : List Str} {sub' : List Value} {ab' : Bool} {col' : Option Bool} {dd' : Option Addr} {k0' k1' k2' k3' k5' : Option Value} {newId' : String}
theorem exc_match {Q : Bool → Shared → Prop} (hC : h.get? C = some (excClassObj n q C N bs bm hdct sn sub ab col dd k0 k1 k2 k3 k5 newId)) (hC' : h.get? C' = some (excClassObj n' q' C' N' bs' bm' hdct' sn' sub' ab' col' dd' k0' k1' k2' k3' k5' newId')) (hx : h.get? a = some o) (hc : o.cls = .ref C)
    (hb : bm'.contains (.type "BaseException") = true) (hq : Q ((Value.ref C :: bm).contains (.ref C')) ⟨h, g, d, t, os⟩) : wpAny (model prog w) A (excMatches (.ref a) (.ref C')) Q E ⟨h, g, d, t, os⟩ := by
  have hcB : (Value.ref C' :: bm').contains (.type "BaseException") = true := by rw [List.contains_cons, hb, Bool.or_true]
  have f := tc_notTuple
  unfold excMatches
  repeat (first | (with_reducible refine wpAny_loadPart_at hx ?_; rw [hc]) | with_reducible refine wpAny_loadPart_at hC' ?_ | (with_reducible refine wpAny_isSubtype_exc hC' ?_; rw [hcB]) | with_reducible refine wpAny_isSubtype_exc hC ?_ | wp_step)
  cases hq' : (Value.ref C :: bm).contains (.ref C') <;> (rw [hq'] at hq; wp_walk; exact hq)
theorem isi_nested_own {dep : Int} {tk : Tok} {Q : PySem.Fin → Shared → Prop} (hC : h.get? C = some (excClassObj n q C N bs bm hdct sn sub ab col dd k0 k1 k2 k3 k5 newId)) (hN : h.Ns N mN) (hmN : ∀ n ∈ qn, mN n = none) (T : OwnT h mroVE bm) (hC' : h.get? C' = some (excClassObj n' q' C' N' bs' bm' hdct' sn' sub' ab' col' dd' k0' k1' k2' k3' k5' newId')) (hx : h.get? a = some o) (hc : o.cls = .ref C)
    (hq : ∀ t', Q (.done (.ret (.bool ((Value.ref C :: bm).contains (.ref C'))))) ⟨h, g, d, t', os⟩) : wpAny (model prog w) A (Builtin.«isinstance.nested» ⟨[.ref a, .ref C', .int dep tk], []⟩) Q E ⟨h, g, d, t, os⟩ := by
  have f1 := tc_sub
  by_cases hCC : C = C'
  · subst hCC
    have e1 : (Value.ref C == Value.ref C) = true := by simp
    have e2 : (Value.ref C :: bm).contains (.ref C) = true := by simp
    rw [e2] at hq
    have hq0 := hq t
    repeat (any_goals (first | assumption | (with_reducible refine wpAny_loadPart_at hx ?_; rw [hc]) | wp_step))
  · have e1 : (Value.ref C == Value.ref C') = false := by simp [hCC]
    cases hb : (Value.ref C :: bm).contains (.ref C') with
    | true =>
      rw [hb] at hq
      have hq0 := hq t
      repeat (any_goals (first | assumption | (with_reducible refine wpAny_loadPart_at hx ?_; rw [hc]) | with_reducible refine wpAny_loadPart_at hC' ?_ | (with_reducible refine wpAny_isSubtype_exc hC ?_; rw [hb]) | wp_step))
    | false =>
      rw [hb] at hq
      have hq0 := hq (t + 1)
      repeat (any_goals (first | assumption | (with_reducible refine wpAny_loadPart_at hx ?_; rw [hc]) | with_reducible refine wpAny_loadPart_at hC' ?_ | with_reducible refine wpAny_loadPart_at hC ?_ | (with_reducible refine wpAny_isSubtype_exc hC ?_; rw [hb]) | with_reducible apply class_attr_own hC hN hmN T hx hc | wp_step))
theorem isi_nested_VE {dep : Int} {tk : Tok} {Q : PySem.Fin → Shared → Prop} (hC : h.get? C = some (excClassObj n q C N bs bm hdct sn sub ab col dd k0 k1 k2 k3 k5 newId)) (T : OwnT h mroVE bm) (hx : h.get? a = some o) (hc : o.cls = .ref C)
    (hq : Q (.done (.ret (.bool true))) ⟨h, g, d, t, os⟩) : wpAny (model prog w) A (Builtin.«isinstance.nested» ⟨[.ref a, .type "ValueError", .int dep tk], []⟩) Q E ⟨h, g, d, t, os⟩ := by
  have f0 : typeOf (.type "ValueError") = pure (.type "type") := by kernel_rfl
  have f1 := tc_sub
  have e1 : (Value.ref C == Value.type "ValueError") = false := by rfl
  have hb : (Value.ref C :: bm).contains (.type "ValueError") = true := by rw [List.contains_cons, T.q.tail.hasType (X := "ValueError") (b := true) (by decide +kernel)]; rfl
  repeat (any_goals (first | assumption | (with_reducible refine wpAny_loadPart_at hx ?_; rw [hc]) | (with_reducible refine wpAny_isSubtype_exc hC ?_; rw [hb]) | wp_step))
end
section
variable {prog : Program} {w : World} {A : Around} {E : Value → Shared → Prop} {s : Shared} {a : Addr} {o : Obj}
variable {n q : Str} {C N : Addr} {bs bm : List Value} {hdct : Bool} {sn : List Str} {sub : List Value} {ab : Bool} {col : Option Bool} {dd : Option Addr} {k0 k1 k2 k3 k5 : Option Value} {newId : String} {mN : Str → Option Value}
variable {n' q' : Str} {C' N' : Addr} {bs' bm' : List Value} {hdct' : Bool} {sn' : List Str} {sub' : List Value} {ab' : Bool} {col' : Option Bool} {dd' : Option Addr} {k0' k1' k2' k3' k5' : Option Value} {newId' : String}
theorem isi_own {Q : Value → Shared → Prop} (hC : s.heap.get? C = some (excClassObj n q C N bs bm hdct sn sub ab col dd k0 k1 k2 k3 k5 newId)) (hN : s.heap.Ns N mN) (hmN : ∀ n ∈ qn, mN n = none) (T : OwnT s.heap mroVE bm) (hC' : s.heap.get? C' = some (excClassObj n' q' C' N' bs' bm' hdct' sn' sub' ab' col' dd' k0' k1' k2' k3' k5' newId')) (hx : s.heap.get? a = some o) (hc : o.cls = .ref C)
    (hq : ∀ t', Q (.bool ((Value.ref C :: bm).contains (.ref C'))) { s with toks := t' }) : wpAny (model prog w) A (call (.builtin "isinstance") [.ref a, .ref C']) Q E s := by
  refine call_isinstance (S := fun _ R s' => s' = s ∧ ∀ t', R (.ok (.ret (.bool ((Value.ref C :: bm).contains (.ref C'))))) { s with toks := t' }) ?_ ⟨rfl, hq⟩
  rintro prog w A R s' ⟨rfl, hR⟩
  refine isinstance_outer ?_ (by intro e; cases e)
  obtain ⟨h, g, d, t, os⟩ := s'
  exact isi_nested_own hC hN hmN T hC' hx hc fun t' => hR t'
theorem isi_VE {Q : Value → Shared → Prop} (hC : s.heap.get? C = some (excClassObj n q C N bs bm hdct sn sub ab col dd k0 k1 k2 k3 k5 newId)) (T : OwnT s.heap mroVE bm) (hx : s.heap.get? a = some o) (hc : o.cls = .ref C)
    (hq : Q (.bool true) s) : wpAny (model prog w) A (call (.builtin "isinstance") [.ref a, .type "ValueError"]) Q E s := by
  refine call_isinstance (S := fun _ R s' => s' = s ∧ R (.ok (.ret (.bool true))) s) ?_ ⟨rfl, hq⟩
  rintro prog w A R s' ⟨rfl, hR⟩
  refine isinstance_outer ?_ (by intro e; cases e)
  obtain ⟨h, g, d, t, os⟩ := s'
  exact isi_nested_VE hC T hx hc hR
end
end Mini

end
section
set_option autoImplicit false
set_option linter.unusedVariables false
set_option linter.unusedSectionVars false
set_option maxRecDepth 100000
namespace Mini
open PySem

noncomputable def bNames : List String := ["len", "int", "tuple", "list", "sorted", "min", "max", "any", "all", "dict", "isinstance", "range", "reversed", "set", "bool", "str", "ValueError"]
structure ClsF (h : Heap) (mg : Str → Option Value) (x : String) (C : Addr) (bm : List Value) : Prop where
  bound : mg (nm x) = some (.ref C)
  obj : ∃ N n q bs hdct sn sub ab col dd k0 k1 k2 k3 k5 mN, h.get? C = some (excClassObj n q C N bs bm hdct sn sub ab col dd k0 k1 k2 k3 k5 "ValueError.__new__") ∧ h.Ns N mN ∧ (∀ n ∈ qn, mN n = none) ∧ OwnT h mroVE bm
  rel : ∀ y ∈ clsNames, ∀ C', mg (nm y) = some (.ref C') → (Value.ref C :: bm).contains (.ref C') = exSub x y
noncomputable def ClsAll (h : Heap) (mg : Str → Option Value) : Prop := ∀ x ∈ clsNames, ∃ C bm, ClsF h mg x C bm
structure Gl (c : Cx) (mg : Str → Option Value) (G : List String) : Prop where
  g : c.s0.heap.Ns mainGlobals mg
  b : ∃ mb, c.s0.heap.Ns builtinsNs mb ∧ ∀ x : Str, x ≠ "__name__" → mb x = bootBuiltins x
  bl : ∀ x, x ∈ bNames → mg (nm x) = none
  nolimit : c.s0.heap.NoLimit
  mods : ClsAll c.s0.heap mg
  fn : ∀ f, G.contains f = true → ∃ a o fd, mg (nm f) = some (.ref a) ∧ c.s0.heap.get? a = some o ∧ o.data = .func fd
structure AOK (A : Around) : Prop where
  h : A.handled = none
  u : A.units + 200 < cLine
  d : A.depth < recursionLimit
theorem AOK.room {A : Around} (h : AOK A) : Room A := ⟨h.u, h.d⟩

noncomputable def clsAt (c : Cx) (cls : String) (C : Addr) : Prop := c.s0.heap.nsMap mainGlobals (nm cls) = some (.ref C)
noncomputable def Unk (D O : OM) (F : FM) (H : MH) (a : Addr) : Prop := D a = none ∧ O a = none ∧ F a = none ∧ H a = none
structure ExcAt (c : Cx) (D O : OM) (F : FM) (H : MH) (a : Addr) (cls : String) (h : Heap) : Prop where
  unk : Unk D O F H a
  nam : clsNames.contains cls = true
  obj : ∃ C oe vs a0, clsAt c cls C ∧ h.get? a = some oe ∧ oe.cls = .ref C ∧ oe.data = .fields vs ∧ vs[0]? = some a0 ∧
    (vs[1]? = some .none ∨ ∃ T oT ts, vs[1]? = some (.ref T) ∧ T ≠ a ∧ h.get? T = some oT ∧ oT.data = .fields ts ∧ ts[3]? = some .none ∧ Unk D O F H T)
noncomputable def ExcIs (c : Cx) (D O : OM) (F : FM) (H : MH) (e : Value) (cls : String) (s : Shared) : Prop := ∃ a, e = .ref a ∧ ExcAt c D O F H a cls s.heap
theorem Unk.sub {D O O' : OM} {F F' : FM} {H : MH} {b : Addr} (ko : OLe O O') (kf : FLe F F') (v : Unk D O' F' H b) : Unk D O F H b := ⟨v.1, (by
  cases q : O b with
  | none => rfl
  | some y => have := ko _ _ q; rw [v.2.1] at this; cases this), (by
  cases q : F b with
  | none => rfl
  | some y => have := kf _ _ q; rw [v.2.2.1] at this; cases this), v.2.2.2⟩
theorem ExcIs.sub {c : Cx} {D O O' : OM} {F F' : FM} {H : MH} {e : Value} {cls : String} {s : Shared} (ko : OLe O O') (kf : FLe F F') (x : ExcIs c D O' F' H e cls s) : ExcIs c D O F H e cls s := by
  obtain ⟨a, e, u, nm', C', oe, us, a0, q1, q2, q3, q4, q5, q6⟩ := x
  exact ⟨a, e, u.sub ko kf, nm', C', oe, us, a0, q1, q2, q3, q4, q5, q6.imp id fun ⟨T, oT, ts, t1, t2, t3, t4, t5, t6⟩ => ⟨T, oT, ts, t1, t2, t3, t4, t5, t6.sub ko kf⟩⟩
theorem ExcIs.back {c : Cx} {l : List PySem.Env} {D O : OM} {F : FM} {H : MH} {e : Value} {cls : String} {s : Shared} (x : ExcIs (c.at l) D O F H e cls s) : ExcIs c D O F H e cls s := by
  obtain ⟨a, e, u, nm', ob⟩ := x
  exact ⟨a, e, u, nm', ob⟩
noncomputable def EX (c : Cx) (D O : OM) (F : FM) (Z : Z0) (e : Value) (s : Shared) : Prop := ∃ D' H' cls, OLe D D' ∧ Rel c D' O F H' s ∧ ExcIs c D' O F H' e cls s ∧ Z cls H'
theorem EX.mono {c : Cx} {D D' O : OM} {F : FM} {Z : Z0} {e : Value} {s : Shared} (k : OLe D D') (h : EX c D' O F Z e s) : EX c D O F Z e s :=
  let ⟨D2, H', cls, a, b, d, z⟩ := h; ⟨D2, H', cls, k.trans a, b, d, z⟩

noncomputable def PostB (c : Cx) (D O : OM) (F : FM) (Q : Bool → MH → Prop) (b : Bool) (s' : Shared) : Prop := ∃ D' H', OLe D D' ∧ Rel c D' O F H' s' ∧ Q b H'
noncomputable def PostL (c : Cx) (D O : OM) (F : FM) (Q : List V → MH → Prop) (cs : List Value) (s' : Shared) : Prop := ∃ D' vs H', OLe D D' ∧ VRs D' cs vs ∧ Rel c D' O F H' s' ∧ Q vs H'
theorem Post.mono {c : Cx} {D D' O : OM} {F : FM} {Q : V → MH → Prop} {cv : Value} {s : Shared} (k : OLe D D') (h : Post c D' O F Q cv s) : Post c D O F Q cv s :=
  let ⟨D2, v, H', a, b⟩ := h; ⟨D2, v, H', k.trans a, b⟩
theorem PostB.mono {c : Cx} {D D' O : OM} {F : FM} {Q : Bool → MH → Prop} {b : Bool} {s : Shared} (k : OLe D D') (h : PostB c D' O F Q b s) : PostB c D O F Q b s :=
  let ⟨D2, H', a, b⟩ := h; ⟨D2, H', k.trans a, b⟩
abbrev WE {α : Type} (c : Cx) (A : Around) (t : Sem α) (Q : α → Shared → Prop) (E : Value → Shared → Prop) (s : Shared) : Prop := wpAny (model c.prog c.w) A t Q E s

theorem W.then {α : Type} {c : Cx} {A : Around} {t : Sem α} {P Q : α → Shared → Prop} {E : Value → Shared → Prop} {s : Shared} (h : W c A t P s) (k : ∀ a s', P a s' → Q a s') : WE c A t Q E s :=
  wpAny_mono h k fun _ _ f => f.elim

noncomputable def CallOK (c : Cx) (mg : Str → Option Value) (A : Around) (C : CallSem) : Prop := ∀ (f : String) (a : Addr) (D O : OM) (F : FM) (H : MH) (s : Shared) (cs : List Value) (vs : List V) (Q : V → MH → Prop) (Z : Z0),
  mg (nm f) = some (.ref a) → C f vs Q Z H → VRs D cs vs → Rel c D O F H s → WE c A (call (.ref a) cs) (Post c D O F Q) (EX c D O F Z) s

structure PF (c : Cx) (A : Around) : Prop where
  bc : ∀ {q : Prim} {x : String} {fv : Value} {D O : OM} {F : FM} {H : MH} {s : Shared} {cs : List Value} {vs : List V} {r : Res}, bfn q = some (x, fv) → primOp q H vs = some r → VRs D cs vs → Rel c D O F H s → W c A (call fv cs) (Fin c D O F H r) s
  bin : ∀ {op : Operator} {q : Prim} {D O : OM} {F : FM} {H : MH} {s : Shared} {a b : Value} {va vb : V} {r : Res}, binP op = some q → primOp q H [va, vb] = some r → VR D a va → VR D b vb → Rel c D O F H s → W c A (binaryOp op a b) (Fin c D O F H r) s
  cmp : ∀ {op : CmpOp} {q : Prim} {D O : OM} {F : FM} {H : MH} {s : Shared} {a b : Value} {va vb : V} {r : Res}, cmpP op = some q → primOp q H [va, vb] = some r → VR D a va → VR D b vb → Rel c D O F H s → W c A (compareOp op a b) (Fin c D O F H r) s
  meth : ∀ {q : Prim} {x : String} {D O : OM} {F : FM} {H : MH} {s : Shared} {ov : Value} {o : V}, methN q = some x → (methT q H o).isSome = true → VR D ov o → Rel c D O F H s → ∃ T id, PlainAttrs T ∧ Slot T (nm x) id ∧ typeOf (.builtin id) = pure (.type "method_descriptor") ∧ s.TypeIs ov T ∧
    (∀ a, ov = .ref a → ∃ ob, s.heap.get? a = some ob ∧ ob.dict = none) ∧ ∀ {D' : OM} {H' : MH} {s' : Shared} {cs : List Value} {vs : List V} {r : Res}, OLe D D' → primOp q H' (o :: vs) = some r → VRs D' cs vs → Rel c D' O F H' s' → W c A (call (.builtin id) (ov :: cs)) (Fin c D' O F H' r) s'
  idx : ∀ {value slice : Expr} {o i : Value} {vo vi : V} {D O : OM} {F : FM} {H : MH} {s : Shared} {r : Res}, (∀ l u p, slice ≠ .Slice l u none p) → primOp .idx H [vo, vi] = some r → VR D o vo → VR D i vi → Rel c D O F H s → W c A (PyProof.Rows.subscriptTail value slice o i) (Fin c D O F H r) s
  sl : ∀ {q : Prim} {value : Expr} {l u : Option Expr} {p : Pos} {o vl vu : Value} {vo vi : V} {D O : OM} {F : FM} {H : MH} {s : Shared} {r : Res}, primOp q H [vo, vi] = some r → (q = .sliceTo ∧ vl = .none ∧ VR D vu vi ∨ q = .sliceFrom ∧ VR D vl vi ∧ vu = .none) → VR D o vo → Rel c D O F H s →
    W c A (PyProof.Rows.subscriptTail value (.Slice l u none p) o (.ref s.heap.objs.size)) (Fin c D O F H r) { s with heap := s.heap.push { cls := .type "slice", data := .fields #[vl, vu, .none] } }
  lr : ∀ {a : Value} {va : V} {D O : OM} {F : FM} {H : MH} {s : Shared} {r : Res}, primOp .listRange H [va] = some r → VR D a va → Rel c D O F H s → W c A (call (.type "range") [a]) (fun rv s' => W c A (call (.type "list") [rv]) (Fin c D O F H r) s') s
  lrev : ∀ {a : Value} {va : V} {D O : OM} {F : FM} {H : MH} {s : Shared} {r : Res}, primOp .listRev H [va] = some r → VR D a va → Rel c D O F H s → W c A (call (.type "reversed") [a]) (fun rv s' => W c A (call (.type "list") [rv]) (Fin c D O F H r) s') s
  sset : ∀ {a : Value} {va : V} {D O : OM} {F : FM} {H : MH} {s : Shared} {r : Res}, primOp .sortedSet H [va] = some r → VR D a va → Rel c D O F H s → W c A (call (.type "set") [a]) (fun rv s' => W c A (call (.builtin "sorted") [rv]) (Fin c D O F H r) s') s
  si : ∀ {o i v : Value} {vo vi vv : V} {r : Res} {D O : OM} {F : FM} {H : MH} {s : Shared}, setOp H vo vi vv = some r → VR D o vo → VR D i vi → VR D v vv → Rel c D O F H s → W c A (setItem o i v) (fun _ s' => Fin c D O F H r .none s') s
  isi : ∀ {t : Ty} {a : Value} {va : V} {r : Res} {D O : OM} {F : FM} {H : MH} {s : Shared}, primOp (.isi t) H [va] = some r → VR D a va → Rel c D O F H s → W c A (call (.builtin "isinstance") [a, .type t.name]) (Fin c D O F H r) s
end Mini

end
section
set_option autoImplicit false
set_option linter.unusedVariables false
set_option linter.unusedSectionVars false
set_option maxRecDepth 100000
namespace Mini
open PySem

section
variable {c : Cx} {D O : OM} {F : FM} {H : MH} {s : Shared} {A : Around}
theorem Rel.known {b : Addr} (R : Rel c D O F H s) (h : ¬ Unk D O F H b) : ∃ o, s.heap.get? b = some o := by
  refine Classical.byContradiction fun hn => h ?_
  have hn' : s.heap.get? b = none := by
    cases q : s.heap.get? b with
    | none => rfl
    | some o => exact absurd ⟨o, q⟩ hn
  refine ⟨?_, ?_, ?_, ?_⟩
  · cases q : D b with
    | none => rfl
    | some o => exact absurd ⟨_, R.dat _ _ q⟩ hn
  · cases q : O b with
    | none => rfl
    | some o => exact absurd ⟨_, (R.oth _ _ q).1⟩ hn
  · cases q : F b with
    | none => rfl
    | some o => obtain ⟨⟨o, _, _, e, _⟩, _⟩ := R.frm _ _ q; exact absurd ⟨_, e⟩ hn
  · cases q : H b with
    | none => rfl
    | some o => obtain ⟨_, o, e, _⟩ := R.own _ _ q; exact absurd ⟨_, e⟩ hn
theorem Rel.unk_new {b : Addr} (R : Rel c D O F H s) (h : s.heap.get? b = none) : Unk D O F H b :=
  Classical.byContradiction fun hn => by obtain ⟨o, e⟩ := R.known hn; rw [h] at e; cases e
theorem Rel.funFrames (R : Rel c D O F H s) {base : Heap} : ∀ {l : List PySem.Env}, (∀ e ∈ l, e ∈ c.fr) → (∀ e ∈ l, ∀ b, e.frame = some b → base.get? b = none) → s.heap.FunFrames base l
  | [], _, _ => trivial
  | e :: l, h, hb => by
    obtain ⟨h1, L, h2, h3⟩ := R.frs e (h e (.head _))
    obtain ⟨m, hm⟩ := Option.isSome_iff_exists.mp h3
    obtain ⟨⟨o, es, ep, ho, hd, _⟩, _⟩ := R.frm _ _ hm
    exact ⟨h1, ⟨L, o, h2, hb e (.head _) L h2, ho, fun vs q => by rw [hd] at q; cases q⟩, Rel.funFrames R (fun x hx => h x (.tail _ hx)) fun x hx => hb x (.tail _ hx)⟩
theorem Rel.upToSlots (R : Rel c D O F H s) {h' : Heap} {as : List Addr} (ha : ∀ b ∈ as, (F b).isSome = true ∨ Unk D O F H b) (k : (PySem.W.hideAll s.heap as).StaysIn h') (ks : s.heap.UpToSlots h') : Rel c D O F H { s with heap := h' } := by
  have off : ∀ {b : Addr} {o : Obj}, s.heap.get? b = some o → F b = none → ¬ Unk D O F H b → h'.get? b = some o := fun {b o} e hf hu => by
    refine k b o (PySem.W.hideAll_get as e fun hm => ?_)
    rcases ha b hm with q | q
    · rw [hf] at q; cases q
    · exact hu q
  have dF : ∀ {b : Addr} {o : Obj}, D b = some o → F b = none := fun {b o} e => by
    cases q : F b with
    | none => rfl
    | some m => have := (R.frm _ _ q).2.1; rw [e] at this; cases this
  have hF : ∀ {b : Addr} {o : Ob}, H b = some o → F b = none := fun {b o} e => by
    cases q : F b with
    | none => rfl
    | some m => have := (R.frm _ _ q).2.2; rw [e] at this; cases this
  refine ⟨R.base, fun b o e => off (R.dat _ _ e) (dF e) (fun u => by rw [u.1] at e; cases e), fun b o e => ?_, fun b m e => ?_, fun b ob e => ?_, R.lo, R.gens, R.os, R.frs⟩
  · obtain ⟨h1, h2, h3, h4⟩ := R.oth _ _ e
    exact ⟨off h1 h3 (fun u => by rw [u.2.1] at e; cases e), h2, h3, h4⟩
  · obtain ⟨h1, h2, h3⟩ := R.frm _ _ e
    exact ⟨ks.ns h1, h2, h3⟩
  · obtain ⟨h1, o, h2, h3⟩ := R.own _ _ e
    exact ⟨h1, o, off h2 (hF e) (fun u => by rw [u.2.2.2] at e; cases e), h3⟩
theorem ExcAt.of_traced {h' : Heap} {as : List Addr} {cls : String} {a C : Addr} {a0 : Value} (R : Rel c D O F H s) (u : Unk D O F H a) (hnm : clsNames.contains cls = true) (hc : clsAt c cls C) (ha : ∀ b ∈ as, (F b).isSome = true ∨ Unk D O F H b) (ks : s.heap.UpToSlots h') (t : h'.TracedW (PySem.W.hideAll s.heap as) a (.ref C) a0) : ExcAt c D O F H a cls h' := by
  obtain ⟨oe, vs, T, oT, ts, h1, ⟨h2, h3⟩, h4, h5, h6, h7, h8, h9, h10⟩ := t
  refine ⟨u, hnm, C, oe, vs, a0, hc, h1, h2, h4, h3, .inr ⟨T, oT, ts, h5, h7, h8, h9, h10, ?_⟩⟩
  refine Classical.byContradiction fun hn => ?_
  obtain ⟨o, e⟩ := R.known hn
  by_cases hf : (F T).isSome = true
  · obtain ⟨m, hm⟩ := Option.isSome_iff_exists.mp hf
    obtain ⟨⟨o', es, ep, ho, hd, _⟩, _⟩ := R.frm _ _ hm
    obtain ⟨sl, hs⟩ := ks T o' ho fun vs q => by rw [hd] at q; cases q
    rw [h8] at hs
    cases hs
    rw [hd] at h9; cases h9
  · have : (PySem.W.hideAll s.heap as).get? T = some o := PySem.W.hideAll_get as e fun hm => by
      rcases ha T hm with q | q
      · exact hf q
      · exact hn q
    rw [h6] at this; cases this
theorem note_flight {env : PySem.Env} {outer : List PySem.Env} {e : Value} {cls : String} {Q : Unit → Shared → Prop} {E : Value → Shared → Prop} (hfr : A.frames = some (env :: outer)) (hcf : c.fr = env :: outer) (R : Rel c D O F H s) (x : ExcIs c D O F H e cls s)
    (hQ : ∀ h', Rel c D O F H { s with heap := h' } → ExcIs c D O F H e cls { s with heap := h' } → Q () { s with heap := h' }) : WE c A (noteFrame e env) (fun _ s2 => WE c A (setFlight e none) Q E s2) E s := by
  obtain ⟨a, rfl, u, hnm, C, oe, vs, a0, hc, h1, h2, h3, h4, h5⟩ := x
  obtain ⟨_, L, hf, hL⟩ := R.frs env (by rw [hcf]; exact .head _)
  -- what is hidden
  have fin : ∀ (as : List Addr) (h' : Heap), (∀ b ∈ as, (F b).isSome = true ∨ Unk D O F H b) → Heap.NotedW (PySem.W.hideAll s.heap as) (env :: outer) a (.ref C) a0 (rawInt L) s.heap h' → WE c A (setFlight (.ref a) none) Q E { s with heap := h' } := fun as h' ha hN => by
    obtain ⟨k1, k2, k3, k4⟩ := hN
    refine wpAny_setFlight_noneW (s := { s with heap := h' }) k1 k2 k3 fun h'' j1 j2 j3 j4 => ?_
    have ks : s.heap.UpToSlots h'' := Heap.UpToSlots.trans k4 fun b o e hn => ⟨o.slots, j4 b o e hn⟩
    exact hQ h'' (R.upToSlots ha j1 ks) ⟨a, rfl, ExcAt.of_traced R u hnm hc ha ks j3⟩
  have frames : ∀ b ∈ (env :: outer).filterMap (·.frame), (F b).isSome = true := fun b hb => by
    obtain ⟨e', he', e2⟩ := List.mem_filterMap.mp hb
    obtain ⟨_, L', q1, q2⟩ := R.frs e' (by rw [hcf]; exact he')
    rw [e2] at q1; cases q1; exact q2
  have inl : ∀ e' ∈ env :: outer, ∀ b, e'.frame = some b → b ∈ (env :: outer).filterMap (·.frame) := fun e' he' b e2 => List.mem_filterMap.mpr ⟨e', he', e2⟩
  have ff : ∀ (as : List Addr), (∀ b ∈ (env :: outer).filterMap (·.frame), b ∈ as) → s.heap.FunFrames (PySem.W.hideAll s.heap as) (env :: outer) := fun as has =>
    R.funFrames (fun e' he' => by rw [hcf]; exact he') fun e' he' b e2 => PySem.W.hideAll_none _ (has b (inl e' he' b e2))
  rcases h5 with h5 | ⟨T, oT, ts, t1, t2, t3, t4, t5, t6⟩
  · have ha : ∀ b ∈ a :: (env :: outer).filterMap (·.frame), (F b).isSome = true ∨ Unk D O F H b := fun b hb => by
      rcases List.mem_cons.mp hb with rfl | hb
      · exact .inr u
      · exact .inl (frames b hb)
    unfold noteFrame
    simp only [hf]
    refine wpAny_bind (wpAny_field h1 h3 h5 ?_)
    rw [if_neg (by decide)]
    refine wpAny_entryW hfr (ff _ fun b hb => .tail _ hb) hf h1 (fun b o e => PySem.W.of_hideAll _ e) (PySem.W.hideAll_none _ (.head _)) h3 (Array.getElem?_eq_some_iff.mp h5).1 h4 fun h' hN => ?_
    rw [h2] at hN
    exact fin _ h' ha hN
  · have ha : ∀ b ∈ a :: T :: (env :: outer).filterMap (·.frame), (F b).isSome = true ∨ Unk D O F H b := fun b hb => by
      rcases List.mem_cons.mp hb with rfl | hb
      · exact .inr u
      · rcases List.mem_cons.mp hb with rfl | hb
        · exact .inr t6
        · exact .inl (frames b hb)
    refine wpAny_noteFrame_onW hfr (ff _ fun b hb => .tail _ (.tail _ hb)) hf (base := PySem.W.hideAll s.heap (a :: T :: (env :: outer).filterMap (·.frame))) (cls := .ref C) (a0 := a0) ⟨oe, vs, T, oT, ts, h1, ⟨h2, h4⟩, h3, t1, PySem.W.hideAll_none _ (.tail _ (.head _)), t2, t3, t4, t5⟩ (fun b o e => PySem.W.of_hideAll _ e) (PySem.W.hideAll_none _ (.head _)) fun h' hN => ?_
    exact fin _ h' ha hN
theorem flight_again {e : Value} {cls : String} {Q : Unit → Shared → Prop} {E : Value → Shared → Prop} (R : Rel c D O F H s) (x : ExcIs c D O F H e cls s)
    (hQ : ∀ h', Rel c D O F H { s with heap := h' } → ExcIs c D O F H e cls { s with heap := h' } → Q () { s with heap := h' }) : WE c A (setFlight e none) Q E s := by
  obtain ⟨a, rfl, u, hnm, C, oe, vs, a0, hc, h1, h2, h3, h4, h5⟩ := x
  rcases h5 with h5 | ⟨T, oT, ts, t1, t2, t3, t4, t5, t6⟩
  · unfold setFlight
    refine wpAny_bind (wpAny_field h1 h3 h5 ?_)
    rw [if_neg (by decide)]
    exact wpAny_pure (hQ s.heap R ⟨a, rfl, u, hnm, C, oe, vs, a0, hc, h1, h2, h3, h4, .inl h5⟩)
  · have ha : ∀ b ∈ [a, T], (F b).isSome = true ∨ Unk D O F H b := fun b hb => by
      rcases List.mem_cons.mp hb with rfl | hb
      · exact .inr u
      · rcases List.mem_cons.mp hb with rfl | hb
        · exact .inr t6
        · cases hb
    refine wpAny_setFlight_noneW (base := PySem.W.hideAll s.heap [a, T]) (l := []) (cls := .ref C) (a0 := a0) (fl := .none) (fun b o e => PySem.W.of_hideAll _ e) trivial ⟨oe, vs, T, oT, ts, h1, ⟨h2, h4⟩, h3, t1, PySem.W.hideAll_none _ (.tail _ (.head _)), t2, t3, t4, t5⟩ fun h' j1 _ j3 j4 => ?_
    have ks : s.heap.UpToSlots h' := fun b o e hn => ⟨o.slots, j4 b o e hn⟩
    exact hQ h' (R.upToSlots ha j1 ks) ⟨a, rfl, ExcAt.of_traced R u hnm hc ha ks j3⟩
end
end Mini

end
section
set_option autoImplicit false
set_option linter.unusedVariables false
set_option linter.unusedSectionVars false
set_option maxRecDepth 100000
namespace Mini
open PySem

noncomputable def EvalOK (c : Cx) (A : Around) (C : CallSem) (K : Kn) (x : X) (e : Expr) : Prop := ∀ (env : PySem.Env) (ρ : Env) (D O : OM) (F : FM) (H : MH) (s : Shared) (Q : V → MH → Prop) (Z : Z0),
  FOK env → env.scope.names = K → FS env D O F ρ → Rel c D O F H s → wpE C x ρ Q Z H → WE c A (eval e env) (Post c D O F Q) (EX c D O F Z) s
noncomputable def TrueOK (c : Cx) (A : Around) (C : CallSem) (K : Kn) (x : X) (e : Expr) : Prop := ∀ (env : PySem.Env) (ρ : Env) (D O : OM) (F : FM) (H : MH) (s : Shared) (Q : Bool → MH → Prop) (Z : Z0),
  FOK env → env.scope.names = K → FS env D O F ρ → Rel c D O F H s → wpE C x ρ (asB Q) Z H → WE c A (isTrue e env (eval e env)) (PostB c D O F Q) (EX c D O F Z) s
noncomputable def SndE (c : Cx) (A : Around) (C : CallSem) (K : Kn) (x : X) (e : Expr) : Prop := EvalOK c A C K x e ∧ TrueOK c A C K x e
noncomputable def SplOK (c : Cx) (A : Around) (C : CallSem) (K : Kn) (xs : List X) (es : List Expr) : Prop := ∀ (env : PySem.Env) (ρ : Env) (D O : OM) (F : FM) (H : MH) (s : Shared) (Q : List V → MH → Prop) (Z : Z0) (pos : Pos),
  FOK env → env.scope.names = K → FS env D O F ρ → Rel c D O F H s → wpL C xs ρ Q Z H → WE c A (spliced (backTo pos (starEach es env))) (PostL c D O F Q) (EX c D O F Z) s

section
variable {c : Cx} {mg : Str → Option Value} {G : List String} {A : Around} {C : CallSem} {K : Kn}

theorem truthy_post {D O : OM} {F : FM} {Q : Bool → MH → Prop} {cv : Value} {s : Shared} {E : Value → Shared → Prop} (h : Post c D O F (asB Q) cv s) : WE c A (truthy cv) (PostB c D O F Q) E s := by
  obtain ⟨D', v, H', k, hv, R, b, rfl, q⟩ := h
  obtain rfl := hv.bool_inv
  exact wpAny_truthy_bool ⟨D', H', k, R, q⟩

theorem true_of_eval {x : X} {e : Expr} (h : EvalOK c A C K x e) (he : ∀ env wh, isTrue e env wh = (do let v ← wh; standAt e.pos; holding [v] (truthy v))) : SndE c A C K x e :=
  ⟨h, fun env ρ D O F H s Q Z hF hK fs R w => PyProof.Rows.isTrue_plain (wpAny_mono (h env ρ D O F H s _ Z hF hK fs R w) (fun _ _ p => truthy_post p) fun _ _ e => e) (he env _)⟩

section
variable {env : PySem.Env} {ρ : Env} {D O : OM} {F : FM} {H : MH} {s : Shared} {Z : Z0}

theorem eval1 {a : X} {l : Expr} {Q : List V → MH → Prop} {P : Value → Shared → Prop} (ha : EvalOK c A C K a l) (hF : FOK env) (hK : env.scope.names = K) (fs : FS env D O F ρ) (R : Rel c D O F H s) (h : wpL C [a] ρ Q Z H)
    (hP : ∀ av s1 D1 va H1, OLe D D1 → VR D1 av va → Rel c D1 O F H1 s1 → Q [va] H1 → P av s1) : WE c A (eval l env) P (EX c D O F Z) s := by
  have h' : wpE C a ρ (fun va H1 => Q [va] H1) Z H := h
  refine wpAny_mono (ha env ρ D O F H s _ Z hF hK fs R h') (fun av s1 p1 => ?_) fun _ _ e => e
  obtain ⟨D1, va, H1, k1, v1, R1, q1⟩ := p1
  exact hP av s1 D1 va H1 k1 v1 R1 q1

theorem eval2 {a b : X} {l r : Expr} {Q : List V → MH → Prop} {P : Value → Value → Shared → Prop} (ha : EvalOK c A C K a l) (hb : EvalOK c A C K b r) (hF : FOK env) (hK : env.scope.names = K) (fs : FS env D O F ρ) (R : Rel c D O F H s) (h : wpL C [a, b] ρ Q Z H)
    (hP : ∀ av bv s2 D2 va vb H2, OLe D D2 → VR D2 av va → VR D2 bv vb → Rel c D2 O F H2 s2 → Q [va, vb] H2 → P av bv s2) :
    WE c A (eval l env) (fun av s1 => WE c A (eval r env) (fun bv s2 => P av bv s2) (EX c D O F Z) s1) (EX c D O F Z) s := by
  have h' : wpE C a ρ (fun va H1 => wpE C b ρ (fun vb H2 => Q [va, vb] H2) Z H1) Z H := h
  refine wpAny_mono (ha env ρ D O F H s _ Z hF hK fs R h') (fun av s1 p1 => ?_) fun _ _ e => e
  obtain ⟨D1, va, H1, k1, v1, R1, q1⟩ := p1
  refine wpAny_mono (hb env ρ D1 O F H1 s1 _ Z hF hK (fs.mono k1) R1 q1) (fun bv s2 p2 => ?_) fun _ _ e => e.mono k1
  obtain ⟨D2, vb, H2, k2, v2, R2, q2⟩ := p2
  exact hP av bv s2 D2 va vb H2 (k1.trans k2) (v1.mono k2) v2 R2 q2

theorem W.post {t : Sem Value} {D' : OM} {H' : MH} {r : Res} {Q : V → MH → Prop} {E : Value → Shared → Prop} {s : Shared} (h : W c A t (Fin c D' O F H' r) s) (q : fin Q H' r) (k : OLe D D') : WE c A t (Post c D O F Q) E s :=
  h.then fun _ _ f => (f.post q).mono k

theorem glo_name {x : String} {v : Value} {p : Pos} {Q : Value → Shared → Prop} {E : Value → Shared → Prop} (gl : Gl c mg G) (hF : FOK env) (hk : gloK env.scope.names x = true) (hx : x ∈ bNames) (hv : bootBuiltins (nm x) = some v) (hn : nm x ≠ "__name__") (R : Rel c D O F H s) (h : Q v s) :
    WE c A (eval (.Name (nm x) p) env) Q E s := by
  have hk' : env.kindOf (nm x) = some .globalImplicit ∧ (nm x == ("__debug__" : Str)) = false := by
    have := Bool.and_eq_true_iff.mp hk
    exact ⟨by simpa [PySem.Env.kindOf] using this.1, by simpa using this.2⟩
  obtain ⟨mb, nb, hb⟩ := gl.b
  have kk : ∀ b o, c.s0.heap.get? b = some o → s.heap.get? b = some o := fun b o e => R.dat _ _ (R.base _ _ e)
  refine Calls.Name_function_global hF.kind hk'.1 (Calls.loadGlobal_builtin (mg := mg) (mb := mb) ?_ (gl.bl x hx) ?_ ?_ h) hk'.2
  · rw [hF.globals]; exact gl.g.keeps kk
  · rw [hF.builtins]; exact nb.keeps kk
  · rw [hb _ hn]; exact hv
theorem fn_name {f : String} {p : Pos} {Q : Value → Shared → Prop} {E : Value → Shared → Prop} {v : Value} (gl : Gl c mg G) (hF : FOK env) (hk : gloK env.scope.names f = true) (hv : mg (nm f) = some v) (R : Rel c D O F H s) (h : Q v s) :
    WE c A (eval (.Name (nm f) p) env) Q E s := by
  have hk' : env.kindOf (nm f) = some .globalImplicit ∧ (nm f == ("__debug__" : Str)) = false := by
    have := Bool.and_eq_true_iff.mp hk
    exact ⟨by simpa [PySem.Env.kindOf] using this.1, by simpa using this.2⟩
  have kk : ∀ b o, c.s0.heap.get? b = some o → s.heap.get? b = some o := fun b o e => R.dat _ _ (R.base _ _ e)
  refine Calls.Name_function_global hF.kind hk'.1 (Calls.loadGlobal_global (mg := mg) ?_ hv h) hk'.2
  rw [hF.globals]; exact gl.g.keeps kk
end

theorem boot_sorted : bootBuiltins (nm "sorted") = some (.builtin "sorted") := by decide +kernel
theorem boot_reversed : bootBuiltins (nm "reversed") = some (.type "reversed") := by decide +kernel
theorem boot_range' : bootBuiltins (nm "range") = some (.type "range") := by decide +kernel
theorem boot_list' : bootBuiltins (nm "list") = some (.type "list") := by decide +kernel
theorem boot_set' : bootBuiltins (nm "set") = some (.type "set") := by decide +kernel
theorem boot_isi : bootBuiltins (nm "isinstance") = some (.builtin "isinstance") := by decide +kernel
theorem boot_of {q : Prim} {x : String} {fv : Value} (h : bfn q = some (x, fv)) : bootBuiltins (nm x) = some fv ∧ x ∈ bNames ∧ nm x ≠ "__name__" ∧ ((∃ id, fv = .builtin id) ∨ ∃ T, fv = .type T) := by
  cases q <;> simp only [bfn] at h <;> (try (cases h; done)) <;> (cases h; refine ⟨by decide +kernel, by decide +kernel, by decide +kernel, ?_⟩; first | exact .inl ⟨_, rfl⟩ | exact .inr ⟨_, rfl⟩)

theorem callWith_fv {pos : Pos} {fv : Value} {first : List Value} {args : List (Bool × Sem Value)} {x : Sem Value} {Q : Value → Shared → Prop} {E : Value → Shared → Prop} {s : Shared} (hf : (∃ id, fv = .builtin id) ∨ ∃ T, fv = .type T)
    (hp : ((false, x) :: args).any (·.1) = false) (h : WE c A (spliced ((false, x) :: args)) (fun vs s' => WE c A (call fv (first ++ vs)) Q E s') E s) : WE c A (callWith pos fv first ((false, x) :: args) []) Q E s := by
  rcases hf with ⟨id, rfl⟩ | ⟨T, rfl⟩
  · exact Calls.callWith_builtin hp (Calls.evalArgs_plain h)
  · exact callWith_type hp (Calls.evalArgs_plain h)

theorem snd_none {k : Nat} {p : Pos} : SndE c A C K (.cst .none) (.Constant .none k p) :=
  true_of_eval (fun _ _ D _ _ H _ _ _ _ _ _ R h => PyProof.Rows.Constant_none ⟨D, .none, H, .refl D, .none, R, h⟩) fun _ _ => rfl
theorem snd_bool {b : Bool} {k : Nat} {p : Pos} : SndE c A C K (.cst (.bool b)) (.Constant (.bool b) k p) :=
  true_of_eval (fun _ _ D _ _ H _ _ _ _ _ _ R h => PyProof.Rows.Constant_bool ⟨D, .bool b, H, .refl D, .bool b, R, h⟩) fun _ _ => rfl
theorem snd_int {i : Int} {k : Nat} {p : Pos} : SndE c A C K (.cst (.int i)) (.Constant (.int i) k p) :=
  true_of_eval (fun _ _ D _ _ H _ _ _ _ _ _ R h => wpAny_Constant_int ⟨D, .int i, H, .refl D, .int i _, R.toks _, h⟩) fun _ _ => rfl
theorem snd_str {x : Str} {k : Nat} {p : Pos} (hx : x.length ≤ lim) : SndE c A C K (.cst (.str x)) (.Constant (.str x) k p) :=
  true_of_eval (fun _ _ D _ _ H _ _ _ _ _ _ R h => Calls.Constant_str ⟨D, .str x, H, .refl D, .str x _ hx, R.toks _, h⟩) fun _ _ => rfl
theorem snd_var {x : String} {p : Pos} (hk : varK (K.lookup (nm x)) = true) (hd : (nm x == ("__debug__" : Str)) = false) (hc : (nm x == ("__classdict__" : Str)) = false) (h0 : (x == ".0") = false) : SndE c A C K (.var x) (.Name (nm x) p) :=
  true_of_eval (fun env ρ D O F H s Q Z hF hK fs R h => by
    obtain ⟨v, hv, q⟩ := (h : ∃ v, ρ x = some v ∧ Q v H)
    refine wpAny_Name (load_snd hF fs R hv ?_ hc (by simpa using h0) fun cv r => ⟨D, v, H, .refl D, r, R, q⟩) hd
    have e : env.kindOf (nm x) = K.lookup (nm x) := by rw [← hK]; rfl
    rw [e]
    revert hk
    cases K.lookup (nm x) with
    | none => intro h; cases h
    | some k => cases k <;> intro h <;> first | exact .inl rfl | exact .inr (.inl rfl) | exact .inr (.inr rfl) | cases h) fun _ _ => rfl

theorem snd_bin (pf : PF c A) {op : Operator} {q : Prim} {a b : X} {l r : Expr} {p : Pos} (hq : binP op = some q) (ha : SndE c A C K a l) (hb : SndE c A C K b r) : SndE c A C K (.prim q [a, b]) (.BinOp l op r p) :=
  true_of_eval (fun env ρ D O F H s Q Z hF hK fs R h => wpAny_BinOp (eval2 ha.1 hb.1 hF hK fs R h fun av bv s2 D2 va vb H2 k v1 v2 R2 z => by
    obtain ⟨r, e, f⟩ := z
    exact (pf.bin hq e v1 v2 R2).post f k)) fun _ _ => rfl
theorem snd_neg {a : X} {e : Expr} {p : Pos} (ha : SndE c A C K a e) : SndE c A C K (.prim .neg [a]) (.UnaryOp .USub e p) :=
  true_of_eval (fun env ρ D O F H s Q Z hF hK fs R h => PyProof.Rows.UnaryOp_ (eval1 ha.1 hF hK fs R h fun av s1 D1 va H1 k v1 R1 z => by
    obtain ⟨r, e, f⟩ := z
    cases va <;> try (cases e; done)
    cases e
    exact (neg_snd R1 v1).post f k)) fun _ _ => rfl
theorem snd_not (hC : MonoC C) {a : X} {e : Expr} {p : Pos} (ha : SndE c A C K a e) : SndE c A C K (.prim .not [a]) (.UnaryOp .Not e p) :=
  ⟨fun env ρ D O F H s Q Z hF hK fs R h => PyProof.Rows.UnaryOp_ (eval1 ha.1 hF hK fs R h fun av s1 D1 va H1 k v1 R1 z => by
    obtain ⟨r, e, f⟩ := z
    cases va <;> try (cases e; done)
    cases e
    exact (not_snd R1 v1).post f k),
   fun env ρ D O F H s Q Z hF hK fs R h => PyProof.Rows.isTrue_not (by
    have h' : wpE C a ρ (fun va H1 => ∃ r, primOp .not H1 [va] = some r ∧ fin (asB Q) H1 r) Z H := h
    have h2 : wpE C a ρ (asB fun b H1 => Q (!b) H1) Z H := by
      refine wpE_mono hC h' (fun v H1 z => ?_) fun _ _ z => z
      obtain ⟨r, e, f⟩ := z
      cases v <;> try (cases e; done)
      cases e
      obtain ⟨b, e, q⟩ := f
      cases e
      exact ⟨_, rfl, q⟩
    exact ha.2 env ρ D O F H s _ Z hF hK fs R h2)⟩

theorem true_cmp {op : CmpOp} {q : Prim} {a b : X} {l r : Expr} {p : Pos} (hr : okE r = true) (h : ∀ (env : PySem.Env) (ρ : Env) (D O : OM) (F : FM) (H : MH) (s : Shared) (Q : V → MH → Prop) (Z : Z0),
    FOK env → env.scope.names = K → FS env D O F ρ → Rel c D O F H s → wpE C (.prim q [a, b]) ρ Q Z H → WE c A (eval l env) (fun av s1 => WE c A (eval r env) (fun bv s2 => WE c A (compareOp op av bv) (Post c D O F Q) (EX c D O F Z) s2) (EX c D O F Z) s1) (EX c D O F Z) s) :
    SndE c A C K (.prim q [a, b]) (.Compare l [op] [r] p) :=
  ⟨fun env ρ D O F H s Q Z hF hK fs R w => wpAny_Compare1 (h env ρ D O F H s Q Z hF hK fs R w) (hr |> fun k => okE.behind k op),
   fun env ρ D O F H s Q Z hF hK fs R w => wpAny_isTrue_Compare1 (wpAny_mono (h env ρ D O F H s _ Z hF hK fs R w) (fun _ _ p => wpAny_mono p (fun _ _ p => wpAny_mono p (fun _ _ p => truthy_post p) fun _ _ e => e) fun _ _ e => e) fun _ _ e => e) (hr |> fun k => okE.behind k op)⟩
theorem snd_cmp (pf : PF c A) {op : CmpOp} {q : Prim} {a b : X} {l r : Expr} {p : Pos} (hq : cmpP op = some q) (hr : okE r = true) (ha : SndE c A C K a l) (hb : SndE c A C K b r) : SndE c A C K (.prim q [a, b]) (.Compare l [op] [r] p) :=
  true_cmp hr fun env ρ D O F H s Q Z hF hK fs R h => eval2 ha.1 hb.1 hF hK fs R h fun av bv s2 D2 va vb H2 k v1 v2 R2 z => by
    obtain ⟨r, e, f⟩ := z
    exact (pf.cmp hq e v1 v2 R2).post f k
theorem true_cmp1 {op : CmpOp} {q : Prim} {a : X} {l : Expr} {p p' : Pos} {k : Nat} (h : ∀ (env : PySem.Env) (ρ : Env) (D O : OM) (F : FM) (H : MH) (s : Shared) (Q : V → MH → Prop) (Z : Z0),
    FOK env → env.scope.names = K → FS env D O F ρ → Rel c D O F H s → wpE C (.prim q [a]) ρ Q Z H → WE c A (eval l env) (fun av s1 => WE c A (compareOp op av .none) (Post c D O F Q) (EX c D O F Z) s1) (EX c D O F Z) s) :
    SndE c A C K (.prim q [a]) (.Compare l [op] [.Constant .none k p'] p) :=
  ⟨fun env ρ D O F H s Q Z hF hK fs R w => wpAny_Compare1 (wpAny_mono (h env ρ D O F H s Q Z hF hK fs R w) (fun _ _ p => PyProof.Rows.Constant_none p) fun _ _ e => e) rfl,
   fun env ρ D O F H s Q Z hF hK fs R w => wpAny_isTrue_Compare1 (wpAny_mono (h env ρ D O F H s _ Z hF hK fs R w) (fun _ _ p => PyProof.Rows.Constant_none (wpAny_mono p (fun _ _ p => truthy_post p) fun _ _ e => e)) fun _ _ e => e) rfl⟩
theorem snd_isNone {a : X} {l : Expr} {k : Nat} {p p' : Pos} (ha : SndE c A C K a l) : SndE c A C K (.prim .isNone [a]) (.Compare l [.Is] [.Constant .none k p'] p) :=
  true_cmp1 fun env ρ D O F H s Q Z hF hK fs R h => eval1 ha.1 hF hK fs R h fun av s1 D1 va H1 k v1 R1 z => by
    obtain ⟨r, e, f⟩ := z
    cases e
    exact (isNone_snd R1 v1).post f k
theorem snd_one {op : BoolOp} {a : X} {e : Expr} {p : Pos} (ha : SndE c A C K a e) : SndE c A C K a (.BoolOp op [e] p) :=
  ⟨fun env ρ D O F H s Q Z hF hK fs R h => PyProof.Rows.BoolOp_one (ha.1 env ρ D O F H s Q Z hF hK fs R h),
   fun env ρ D O F H s Q Z hF hK fs R h => by
    have := ha.2 env ρ D O F H s Q Z hF hK fs R h
    cases op with
    | And => exact PyProof.Rows.isTrue_and (wpAny_mono this (fun b s' p => by cases b with
        | true => exact PyProof.Rows.isTrue_and_nil p
        | false => exact p) fun _ _ e => e)
    | Or => exact PyProof.Rows.isTrue_or (wpAny_mono this (fun b s' p => by cases b with
        | true => exact p
        | false => exact PyProof.Rows.isTrue_or_nil p) fun _ _ e => e)⟩
theorem isTrue_bool_whole {op : BoolOp} {es : List Expr} {p : Pos} {env : PySem.Env} (w w' : Sem Value) : isTrue (.BoolOp op es p) env w = isTrue (.BoolOp op es p) env w' := rfl
theorem snd_and {a b : X} {e e' : Expr} {es : List Expr} {p : Pos} (ha : SndE c A C K a e) (hb : SndE c A C K b (.BoolOp .And (e' :: es) p)) : SndE c A C K (.and a b) (.BoolOp .And (e :: e' :: es) p) :=
  ⟨fun env ρ D O F H s Q Z hF hK fs R h => PyProof.Rows.BoolOp_and (by
    have h' : wpE C a ρ (asB fun b' H' => (b' = true → wpE C b ρ Q Z H') ∧ (b' = false → Q (.bool false) H')) Z H := h
    refine wpAny_mono (ha.1 env ρ D O F H s _ Z hF hK fs R h') (fun av s1 p1 => ?_) fun _ _ e => e
    obtain ⟨D1, v, H1, k, hv, R1, b', rfl, q1, q2⟩ := p1
    obtain rfl := hv.bool_inv
    refine wpAny_truthy_bool ?_
    cases b' with
    | true => exact wpAny_mono (hb.1 env ρ D1 O F H1 s1 Q Z hF hK (fs.mono k) R1 (q1 rfl)) (fun _ _ p => p.mono k) fun _ _ e => e.mono k
    | false => exact ⟨D1, _, H1, k, hv, R1, q2 rfl⟩),
   fun env ρ D O F H s Q Z hF hK fs R h => PyProof.Rows.isTrue_and (by
    have h' : wpE C a ρ (asB fun b' H' => (b' = true → wpE C b ρ (asB Q) Z H') ∧ (b' = false → asB Q (.bool false) H')) Z H := h
    refine wpAny_mono (ha.2 env ρ D O F H s _ Z hF hK fs R h') (fun b' s1 p1 => ?_) fun _ _ e => e
    obtain ⟨D1, H1, k, R1, q1, q2⟩ := p1
    cases b' with
    | true =>
      rw [if_pos rfl, isTrue_bool_whole _ (eval (.BoolOp .And (e' :: es) p) env)]
      exact wpAny_mono (hb.2 env ρ D1 O F H1 s1 Q Z hF hK (fs.mono k) R1 (q1 rfl)) (fun _ _ p => p.mono k) fun _ _ e => e.mono k
    | false =>
      obtain ⟨b2, e2, q⟩ := q2 rfl
      cases e2
      exact ⟨D1, H1, k, R1, q⟩)⟩
theorem snd_or {a b : X} {e e' : Expr} {es : List Expr} {p : Pos} (ha : SndE c A C K a e) (hb : SndE c A C K b (.BoolOp .Or (e' :: es) p)) : SndE c A C K (.or a b) (.BoolOp .Or (e :: e' :: es) p) :=
  ⟨fun env ρ D O F H s Q Z hF hK fs R h => PyProof.Rows.BoolOp_or (by
    have h' : wpE C a ρ (asB fun b' H' => (b' = false → wpE C b ρ Q Z H') ∧ (b' = true → Q (.bool true) H')) Z H := h
    refine wpAny_mono (ha.1 env ρ D O F H s _ Z hF hK fs R h') (fun av s1 p1 => ?_) fun _ _ e => e
    obtain ⟨D1, v, H1, k, hv, R1, b', rfl, q1, q2⟩ := p1
    obtain rfl := hv.bool_inv
    refine wpAny_truthy_bool ?_
    cases b' with
    | false => exact wpAny_mono (hb.1 env ρ D1 O F H1 s1 Q Z hF hK (fs.mono k) R1 (q1 rfl)) (fun _ _ p => p.mono k) fun _ _ e => e.mono k
    | true => exact ⟨D1, _, H1, k, hv, R1, q2 rfl⟩),
   fun env ρ D O F H s Q Z hF hK fs R h => PyProof.Rows.isTrue_or (by
    have h' : wpE C a ρ (asB fun b' H' => (b' = false → wpE C b ρ (asB Q) Z H') ∧ (b' = true → asB Q (.bool true) H')) Z H := h
    refine wpAny_mono (ha.2 env ρ D O F H s _ Z hF hK fs R h') (fun b' s1 p1 => ?_) fun _ _ e => e
    obtain ⟨D1, H1, k, R1, q1, q2⟩ := p1
    cases b' with
    | false =>
      rw [if_neg (by decide), isTrue_bool_whole _ (eval (.BoolOp .Or (e' :: es) p) env)]
      exact wpAny_mono (hb.2 env ρ D1 O F H1 s1 Q Z hF hK (fs.mono k) R1 (q1 rfl)) (fun _ _ p => p.mono k) fun _ _ e => e.mono k
    | true =>
      obtain ⟨b2, e2, q⟩ := q2 rfl
      cases e2
      exact ⟨D1, H1, k, R1, q⟩)⟩
theorem snd_idx (pf : PF c A) {a b : X} {l r : Expr} {p : Pos} (hr : okE r = true) (ha : SndE c A C K a l) (hb : SndE c A C K b r) : SndE c A C K (.prim .idx [a, b]) (.Subscript l r p) :=
  true_of_eval (fun env ρ D O F H s Q Z hF hK fs R h => PyProof.Rows.Subscript_ (eval2 ha.1 hb.1 hF hK fs R h fun av bv s2 D2 va vb H2 k v1 v2 R2 z => by
    obtain ⟨r, e, f⟩ := z
    exact (pf.idx (okE.slice hr) e v1 v2 R2).post f k)) fun _ _ => rfl
theorem snd_sliceTo (pf : PF c A) {a b : X} {l r : Expr} {p q : Pos} (ha : SndE c A C K a l) (hb : SndE c A C K b r) : SndE c A C K (.prim .sliceTo [a, b]) (.Subscript l (.Slice none (some r) none q) p) :=
  true_of_eval (fun env ρ D O F H s Q Z hF hK fs R h => PyProof.Rows.Subscript_ (wpAny_mono (eval2 ha.1 hb.1 hF hK fs R h (P := fun av bv s2 => WE c A (PyProof.Rows.subscriptTail l (.Slice none (some r) none q) av (.ref s2.heap.objs.size)) (Post c D O F Q) (EX c D O F Z) { s2 with heap := s2.heap.push { cls := .type "slice", data := .fields #[.none, bv, .none] } })
    fun av bv s2 D2 va vb H2 k v1 v2 R2 z => by
      obtain ⟨r, e, f⟩ := z
      exact (pf.sl e (.inl ⟨rfl, rfl, v2⟩) v1 R2).post f k) (fun av s1 p1 => wpAny_Slice (wpAny_pure (a := Value.none) (wpAny_mono p1 (fun bv s2 p2 => wpAny_pure (a := Value.none) p2) fun _ _ e => e))) fun _ _ e => e)) fun _ _ => rfl
theorem snd_sliceFrom (pf : PF c A) {a b : X} {l r : Expr} {p q : Pos} (ha : SndE c A C K a l) (hb : SndE c A C K b r) : SndE c A C K (.prim .sliceFrom [a, b]) (.Subscript l (.Slice (some r) none none q) p) :=
  true_of_eval (fun env ρ D O F H s Q Z hF hK fs R h => PyProof.Rows.Subscript_ (wpAny_mono (eval2 ha.1 hb.1 hF hK fs R h (P := fun av bv s2 => WE c A (PyProof.Rows.subscriptTail l (.Slice (some r) none none q) av (.ref s2.heap.objs.size)) (Post c D O F Q) (EX c D O F Z) { s2 with heap := s2.heap.push { cls := .type "slice", data := .fields #[bv, .none, .none] } })
    fun av bv s2 D2 va vb H2 k v1 v2 R2 z => by
      obtain ⟨r, e, f⟩ := z
      exact (pf.sl e (.inr ⟨rfl, v2, rfl⟩) v1 R2).post f k) (fun av s1 p1 => wpAny_Slice (wpAny_mono p1 (fun bv s2 p2 => wpAny_pure (a := Value.none) (wpAny_pure (a := Value.none) p2)) fun _ _ e => e)) fun _ _ e => e)) fun _ _ => rfl

theorem spl_nil : SplOK c A C K [] [] := fun env ρ D O F H s Q Z pos hF hK fs R h => Calls.spliced_nil ⟨D, [], H, .refl D, .nil, R, h⟩
theorem spl_cons {x : X} {xs : List X} {e : Expr} {es : List Expr} (ho : okE e = true) (he : SndE c A C K x e) (hes : SplOK c A C K xs es) : SplOK c A C K (x :: xs) (e :: es) := fun env ρ D O F H s Q Z pos hF hK fs R h => by
  rw [ho |> fun k => okE.star k es env]
  refine Calls.spliced_cons ?_
  have h' : wpE C x ρ (fun v H' => wpL C xs ρ (fun vs H'' => Q (v :: vs) H'') Z H') Z H := h
  refine wpAny_mono (he.1 env ρ D O F H s _ Z hF hK fs R h') (fun av s1 p1 => ?_) fun _ _ e => e
  obtain ⟨D1, va, H1, k1, v1, R1, q1⟩ := p1
  refine wpAny_mono (hes env ρ D1 O F H1 s1 _ Z pos hF hK (fs.mono k1) R1 q1) (fun cs s2 p2 => ?_) fun _ _ e => e.mono k1
  obtain ⟨D2, vs, H2, k2, v2, R2, q2⟩ := p2
  exact ⟨D2, va :: vs, H2, k1.trans k2, .cons (v1.mono k2) v2, R2, q2⟩

theorem snd_tuple {xs : List X} {es : List Expr} {k : Nat} {p : Pos} (h : SplOK c A C K xs es) : SndE c A C K (.prim .tuple xs) (.Tuple es k p) :=
  true_of_eval (fun env ρ D O F H s Q Z hF hK fs R w => wpAny_Tuple_spliced (wpAny_mono (h env ρ D O F H s _ Z p hF hK fs R w) (fun cs s1 p1 => by
    obtain ⟨D1, vs, H1, k1, v1, R1, r, e, f⟩ := p1
    have e' : (if vs.length ≤ lim then some (Res.val (.tup vs)) else none) = some r := e
    split at e'
    · rename_i hl
      cases e'
      refine ⟨by rw [v1.1]; unfold lim at hl; rw [sizeLine_eq]; (first | lia | omega), ?_⟩
      exact ((fin_newTup (tk := s1.toks) R1 v1 hl rfl).post f).mono k1
    · cases e') fun _ _ e => e)) fun _ _ => rfl
theorem snd_list {xs : List X} {es : List Expr} {p : Pos} (h : SplOK c A C K xs es) : SndE c A C K (.prim .list xs) (.List es p) :=
  true_of_eval (fun env ρ D O F H s Q Z hF hK fs R w => wpAny_List_spliced (wpAny_mono (h env ρ D O F H s _ Z p hF hK fs R w) (fun cs s1 p1 => by
    obtain ⟨D1, vs, H1, k1, v1, R1, r, e, f⟩ := p1
    have e' : (if vs.length ≤ lim then some (Res.new (.list vs)) else none) = some r := e
    split at e'
    · rename_i hl
      cases e'
      refine ⟨by rw [v1.1]; unfold lim at hl; rw [sizeLine_eq]; (first | lia | omega), ?_⟩
      exact ((fin_newList (tk := s1.toks) R1 v1 hl rfl).post f).mono k1
    · cases e') fun _ _ e => e)) fun _ _ => rfl
end
end Mini

end
section
set_option autoImplicit false
set_option linter.unusedVariables false
set_option linter.unusedSectionVars false
set_option maxRecDepth 100000
namespace Mini
open PySem

theorem Rel.o2h {c : Cx} {D O : OM} {F : FM} {H : MH} {s : Shared} {d : Addr} {o o' : Obj} {ob : Ob} {h' : Heap} {tk : Nat} (R : Rel c D (oput O d o) F H s) (hO : O d = none) (hs : Heap.SameBut d s.heap h') (e : h'.get? d = some o') (k : OR c D o' ob) :
    H d = none ∧ Rel c D O F (hupd H d ob) { s with heap := h', toks := tk } := by
  obtain ⟨_, hD, hF, hH⟩ := R.oth d o (oput_same ..)
  refine ⟨hH, ?_⟩
  have R1 := (R.setO (tk := tk) (oput_same ..) hs e)
  have R2 : Rel c D O F H { s with heap := h', toks := tk } := R1.subO fun b x q => by
    have : b ≠ d := fun z => by rw [z, hO] at q; cases q
    rw [oput_ne this, oput_ne this]; exact q
  exact R2.newH e hD hO hF k (R.lo d (.inr ⟨_, oput_same ..⟩))

theorem orEmpty {c : Cx} {D : OM} {o : Obj} (h : o = { cls := .type "dict", data := .dict #[] }) : OR c D o (.dict []) := by
  subst h
  exact .dict (es := #[]) ⟨rfl, rfl, rfl⟩ rfl (.int [] (fun e he => by simp at he) .nil (by simp) .nil) (Nat.zero_le _)

section
variable {c : Cx} {mg : Str → Option Value} {G : List String} {A : Around} {C : CallSem} {K : Kn}

theorem snd_bcall (pf : PF c A) (gl : Gl c mg G) {q : Prim} {x : String} {fv : Value} {xs : List X} {e : Expr} {es : List Expr} {p p' : Pos} (hq : bfn q = some (x, fv)) (hg : gloK K x = true) (ho : okE e = true)
    (hn : ∀ pos env, (backTo pos (starEach (e :: es) env)).any (·.1) = false) (h : SplOK c A C K xs (e :: es)) : SndE c A C K (.prim q xs) (.Call (.Name (nm x) p') (e :: es) [] p) :=
  true_of_eval (fun env ρ D O F H s Q Z hF hK fs R w => by
    obtain ⟨b1, b2, b3, b4⟩ := boot_of hq
    refine wpAny_Call_Name_kw (glo_name gl hF (by rw [hK]; exact hg) b2 b1 b3 R ?_)
    have hs := hn p env
    have h1 := h env ρ D O F H s _ Z p hF hK fs R w
    rw [okE.star ho] at hs h1 ⊢
    refine callWith_fv b4 hs (wpAny_mono h1 (fun cs s1 p1 => ?_) fun _ _ e => e)
    obtain ⟨D1, vs, H1, k1, v1, R1, r, e, f⟩ := p1
    exact (pf.bc hq e v1 R1).post f k1) fun _ _ => rfl
theorem snd_isi (pf : PF c A) (gl : Gl c mg G) {t : Ty} {a : X} {e : Expr} {p p' p'' : Pos} (hg : gloK K "isinstance" = true) (ht : gloK K t.name = true) (ho : okE e = true) (ha : SndE c A C K a e) :
    SndE c A C K (.prim (.isi t) [a]) (.Call (.Name (nm "isinstance") p') [e, .Name (nm t.name) p''] [] p) :=
  true_of_eval (fun env ρ D O F H s Q Z hF hK fs R w => by
    refine wpAny_Call_Name_kw (glo_name gl hF (by rw [hK]; exact hg) (by decide) boot_isi (by decide +kernel) R ?_)
    rw [okE.star ho]
    refine callWith_fv (.inl ⟨_, rfl⟩) rfl (Calls.spliced_cons (eval1 ha.1 hF hK fs R w fun av s1 D1 va H1 k v1 R1 z => ?_))
    show WE c A (spliced [(false, eval (.Name (nm t.name) p'') env)]) _ _ _
    refine Calls.spliced_cons (glo_name (v := .type t.name) gl hF (by rw [hK]; exact ht) (by cases t <;> decide) (by cases t <;> decide +kernel) (by cases t <;> decide +kernel) R1 (Calls.spliced_nil ?_))
    obtain ⟨r, e, f⟩ := z
    exact (pf.isi e v1 R1).post f k) fun _ _ => rfl
theorem call_call (gl : Gl c mg G) {x y : String} {fv gv : Value} {q : Prim} {a : X} {e : Expr} {p p' p'' p3 : Pos} (hx : gloK K x = true) (hy : gloK K y = true) (xb : x ∈ bNames) (yb : y ∈ bNames) (xv : bootBuiltins (nm x) = some fv) (yv : bootBuiltins (nm y) = some gv)
    (xn : nm x ≠ "__name__") (yn : nm y ≠ "__name__") (xf : (∃ id, fv = .builtin id) ∨ ∃ T, fv = .type T) (yf : (∃ id, gv = .builtin id) ∨ ∃ T, gv = .type T) (ho : okE e = true) (ha : SndE c A C K a e)
    (hp : ∀ {a : Value} {va : V} {D O : OM} {F : FM} {H : MH} {s : Shared} {r : Res}, primOp q H [va] = some r → VR D a va → Rel c D O F H s → W c A (call gv [a]) (fun rv s' => W c A (call fv [rv]) (Fin c D O F H r) s') s) :
    SndE c A C K (.prim q [a]) (.Call (.Name (nm x) p') [.Call (.Name (nm y) p'') [e] [] p3] [] p) :=
  true_of_eval (fun env ρ D O F H s Q Z hF hK fs R w => by
    refine wpAny_Call_Name_kw (glo_name gl hF (by rw [hK]; exact hx) xb xv xn R ?_)
    show WE c A (callWith p fv [] [(false, eval (.Call (.Name (nm y) p'') [e] [] p3) env)] []) _ _ _
    refine callWith_fv xf rfl (Calls.spliced_cons ?_)
    refine wpAny_Call_Name_kw (glo_name gl hF (by rw [hK]; exact hy) yb yv yn R ?_)
    rw [okE.star ho]
    refine callWith_fv yf rfl (Calls.spliced_cons (eval1 ha.1 hF hK fs R w fun av s1 D1 va H1 k v1 R1 z => Calls.spliced_nil ?_))
    obtain ⟨r, e, f⟩ := z
    exact (hp e v1 R1).then fun rv s2 h2 => Calls.spliced_nil (h2.post f k)) fun _ _ => rfl
theorem snd_listRev (pf : PF c A) (gl : Gl c mg G) {a : X} {e : Expr} {p p' p'' q : Pos} (h1 : gloK K "list" = true) (h2 : gloK K "reversed" = true) (ho : okE e = true) (ha : SndE c A C K a e) :
    SndE c A C K (.prim .listRev [a]) (.Call (.Name (nm "list") p') [.Call (.Name (nm "reversed") p'') [e] [] q] [] p) :=
  call_call gl h1 h2 (by decide) (by decide) boot_list' boot_reversed (by decide +kernel) (by decide +kernel) (.inr ⟨_, rfl⟩) (.inr ⟨_, rfl⟩) ho ha pf.lrev
theorem snd_meth1 (pf : PF c A) {q : Prim} {x : String} {a b : X} {o e : Expr} {p p' : Pos} (hq : methN q = some x) (hl : (p'.endLine == p.line) = true) (oo : okE o = true) (oe : okE e = true) (ha : SndE c A C K a o) (hb : SndE c A C K b e) :
    SndE c A C K (.meth q a [b]) (.Call (.Attribute o (nm x) p') [e] [] p) :=
  true_of_eval (fun env ρ D O F H s Q Z hF hK fs R w => by
    refine Call_method1 (okE.base oo _ _ _) (okE.star oe _ _) hl ?_
    have w' : wpE C a ρ (fun ov H1 => (methT q H1 ov).isSome = true ∧ wpL C [b] ρ (fun vs H2 => ∃ r, primOp q H2 (ov :: vs) = some r ∧ fin Q H2 r) Z H1) Z H := w
    refine wpAny_mono (ha.1 env ρ D O F H s _ Z hF hK fs R w') (fun ov s1 p1 => ?_) fun _ _ e => e
    obtain ⟨D1, vo, H1, k1, v1, R1, q1, q2⟩ := p1
    obtain ⟨T, id, m1, m2, m3, m4, m5, m6⟩ := pf.meth hq q1 v1 R1
    refine ⟨T, id, m1, m2, m3, m4, m5, Calls.callWith_builtin rfl (Calls.evalArgs_plain (Calls.spliced_cons ?_))⟩
    refine wpAny_mono (eval1 hb.1 hF hK (fs.mono k1) R1 q2 (P := fun bv s2 => WE c A (call (.builtin id) (ov :: [bv])) (Post c D O F Q) (EX c D O F Z) s2) fun bv s2 D2 vb H2 k2 v2 R2 z => ?_) (fun _ _ h => Calls.spliced_nil h) fun _ _ e => e.mono k1
    obtain ⟨r, e, f⟩ := z
    exact (m6 k2 e (.cons v2 .nil) R2).post f (k1.trans k2)) fun _ _ => rfl
theorem snd_meth2 (pf : PF c A) {q : Prim} {x : String} {a b d : X} {o e e' : Expr} {p p' : Pos} (hq : methN q = some x) (hl : (p'.endLine == p.line) = true) (oo : okE o = true) (oe : okE e = true) (oe' : okE e' = true) (ha : SndE c A C K a o) (hb : SndE c A C K b e) (hd : SndE c A C K d e') :
    SndE c A C K (.meth q a [b, d]) (.Call (.Attribute o (nm x) p') [e, e'] [] p) :=
  true_of_eval (fun env ρ D O F H s Q Z hF hK fs R w => by
    refine Call_method2 (okE.base oo _ _ _) (by rw [okE.star oe, okE.star oe']; rfl) hl ?_
    have w' : wpE C a ρ (fun ov H1 => (methT q H1 ov).isSome = true ∧ wpL C [b, d] ρ (fun vs H2 => ∃ r, primOp q H2 (ov :: vs) = some r ∧ fin Q H2 r) Z H1) Z H := w
    refine wpAny_mono (ha.1 env ρ D O F H s _ Z hF hK fs R w') (fun ov s1 p1 => ?_) fun _ _ e => e
    obtain ⟨D1, vo, H1, k1, v1, R1, q1, q2⟩ := p1
    obtain ⟨T, id, m1, m2, m3, m4, m5, m6⟩ := pf.meth hq q1 v1 R1
    refine ⟨T, id, m1, m2, m3, m4, m5, Calls.callWith_builtin rfl (Calls.evalArgs_plain (Calls.spliced_cons ?_))⟩
    refine wpAny_mono (eval2 hb.1 hd.1 hF hK (fs.mono k1) R1 q2 (P := fun bv dv s2 => WE c A (call (.builtin id) (ov :: [bv, dv])) (Post c D O F Q) (EX c D O F Z) s2) fun bv dv s2 D2 vb vd H2 k2 v2 v3 R2 z => ?_)
      (fun _ _ h => Calls.spliced_cons (wpAny_mono h (fun _ _ h => Calls.spliced_nil h) fun _ _ e => e.mono k1)) fun _ _ e => e.mono k1
    obtain ⟨r, e, f⟩ := z
    exact (m6 k2 e (.cons v2 (.cons v3 .nil)) R2).post f (k1.trans k2)) fun _ _ => rfl
theorem snd_call (gl : Gl c mg G) (hc : CallOK c mg A C) {f : String} {xs : List X} {e : Expr} {es : List Expr} {p p' : Pos} (hf : G.contains f = true) (hg : gloK K f = true) (ho : okE e = true) (h : SplOK c A C K xs (e :: es)) :
    SndE c A C K (.call f xs) (.Call (.Name (nm f) p') (e :: es) [] p) :=
  true_of_eval (fun env ρ D O F H s Q Z hF hK fs R w => by
    obtain ⟨a, o, fd, f1, f2, f3⟩ := gl.fn f hf
    refine wpAny_Call_Name_kw (fn_name gl hF (by rw [hK]; exact hg) f1 R ?_)
    have h1 := h env ρ D O F H s _ Z p hF hK fs R w
    rw [okE.star ho] at h1 ⊢
    refine Calls.callWith_function (o := o) (fd := fd) (Calls.evalArgs_plain (wpAny_mono h1 (fun cs s1 p1 => ?_) fun _ _ e => e))
    obtain ⟨D1, vs, H1, k1, v1, R1, q1⟩ := p1
    refine ⟨⟨R1.dat _ _ (R1.base _ _ f2), f3⟩, ?_⟩
    exact wpAny_mono (hc f a D1 O F H1 s1 cs vs Q Z f1 q1 v1 R1) (fun _ _ p => p.mono k1) fun _ _ e => e.mono k1) fun _ _ => rfl
theorem snd_dict0 {p : Pos} : SndE c A C K (.prim .dict0 []) (.Dict [] [] p) :=
  true_of_eval (fun env ρ D O F H s Q Z hF hK fs R w => by
    obtain ⟨r, e, f⟩ := (w : ∃ r, primOp .dict0 H [] = some r ∧ fin Q H r)
    cases e
    refine wpAny_Dict_empty ?_
    obtain ⟨f1, f2, f3, f4⟩ := R.fresh
    refine ⟨D, .ref s.heap.objs.size, _, .refl D, .ref _, (R.grow (tk := s.toks) fun b o e => Heap.get?_push_of_some _ e).newH (Heap.get?_push_size _ rfl) f1 f2 f3 ?_ (R.freshLo (Nat.le_refl _)), f _ f4⟩
    exact orEmpty rfl) fun _ _ => rfl
end
end Mini

end
section
set_option autoImplicit false
set_option linter.unusedVariables false
set_option linter.unusedSectionVars false
set_option maxRecDepth 100000
namespace Mini
open PySem

theorem hupd_hupd (H : MH) (a : Addr) (o o' : Ob) : hupd (hupd H a o) a o' = hupd H a o' := by
  funext b; by_cases h : b = a <;> simp [hupd, h]
theorem hupd_same (H : MH) (a : Addr) (o : Ob) : hupd H a o a = some o := by simp [hupd]

section
variable {c : Cx} {A : Around} {D O : OM} {F : FM} {H : MH} {s : Shared}
theorem dictSet_snd {a b : Value} {d : Addr} {k v : V} {kvs : List (V × V)} (R : Rel c D O F H s) (M : AOK A) (ha : VR D a k) (hb : VR D b v) (e : H d = some (.dict kvs)) (ok : dOK kvs k = true) (hlt : kvs.length < lim) :
    W c A (dictSet d a b) (fun _ s' => Rel c D O F (hupd H d (.dict (dput kvs k v))) s') s := by
  obtain ⟨X, hl⟩ := R.dictAt e
  have hl' : (dput kvs k v).length ≤ lim := Nat.le_trans (dput_length kvs) hlt
  have hsz : ∀ {n : Nat}, n = kvs.length → n ≤ sizeLine := fun q => by rw [q, sizeLine_eq]; unfold lim at hl; (first | lia | omega)
  cases dictKey_of X ha ok with
  | str xs i h1 h2 h3 h4 =>
    subst h3
    refine wpAny_dictSet_pairs h4 h1 (fun h' hd hs => ?_) (hsz h2.1)
    obtain ⟨o, q1, q2⟩ := DictR.obj (c := c) (D := D) (h' := h') (d := d) hl' (.inr (.inl ⟨_, hd, KV.put str_inj hb (let ⟨_, _, _, _, _, _, _, _, n⟩ := h1; n) h2⟩))
    exact R.setH e hs q1 q2
  | tup xs is x h1 h2 h3 h4 h5 h6 =>
    subst h4 h5
    refine wpAny_dictSet_heap (knd := tupleKind (intKind c.prog c.w)) (by have := M.u; show A.units < cLine; (first | lia | omega)) (h6.key R) h1 (fun h' hd hs => ?_) (hsz (by have := h3.1; simpa [PyProof.Rows.kvsOf] using this))
    have hn : ((PyProof.Rows.kvsOf xs).map (·.1)).Nodup := by
      obtain ⟨_, _, _, _, _, _, _, _, n⟩ := h1
      simpa [PyProof.Rows.kvsOf, List.map_map, Function.comp_def] using n
    obtain ⟨o, q1, q2⟩ := DictR.obj (c := c) (D := D) (h' := h') (d := d) hl' (.inr (.inr ⟨_, hd, fun y hy => by
        rcases PyProof.Rows.mem_storedH hy with ⟨z, hz, e1, e2⟩ | ⟨e1, e2⟩
        · rw [e1, e2]; exact h2 z hz
        · rw [e1, e2]; exact h6, by rw [PyProof.Rows.kvsOf_storedH]; exact KV.put encT_inj hb hn h3⟩))
    exact R.setH e hs q1 q2
end

section
variable {c : Cx} {mg : Str → Option Value} {G : List String} {A : Around} {C : CallSem} {K : Kn}

theorem EX.sub {D O : OM} {F : FM} {Z : Z0} {e : Value} {s : Shared} {d : Addr} {o : Obj} (hO : O d = none) (h : EX c D (oput O d o) F Z e s) : EX c D O F Z e s := by
  obtain ⟨D', H', cls, k, R, x, z⟩ := h
  have ko : OLe O (oput O d o) := fun b y q => by rw [oput_ne]; exact q; rintro rfl; rw [hO] at q; cases q
  exact ⟨D', H', cls, k, R.subO ko, x.sub ko fun _ _ q => q, z⟩
theorem FS.newO {env : PySem.Env} {D O : OM} {F : FM} {ρ : Env} {d : Addr} {o : Obj} (fs : FS env D O F ρ) (hO : O d = none) : FS env D (oput O d o) F ρ := by
  have q : ∀ {a : Addr} {x : Obj}, O a = some x → oput O d o a = some x := fun {a x} e => by rw [oput_ne]; exact e; rintro rfl; rw [hO] at e; cases e
  exact ⟨fs.fr, fun x v h k => let ⟨a, o', cv, h1, h2, h3, h4⟩ := fs.ce x v h k; ⟨a, o', cv, h1, q h2, h3, h4⟩, fun x k => let ⟨a, o', cv, h1, h2, h3⟩ := fs.own x k; ⟨a, o', cv, h1, q h2, h3⟩, fun n a h => let ⟨x, e⟩ := fs.cel n a h; ⟨x, q e⟩⟩

end
end Mini

end
section
set_option autoImplicit false
set_option linter.unusedVariables false
set_option linter.unusedSectionVars false
set_option maxRecDepth 100000
namespace Mini
open PySem

theorem oput_comm {O : OM} {a b : Addr} {x y : Obj} (h : a ≠ b) : oput (oput O a x) b y = oput (oput O b y) a x := by
  funext d
  by_cases p : d = a
  · subst p; rw [oput_same, oput_ne h, oput_same]
  · by_cases q : d = b
    · subst q; rw [oput_same, oput_ne (Ne.symm h), oput_same]
    · rw [oput_ne q, oput_ne p, oput_ne p, oput_ne q]
theorem oput_oput {O : OM} {a : Addr} {x y : Obj} : oput (oput O a x) a y = oput O a y := by
  funext d
  by_cases p : d = a
  · subst p; rw [oput_same, oput_same]
  · rw [oput_ne p, oput_ne p, oput_ne p]

section
variable {c : Cx} {mg : Str → Option Value} {G : List String} {A : Around} {C : CallSem} {K : Kn} {D O : OM} {F : FM} {H : MH} {s : Shared} {env : PySem.Env} {ρ : Env}

theorem Rel.dropF {a : Addr} {m : Str → Option Value} {h' : Heap} {tk : Nat} (R : Rel c D O (fput F a m) H s) (hF : F a = none) (hO : O a = none) (hs : Heap.SameBut a s.heap h') (hfr : Frs c F) : Rel c D O F H { s with heap := h', toks := tk } := by
  obtain ⟨_, hD, hH⟩ := R.frm a m (fput_same ..)
  refine ⟨R.base, fun b x q => ?_, fun b x q => ?_, fun b x q => ?_, fun b x q => ?_, R.lo, R.gens, R.os, hfr⟩
  · have p : b ≠ a := fun p => by rw [p, hD] at q; cases q
    exact (hs.2 b p).trans (R.dat b x q)
  · have p : b ≠ a := fun p => by rw [p, hO] at q; cases q
    have y := R.oth b x q
    rw [fput_ne p] at y
    exact ⟨(hs.2 b p).trans y.1, y.2⟩
  · have p : b ≠ a := fun p => by rw [p, hF] at q; cases q
    obtain ⟨y, z⟩ := R.frm b x (by rw [fput_ne p]; exact q)
    exact ⟨y.sameBut hs p, z⟩
  · have p : b ≠ a := fun p => by rw [p, hH] at q; cases q
    obtain ⟨x1, o1, x2, x3⟩ := R.own b x q
    exact ⟨x1, o1, (hs.2 b p).trans x2, x3⟩

theorem src_len {sk : SK} {v : V} {cv : Value} {vs : List V} {w : Option (Addr × List V)} (h : srcItems sk H v = some (vs, w)) (hv : VR D cv v) (R : Rel c D O F H s) : vs.length ≤ lim := by
  cases sk <;> cases v <;> simp only [srcItems] at h <;> (try (cases h; done))
  case plain.tup us => cases h; obtain ⟨_, _, _, _, _, _, l⟩ := hv.tup_inv; exact l
  case plain.str x => cases h; have := hv.str_len; simp only [chars, List.length_map, Array.length_toList]; exact this
  case plain.ref a =>
    split at h
    · rename_i us e; cases h; obtain ⟨_, _, _, _, l⟩ := R.listAt e; exact l
    · cases h
  case range.int n =>
    split at h
    · rename_i q; cases h; simp at q ⊢; (first | lia | omega)
    · cases h
theorem src_snd (gl : Gl c mg G) (M : AOK A) {sk : SK} {a : X} {src it : Expr} {P : List V → Option (Addr × List V) → MH → Prop} {Z : Z0} (hs : SrcTr K sk src it) (ho : okE src = true) (ha : EvalOK c A C K a src) (hF : FOK env) (hK : env.scope.names = K) (fs : FS env D O F ρ) (R : Rel c D O F H s)
    (w : wpE C a ρ (fun sv H1 => ∃ vs w, srcItems sk H1 sv = some (vs, w) ∧ P vs w H1) Z H) :
    WE c A (eval it env) (fun xv s1 => WE c A (pyIter xv) (fun iv s2 => ∃ D2 H2 vs w, OLe D D2 ∧ P vs w H2 ∧ vs.length ≤ lim ∧ ItStart c A D2 O F H2 w vs iv s2) (EX c D O F Z) s1) (EX c D O F Z) s := by
  cases hs with
  | plain =>
    refine wpAny_mono (ha env ρ D O F H s _ Z hF hK fs R w) (fun xv s1 p1 => ?_) fun _ _ e => e
    obtain ⟨D1, sv, H1, k, hv, R1, vs, w, e, p⟩ := p1
    exact (iter_plain M.h R1 hv e).then fun iv s2 h2 => ⟨D1, H1, vs, w, k, p, src_len e hv R1, h2⟩
  | range hg =>
    refine wpAny_Call_Name_kw (glo_name gl hF (by rw [hK]; exact hg) (by decide) boot_range' (by decide +kernel) R ?_)
    rw [okE.star ho]
    refine callWith_fv (.inr ⟨_, rfl⟩) rfl (Calls.spliced_cons (wpAny_mono (ha env ρ D O F H s _ Z hF hK fs R w) (fun xv s1 p1 => Calls.spliced_nil ?_) fun _ _ e => e))
    obtain ⟨D1, sv, H1, k, hv, R1, vs, w, e, p⟩ := p1
    exact (iter_range M.h R1 hv e).then fun rv s2 h2 => h2.then fun iv s3 h3 => ⟨D1, H1, vs, w, k, p, src_len e hv R1, h3⟩

theorem own_tuple_go {te : Expr} {I : Addr} {cv : Value} {Q : Unit → Shared → Prop} {E : Value → Shared → Prop} {o : Obj} (ho : s.heap.get? I = some o) (k : okIter o = true) (h : Q () s) : WE c A (letOwnedTupleGo te (.ref I) cv) Q E s := by
  have main : WE c A (match ((.ref I : Value), cv) with
    | (.ref r, .ref a) => (do
      let o ← load r
      match o.cls, o.data with
      | .type n, .fields vs =>
        if ["enumerate", "zip", "dict_itemiterator", "dict_reverseitemiterator", "odict_iterator", "itertools.zip_longest", "itertools.pairwise"].contains n && vs[0]? == some (rawInt a) then
          rule "for.unpacks-the-owned-tuple"
          updateField r 0 .none
      | _, _ => pure () : Sem Unit)
    | _ => pure ()) Q E s := by
    cases cv <;> (try exact wpAny_pure h)
    refine wpAny_bind (wpAny_load ho ?_)
    unfold okIter at k
    split at k
    · rename_i n hn
      rw [hn]
      cases o.data <;> (try exact wpAny_pure h)
      have k' : (["enumerate", "zip", "dict_itemiterator", "dict_reverseitemiterator", "odict_iterator", "itertools.zip_longest", "itertools.pairwise"].contains n) = false := by simpa using k
      simp only [k', Bool.false_and, Bool.false_eq_true, if_false]
      exact wpAny_pure h
    · rename_i hn
      cases hc : o.cls <;> first
        | exact absurd hc (hn _)
        | (cases o.data <;> exact wpAny_pure h)
  cases te <;> first | exact wpAny_pure h | exact main

theorem store_all {E : Value → Shared → Prop} {Q : Unit → Shared → Prop} (hF : FOK env) : ∀ (xs : List String) (es : List Expr) (vs : List V) (cs : List Value) (ρ ρ1 : Env) (O : OM) (F : FM) (s : Shared),
    TgtNames env.scope.names xs es → (∀ x ∈ xs, env.kindOf (nm x) = some .cell → env.cells.Pairwise fun x y => x.2 ≠ y.2) → bindAll xs vs ρ = some ρ1 → VRs D cs vs → FS env D O F ρ → Rel c D O F H s →
    (∀ O' F' s', Out env O F O' F' → ((∀ x ∈ xs, env.kindOf (nm x) = some .local) → O' = O) → FS env D O' F' ρ1 → Rel c D O' F' H s' → Q () s') → WE c A (assignInOrder ((assignEach es env).map (·.2)) cs) Q E s
  | [], [], [], cs, ρ, ρ1, O, F, s, t, ap, b, v, fs, R, h => by
    cases b
    obtain rfl := v.nil_inv
    exact wpAny_pure (h O F s (.refl ..) (fun _ => rfl) fs R)
  | x :: xs, e :: es, v :: vs, cs, ρ, ρ1, O, F, s, t, ap, b, hv, fs, R, h => by
    obtain ⟨cv, ds, rfl, h1, h2⟩ := hv.cons_inv
    cases t with
    | cons hk t =>
      have hk' : env.kindOf (nm x) = some .local ∨ env.kindOf (nm x) = some .cell := by
        revert hk
        show stoK (env.kindOf (nm x)) = true → _
        cases env.kindOf (nm x) with
        | none => intro h; cases h
        | some k => cases k <;> intro h <;> first | exact .inl rfl | exact .inr rfl | cases h
      refine wpAny_bind (wpAny_holding (wpAny_assign_Name (store_snd hF fs R h1 hk' (ap x (.head _)) fun O' F' s' o1 o2 fs' R' => ?_)))
      exact store_all hF xs es vs ds (upd ρ x v) ρ1 O' F' s' t (fun y hy => ap y (.tail _ hy)) b h2 fs' R' fun O'' F'' s'' q1 q2 q3 q4 => h O'' F'' s'' (o1.trans q1) (fun z => (q2 fun y hy => z y (.tail _ hy)).trans (o2 (z x (.head _)))) q3 q4
  | [], _ :: _, _, _, _, _, _, _, _, t, _, _, _, _, _, _ => by cases t
  | _ :: _, [], _, _, _, _, _, _, _, t, _, _, _, _, _, _ => by cases t
  | _ :: _, _, [], _, _, _, _, _, _, _, _, b, _, _, _, _ => by cases b
  | [], _, _ :: _, _, _, _, _, _, _, _, _, b, _, _, _, _ => by cases b

theorem star_none {xs : List String} {es : List Expr} (h : TgtNames K xs es) (env : PySem.Env) : (assignEach es env).length = xs.length ∧ (assignEach es env).findIdx? (·.1) = none := by
  induction h with
  | nil => exact ⟨rfl, rfl⟩
  | cons _ _ ih =>
    refine ⟨by show (_ :: assignEach _ env).length = _; simp [ih.1], ?_⟩
    show ((false, _) :: assignEach _ env).findIdx? (·.1) = none
    rw [List.findIdx?_cons]; simp [ih.2]
theorem bindAll_len : ∀ (xs : List String) (vs : List V) (ρ ρ1 : Env), bindAll xs vs ρ = some ρ1 → xs.length = vs.length
  | [], [], _, _, _ => rfl
  | _ :: xs, _ :: vs, _, _, h => by simp [bindAll_len xs vs _ _ h]
  | [], _ :: _, _, _, h => by cases h
  | _ :: _, [], _, _, h => by cases h

theorem tgt_snd {te : Expr} {tgt : List String} {isT : Bool} {v : V} {cv : Value} {ρ1 : Env} {Q : Unit → Shared → Prop} {E : Value → Shared → Prop} (M : AOK A) (hF : FOK env) (hK : env.scope.names = K) (ap : ∀ x ∈ tgt, env.kindOf (nm x) = some .cell → env.cells.Pairwise fun x y => x.2 ≠ y.2) (t : TgtTr K tgt isT te)
    (b : bindT isT tgt v ρ = some ρ1) (hv : VR D cv v) (fs : FS env D O F ρ) (R : Rel c D O F H s)
    (h : ∀ O' F' s', Out env O F O' F' → ((∀ x ∈ tgt, env.kindOf (nm x) = some .local) → O' = O) → FS env D O' F' ρ1 → Rel c D O' F' H s' → Q () s') : WE c A (assign te env cv) Q E s := by
  subst hK
  cases t with
  | one hk =>
    rename_i x p
    cases b
    have hk' : env.kindOf (nm x) = some .local ∨ env.kindOf (nm x) = some .cell := by
      revert hk
      show stoK (env.kindOf (nm x)) = true → _
      cases env.kindOf (nm x) with
      | none => intro h; cases h
      | some k => cases k <;> intro h <;> first | exact .inl rfl | exact .inr rfl | cases h
    exact wpAny_assign_Name (store_snd hF fs R hv hk' (ap x (.head _)) fun O' F' s' o1 o2 fs' R' => h O' F' s' o1 (fun z => o2 (z x (.head _))) fs' R')
  | tup t =>
    cases v <;> (try (cases b; done))
    case tup vs =>
      have b' : bindAll tgt vs ρ = some ρ1 := b
      obtain ⟨a, cs, n, rfl, e, v1, hl⟩ := hv.tup_inv
      obtain ⟨l1, l2⟩ := star_none t env
      refine wpAny_assign_Tuple M.h (t := a) (items := cs.toArray) ⟨_, R.dat _ _ e, rfl, n, rfl⟩ (by rw [l1, bindAll_len _ _ _ _ b', List.size_toArray]; exact v1.1.symm) l2 fun h' he => ?_
      have R1 : Rel c D O F H { s with heap := h' } := R.grow (tk := s.toks) fun b o e => he b o (Nat.ne_of_lt (Heap.lt_size e)) e
      exact store_all hF _ _ vs cs ρ ρ1 O F _ t ap b' v1 fs R1 h
end
end Mini

end
section
set_option autoImplicit false
set_option linter.unusedVariables false
set_option linter.unusedSectionVars false
set_option maxRecDepth 100000
namespace Mini
open PySem

noncomputable def clFrom (env : PySem.Env) : Kn → List (Str × Addr) → List (Str × Addr)
  | [], acc => acc
  | y :: r, acc => clFrom env r (if y.2 == .free then (y.1, (env.cells.lookup y.1).getD 0) :: acc else acc)
theorem clos_ok (env : PySem.Env) (f : Str × NameKind → List (Str × Addr) → Sem (ForInStep (List (Str × Addr)))) (hf : ∀ n k acc, f (n, k) acc = if k == .free then (do let a ← cellOf env n; pure (.yield ((n, a) :: acc))) else pure (.yield acc)) :
    ∀ (names : Kn) (acc : List (Str × Addr)), (∀ y ∈ names, y.2 = .free → ∃ a, env.cells.lookup y.1 = some a) → forIn names acc f = (pure (clFrom env names acc) : Sem _)
  | [], acc, _ => by rw [List.forIn_nil]; rfl
  | (n, k) :: r, acc, h => by
    rw [List.forIn_cons, hf]
    have ih := fun acc => clos_ok env f hf r acc fun y hy => h y (.tail _ hy)
    by_cases hk : (k == .free) = true
    · obtain ⟨a, ha⟩ := h (n, k) (.head _) (by simpa using hk)
      have ha' : env.cells.lookup n = some a := ha
      rw [if_pos hk]
      unfold cellOf
      rw [ha']
      simp only [pure_bind]
      rw [ih]
      simp [clFrom, hk, ha']
    · rw [if_neg hk]
      simp only [pure_bind]
      rw [ih]
      simp [clFrom, hk]
theorem closureFor_ok {env : PySem.Env} {sc : Scope} (h : ∀ y ∈ sc.names, y.2 = .free → ∃ a, env.cells.lookup y.1 = some a) : closureFor sc env = pure (clFrom env sc.names []) := by
  unfold closureFor
  dsimp only
  rw [clos_ok env _ (fun n k acc => by cases hk : k == NameKind.free <;> simp [hk]) sc.names [] h]
  rfl
theorem clFrom_mem (env : PySem.Env) : ∀ (names : Kn) (acc : List (Str × Addr)), (∀ y ∈ names, y.2 = .free → ∃ a, env.cells.lookup y.1 = some a) → (∀ z ∈ acc, env.cells.lookup z.1 = some z.2) →
    (∀ z ∈ clFrom env names acc, env.cells.lookup z.1 = some z.2) ∧ (∀ z ∈ acc, z ∈ clFrom env names acc) ∧ (∀ y ∈ names, y.2 = .free → ∃ a, (y.1, a) ∈ clFrom env names acc)
  | [], acc, _, h => ⟨h, fun _ hz => hz, fun _ hy => nomatch hy⟩
  | y :: r, acc, hn, h => by
    unfold clFrom
    by_cases hk : (y.2 == .free) = true
    · obtain ⟨a, ha⟩ := hn y (.head _) (by simpa using hk)
      rw [if_pos hk, ha]
      obtain ⟨i1, i2, i3⟩ := clFrom_mem env r ((y.1, a) :: acc) (fun z hz => hn z (.tail _ hz)) (fun z hz => by
        rcases List.mem_cons.mp hz with rfl | hz
        · exact ha
        · exact h z hz)
      refine ⟨i1, fun z hz => i2 z (.tail _ hz), fun z hz e => ?_⟩
      rcases List.mem_cons.mp hz with rfl | hz
      · exact ⟨a, i2 _ (.head _)⟩
      · exact i3 z hz e
    · rw [if_neg hk]
      obtain ⟨i1, i2, i3⟩ := clFrom_mem env r acc (fun z hz => hn z (.tail _ hz)) h
      refine ⟨i1, i2, fun z hz e => ?_⟩
      rcases List.mem_cons.mp hz with rfl | hz
      · exact absurd (by simp [e]) hk
      · exact i3 z hz e
theorem lookup_some_of_mem {α : Type} : ∀ {l : List (Str × α)} {n : Str} {a : α}, (n, a) ∈ l → ∃ b, l.lookup n = some b
  | (k, v) :: r, n, a, h => by
    rw [List.lookup_cons]
    cases hb : n == k with
    | true => exact ⟨v, rfl⟩
    | false =>
      rcases List.mem_cons.mp h with e | h
      · cases e; simp at hb
      · exact lookup_some_of_mem h
theorem clFrom_lookup {env : PySem.Env} {names : Kn} {n : Str} (hn : ∀ y ∈ names, y.2 = .free → ∃ a, env.cells.lookup y.1 = some a) (h : (n, NameKind.free) ∈ names) : (clFrom env names []).lookup n = env.cells.lookup n := by
  obtain ⟨i1, _, i3⟩ := clFrom_mem env names [] hn (fun _ hz => nomatch hz)
  obtain ⟨a, ha⟩ := i3 _ h rfl
  obtain ⟨b, hb⟩ := lookup_some_of_mem ha
  rw [hb, i1 _ (mem_of_lookup hb)]

theorem lookup_relabelK (K : Kn) (n : Str) : ∀ (names : Kn), (relabelK K names).lookup n = (names.lookup n).map fun k => if (k == .free && K.lookup n == some .cell) then .cell else k
  | [] => rfl
  | (m, k) :: r => by
    have ih := lookup_relabelK K n r
    show List.lookup n ((if (k == .free && K.lookup m == some .cell) then (m, .cell) else (m, k)) :: relabelK K r) = _
    rw [List.lookup_cons]
    cases hb : n == m with
    | true =>
      have e : n = m := by simpa using hb
      subst e
      by_cases hc : (k == .free && K.lookup n == some .cell) = true
      · rw [if_pos hc, List.lookup_cons, hb]; show _ = some (if _ then _ else _); rw [if_pos hc]
      · rw [if_neg hc, List.lookup_cons, hb]; show _ = some (if _ then _ else _); rw [if_neg hc]
    | false =>
      by_cases hc : (k == .free && K.lookup m == some .cell) = true
      · rw [if_pos hc, List.lookup_cons, hb]; exact ih
      · rw [if_neg hc, List.lookup_cons, hb]; exact ih

structure ScOK (K : Kn) (sc : Scope) : Prop where
  kind : sc.kind = .function
  nocell : ∀ y ∈ sc.names, y.2 ≠ .cell
  loc : ∀ y ∈ sc.names, y.2 = .local → sc.names.lookup y.1 = some .local
  free : ∀ y ∈ sc.names, y.2 = .free → K.lookup y.1 = some .cell ∨ K.lookup y.1 = some .free
theorem scOK.prop {K : Kn} {sc : Scope} (h : scOK K sc = true) : ScOK K sc := by
  unfold scOK at h
  rw [Bool.and_eq_true, List.all_eq_true] at h
  obtain ⟨h1, h2⟩ := h
  refine ⟨by simpa using h1, fun y hy e => ?_, fun y hy e => ?_, fun y hy e => ?_⟩
  · have := h2 y hy; simp [e] at this
  · have := h2 y hy; simpa [e] using this
  · have := h2 y hy; simp [e] at this; exact this.1

section
variable {c : Cx} {A : Around} {K : Kn} {D O : OM} {F : FM} {H : MH} {env : PySem.Env} {ρ : Env} {sc : Scope} {L : Addr}

noncomputable abbrev cEnv (sc : Scope) (L : Addr) (env : PySem.Env) : PySem.Env := compEnvC sc (clFrom env sc.names []) L env
theorem relabel_names (hF : FOK env) (hK : env.scope.names = K) : (relabel sc env).names = relabelK K sc.names := by
  subst hK
  unfold relabel relabelK
  refine List.map_congr_left fun y _ => ?_
  simp [hF.kind, PySem.Env.kindOf]
theorem cEnv_names (hF : FOK env) (hK : env.scope.names = K) : (cEnv sc L env).scope.names = relabelK K sc.names := relabel_names hF hK
theorem cEnv_kind (hF : FOK env) (hK : env.scope.names = K) (n : Str) : (cEnv sc L env).kindOf n = (relabelK K sc.names).lookup n := by
  show (relabel sc env).names.lookup n = _
  rw [relabel_names hF hK]
theorem cEnv_FOK (hF : FOK env) (hs : ScOK K sc) : FOK (cEnv sc L env) := ⟨hs.kind, hF.globals, hF.builtins⟩

theorem frees {sc : Scope} (hs : ScOK K sc) (hK : env.scope.names = K) (fs : FS env D O F ρ) : ∀ y ∈ sc.names, y.2 = .free → ∃ a, env.cells.lookup y.1 = some a := fun y hy e => by
  have := hs.free y hy e
  rw [← hK] at this
  obtain ⟨a, o, cv, h1, _⟩ := fs.own y.1 this
  exact ⟨a, h1⟩
theorem kind_free (hs : ScOK K sc) {n : Str} (h : (relabelK K sc.names).lookup n = some .cell ∨ (relabelK K sc.names).lookup n = some .free) : (n, NameKind.free) ∈ sc.names := by
  rw [lookup_relabelK] at h
  cases hl : sc.names.lookup n with
  | none => rw [hl] at h; rcases h with h | h <;> cases h
  | some k =>
    have hm := mem_of_lookup hl
    cases k <;> rw [hl] at h <;> first
      | exact hm
      | exact absurd rfl (hs.nocell _ hm)
      | (rcases h with h | h <;> simp at h)

noncomputable def maskE (K' : Kn) (ρ : Env) : Env := fun x => if K'.lookup (nm x) = some .local then none else ρ x
theorem mask_fs {O' : OM} {F' : FM} {m : Str → Option Value} (hF : FOK env) (hK : env.scope.names = K) (hs : ScOK K sc) (fs : FS env D O F ρ) (ho : OLe O O') (hm : F' L = some m) : FS (cEnv sc L env) D O' F' (maskE (relabelK K sc.names) ρ) := by
  have fr := frees hs hK fs
  refine ⟨⟨m, hm, fun x v h1 h2 _ => ?_⟩, fun x v h1 h2 => ?_, fun n h2 => ?_, fun n a hn => ?_⟩
  · rw [cEnv_kind hF hK] at h2
    simp [maskE, h2] at h1
  · rw [cEnv_kind hF hK] at h2
    have hf := kind_free hs h2
    have h1' : ρ x = some v := by
      unfold maskE at h1
      split at h1
      · cases h1
      · exact h1
    have hk := hs.free _ hf rfl
    rw [← hK] at hk
    obtain ⟨a, o, cv, q1, q2, q3, q4⟩ := fs.ce x v h1' hk
    refine ⟨a, o, cv, ?_, ho _ _ q2, q3, q4⟩
    show (clFrom env sc.names []).lookup (nm x) = _
    rw [clFrom_lookup fr hf]; exact q1
  · rw [cEnv_kind hF hK] at h2
    have hf := kind_free hs h2
    have hk := hs.free _ hf rfl
    rw [← hK] at hk
    obtain ⟨a, o, cv, q1, q2, q3⟩ := fs.own n hk
    refine ⟨a, o, cv, ?_, ho _ _ q2, q3⟩
    show (clFrom env sc.names []).lookup n = _
    rw [clFrom_lookup fr hf]; exact q1
  · have := (clFrom_mem env sc.names [] fr fun _ hz => nomatch hz).1 _ (mem_of_lookup hn)
    obtain ⟨o, ho'⟩ := fs.cel n a this
    exact ⟨o, ho _ _ ho'⟩

theorem bindAll_mask : ∀ (xs : List String) (vs : List V) (ρ ρc ρ1 : Env), bindAll xs vs ρ = some ρ1 → ∃ ρ1c, bindAll xs vs ρc = some ρ1c ∧ (∀ y, (y ∈ xs → ρ1c y = ρ1 y) ∧ (y ∉ xs → ρ1 y = ρ y ∧ ρ1c y = ρc y)) ∧ ∀ y, ρ y = ρc y → ρ1 y = ρ1c y
  | [], [], ρ, ρc, ρ1, h => by cases h; exact ⟨ρc, rfl, fun y => ⟨fun h => (List.not_mem_nil h).elim, fun _ => ⟨rfl, rfl⟩⟩, fun _ e => e⟩
  | x :: xs, v :: vs, ρ, ρc, ρ1, h => by
    obtain ⟨ρ1c, h1, h2, h3⟩ := bindAll_mask xs vs (upd ρ x v) (upd ρc x v) ρ1 h
    refine ⟨ρ1c, h1, fun y => ⟨fun hy => ?_, fun hy => ?_⟩, fun y e => h3 y ?_⟩
    · rcases List.mem_cons.mp hy with rfl | hy
      · exact (h3 y (by simp [upd])).symm
      · exact (h2 y).1 hy
    · have q := (h2 y).2 fun z => hy (.tail _ z)
      have ne : y ≠ x := fun z => hy (z ▸ .head _)
      simpa [upd, ne] using q
    · by_cases ne : y = x <;> simp [upd, ne, e]
  | [], _ :: _, _, _, _, h => by cases h
  | _ :: _, [], _, _, _, h => by cases h
theorem bindT_mask {isT : Bool} {tgt : List String} {v : V} {ρ ρc ρ1 : Env} (h : bindT isT tgt v ρ = some ρ1) : ∃ ρ1c, bindT isT tgt v ρc = some ρ1c ∧ (∀ y, (y ∈ tgt → ρ1c y = ρ1 y) ∧ (y ∉ tgt → ρ1 y = ρ y ∧ ρ1c y = ρc y)) := by
  unfold bindT at h ⊢
  cases isT with
  | false =>
    cases tgt with
    | nil => cases h
    | cons x r =>
      cases r with
      | cons _ _ => cases h
      | nil =>
        cases h
        refine ⟨_, rfl, fun y => ⟨fun hy => ?_, fun hy => ?_⟩⟩
        · have e : y = x := by simpa using hy
          simp [upd, e]
        · have e : y ≠ x := by simpa using hy
          simp [upd, e]
  | true =>
    cases v <;> (try (cases h; done))
    obtain ⟨ρ1c, h1, h2, _⟩ := bindAll_mask tgt _ ρ ρc ρ1 h
    exact ⟨ρ1c, h1, h2⟩
theorem unmask_fs {O' : OM} {F' : FM} {tgt : List String} {ρ1 ρ1c : Env} (hF : FOK env) (hK : env.scope.names = K) (ht : scTgt (relabelK K sc.names) tgt = true) (fs : FS (cEnv sc L env) D O' F' ρ1c)
    (h : ∀ y, (y ∈ tgt → ρ1c y = ρ1 y) ∧ (y ∉ tgt → ρ1 y = ρ y ∧ ρ1c y = maskE (relabelK K sc.names) ρ y)) : FS (cEnv sc L env) D O' F' ρ1 := by
  unfold scTgt at ht
  rw [Bool.and_eq_true, List.all_eq_true, List.all_eq_true] at ht
  obtain ⟨t1, t2⟩ := ht
  obtain ⟨m, hm, hfr⟩ := fs.fr
  refine ⟨⟨m, hm, fun x v h1 h2 h0 => ?_⟩, fun x v h1 h2 => ?_, fs.own, fs.cel⟩
  · rw [cEnv_kind hF hK] at h2
    have := t2 _ (mem_of_lookup h2)
    simp only [bne_self_eq_false, Bool.false_or, Bool.or_eq_true, beq_iff_eq, List.any_eq_true] at this
    have hx : x ∈ tgt := by
      rcases this with e | ⟨y, hy, e⟩
      · exact absurd (nm_inj e) h0
      · rw [← nm_inj e]; exact hy
    exact hfr x v (((h x).1 hx).trans h1) (by rw [cEnv_kind hF hK]; exact h2) h0
  · have h2' := h2
    rw [cEnv_kind hF hK] at h2'
    have hx : x ∉ tgt := fun hx => by
      have := t1 x hx
      have e : (relabelK K sc.names).lookup (nm x) = some .local := by simpa using this
      rw [e] at h2'; rcases h2' with z | z <;> cases z
    obtain ⟨e1, e2⟩ := (h x).2 hx
    refine fs.ce x v ?_ h2
    rw [e2]
    unfold maskE
    rw [if_neg, ← e1]; exact h1
    intro e; rw [e] at h2'; rcases h2' with z | z <;> cases z
end
end Mini

end
section
set_option autoImplicit false
set_option linter.unusedVariables false
set_option linter.unusedSectionVars false
set_option maxRecDepth 100000
namespace Mini
open PySem

section
variable {c : Cx} {mg : Str → Option Value} {G : List String} {A : Around} {C : CallSem} {K : Kn} {D O : OM} {F : FM} {H : MH} {s : Shared} {env : PySem.Env} {ρ : Env}

abbrev ifsF (cenv : PySem.Env) (e : Expr) (r : Bool) : Sem (ForInStep Bool) := if r = true then do let ok ← isTrue e cenv (eval e cenv); pure (ForInStep.yield ok) else pure (ForInStep.yield r)

theorem comp_loop {elt target iter : Expr} {ifs : List Expr} {scope : Scope} {pos : Pos} {it acc : Value} {cenv : PySem.Env} {R : Result → Shared → Prop} (I : Nat → Shared → Prop)
    (turn : ∀ n s, I n s → W c A (pyNext it) (fun r s₁ => match r with
      | none => R (.ok .next) s₁
      | some v => W c A (letOwnedTupleGo target it v) (fun _ s₁' => W c A (assign target cenv v) (fun _ s₂ =>
          W c A (forIn ifs true (ifsF cenv)) (fun ok s₃ =>
            if ok = true then W c A (eval elt cenv) (fun x s₄ => W c A (call (.builtin "list.append") [acc, x]) (fun _ s₅ => ∃ m, m < n ∧ I m s₅) s₄) s₃
            else ∃ m, m < n ∧ I m s₃) s₂) s₁') s₁) s)
    (n : Nat) (h : I n s) : codeAny (model c.prog c.w) A (.compLoop (.ListComp elt [⟨target, iter, ifs, 0⟩] scope pos) 0 it acc cenv) R s := by
  refine codeAny_loop rfl I (fun n s hI => ?_) n h
  show wpAny _ A ((compTurn (.ListComp elt [⟨target, iter, ifs, 0⟩] scope pos) 0 it acc cenv).onRaise (fun x => do noteFrame x cenv; theTreesLotGoes x)) _ _ s
  refine wpAny_noted ?_
  rw [compTurn_list]
  refine wpAny_bind (wpAny_standAt (wpAny_bind (wpAny_mono (turn n s hI) (fun r s₁ h₁ => ?_) fun _ _ h' => h'.elim)))
  cases r with
  | none => exact wpAny_pure h₁
  | some v =>
    refine wpAny_bind (wpAny_mono h₁ (fun _ s₁' h₁' => ?_) fun _ _ h' => h'.elim)
    refine wpAny_bind (wpAny_mono h₁' (fun _ s₂ h₂ => wpAny_bind (wpAny_mono h₂ (fun ok s₃ h₃ => ?_) fun _ _ h' => h'.elim)) fun _ _ h' => h'.elim)
    cases ok with
    | false => exact wpAny_pure ⟨rfl, h₃⟩
    | true =>
      exact wpAny_bind (wpAny_bind (wpAny_mono h₃ (fun x s₄ h₄ => wpAny_bind (wpAny_mono h₄ (fun _ s₅ h₅ => wpAny_pure (wpAny_pure ⟨rfl, h₅⟩)) fun _ _ h' => h'.elim)) fun _ _ h' => h'.elim))

noncomputable def BodyOK (c : Cx) (A : Around) (cenv : PySem.Env) (ifs : List Expr) (elt : Expr) (st : Env → List V → (List V → MH → Prop) → MH → Prop) : Prop :=
  ∀ (ρ1 : Env) (acc : List V) (k : List V → MH → Prop) (D O : OM) (F : FM) (H : MH) (s : Shared), FS cenv D O F ρ1 → Rel c D O F H s → st ρ1 acc k H →
    W c A (forIn ifs true (ifsF cenv)) (fun ok s3 => if ok = true then W c A (eval elt cenv) (fun x s4 => ∃ D4 ev H4, OLe D D4 ∧ VR D4 x ev ∧ Rel c D4 O F H4 s4 ∧ k (acc ++ [ev]) H4) s3
      else ∃ D3 H3, OLe D D3 ∧ Rel c D3 O F H3 s3 ∧ k acc H3) s

theorem iterC_drop {w : MH → Prop} {st : V → List V → (List V → MH → Prop) → MH → Prop} {vs acc : List V} {i : Nat} {K : List V → MH → Prop} {H : MH} (h : iterC w st (vs.drop i) acc K H) (hi : i < vs.length) : w H ∧ st vs[i] acc (fun acc' H' => iterC w st (vs.drop (i + 1)) acc' K H') H := by
  rw [List.drop_eq_getElem_cons hi] at h
  exact h

noncomputable def CInv (c : Cx) (A : Around) (D O : OM) (F : FM) (ρ : Env) (tgt : List String) (isT : Bool) (st : Env → List V → (List V → MH → Prop) → MH → Prop) (Q : V → MH → Prop) (w : Option (Addr × List V)) (vs : List V) (I L acc : Addr) (j : Nat) (s : Shared) : Prop :=
  ∃ D' H' oI cs n m us i, j = vs.length + 1 - i ∧ i ≤ vs.length ∧ OLe D D' ∧ Rel c D' (oput (oput O acc (listObj cs n)) I oI) (fput F L m) H' s ∧ It c A D' I w vs i s.heap ∧ VRs D' cs us ∧ us.length ≤ i ∧ vs.length ≤ lim ∧
    iterC (watch w) (fun v acc k H2 => ∃ ρ1, bindT isT tgt v ρ = some ρ1 ∧ st ρ1 acc k H2) (vs.drop i) us (doneC Q) H'

theorem It.stay {I : Addr} {w : Option (Addr × List V)} {vs : List V} {i : Nat} {D' O' O'' : OM} {F' F'' : FM} {H' H'' : MH} {s' s'' : Shared} {o : Obj} (x : It c A D I w vs i s'.heap) (R : Rel c D (oput O' I o) F' H' s') (R' : Rel c D' (oput O'' I o) F'' H'' s'') (k : OLe D D') : It c A D' I w vs i s''.heap :=
  (x.keep fun b o' hb e => by
    rcases hb with rfl | ⟨y, hy⟩
    · have e1 := (R.oth _ _ (oput_same ..)).1
      rw [e1] at e; cases e
      exact (R'.oth _ _ (oput_same ..)).1
    · have e1 := R.dat _ _ hy
      rw [e1] at e; cases e
      exact R'.dat _ _ (k _ _ hy)).monoD k

theorem comp_turns (M : AOK A) {te it elt : Expr} {ifs : List Expr} {sc : Scope} {p : Pos} {tgt : List String} {isT : Bool} {st : Env → List V → (List V → MH → Prop) → MH → Prop} {Q : V → MH → Prop} {w : Option (Addr × List V)} {vs : List V} {I L acc : Addr} {R : Result → Shared → Prop}
    (hF : FOK env) (hK : env.scope.names = K) (hs : ScOK K sc) (tt : TgtTr (relabelK K sc.names) tgt isT te) (ht : scTgt (relabelK K sc.names) tgt = true) (fs : FS env D O F ρ)
    (hb : BodyOK c A (cEnv sc L env) ifs elt st)
    (hOI : O I = none) (hOa : O acc = none) (hFL : F L = none) (hIa : I ≠ acc)
    (hR : ∀ D' H' (us : List V) cs n m s', OLe D D' → Rel c D' (oput O acc (listObj cs n)) (fput F L m) H' s' → VRs D' cs us → doneC Q us H' → R (.ok .next) s')
    (j : Nat) (s : Shared) (h0 : CInv c A D O F ρ tgt isT st Q w vs I L acc j s) :
      codeAny (model c.prog c.w) A (.compLoop (.ListComp elt [⟨te, it, ifs, 0⟩] sc p) 0 (.ref I) (.ref acc) (cEnv sc L env)) R s := by
  refine comp_loop (CInv c A D O F ρ tgt isT st Q w vs I L acc) ?_ j h0
  rintro n s' ⟨D', H', oI, cs, na, m, us, i, rfl, hi, hD, R1, x, v1, hl, hvl, itc⟩
  by_cases hlt : i < vs.length
  · obtain ⟨hw, ρ1, hb1, hst⟩ := iterC_drop itc hlt
    refine it_next R1 x hw hlt fun cv s1 o1 v2 R2 x2 => ?_
    obtain ⟨oi, ho1, ho2⟩ := x2.okIter
    refine own_tuple_go ho1 ho2 ?_
    obtain ⟨ρ1c, hb2, hm⟩ := bindT_mask (ρc := maskE (relabelK K sc.names) ρ) hb1
    have hle : OLe O (oput (oput O acc (listObj cs na)) I o1) := fun b y q => by
      have h1 : b ≠ I := fun e => by rw [e, hOI] at q; cases q
      have h2 : b ≠ acc := fun e => by rw [e, hOa] at q; cases q
      rw [oput_ne h1, oput_ne h2]; exact q
    have fsc := mask_fs (L := L) (F' := fput F L m) hF hK hs (fs.mono hD) hle (fput_same ..)
    have hloc : ∀ x ∈ tgt, (cEnv sc L env).kindOf (nm x) = some .local := fun x hx => by
      rw [cEnv_kind hF hK]
      unfold scTgt at ht
      rw [Bool.and_eq_true, List.all_eq_true] at ht
      simpa using ht.1 x hx
    refine tgt_snd M (cEnv_FOK hF hs) (cEnv_names hF hK) (fun y hy e => by rw [hloc y hy] at e; cases e) tt hb2 v2 fsc R2 fun O' F' s2 out ho fs2 R3 => ?_
    have hO' := ho hloc
    subst hO'
    have hF' : ∃ m', F' = fput F L m' := by
      obtain ⟨m', hm', _⟩ := fs2.fr
      refine ⟨m', funext fun a => ?_⟩
      by_cases e : a = L
      · subst e; rw [fput_same]; exact hm'
      · rw [fput_ne e, out.f a e, fput_ne e]
    obtain ⟨m', rfl⟩ := hF'
    have fs3 := unmask_fs hF hK ht fs2 hm
    refine wpAny_mono (hb ρ1 us _ D' _ _ H' s2 fs3 R3 hst) (fun ok s3 h3 => ?_) fun _ _ f => f
    cases ok with
    | false =>
      obtain ⟨D3, H3, k3, R4, q3⟩ := (h3 : ∃ D3 H3, OLe D' D3 ∧ Rel c D3 _ _ H3 s3 ∧ _)
      exact ⟨_, by (first | lia | omega), D3, H3, o1, cs, na, m', us, i + 1, rfl, hlt, hD.trans k3, R4, x2.stay R2 R4 k3, v1.mono k3, by (first | lia | omega), hvl, q3⟩
    | true =>
      refine wpAny_mono (h3 : W c A _ _ s3) (fun ev s4 h4 => ?_) fun _ _ f => f
      obtain ⟨D4, v, H4, k4, v4, R4, q4⟩ := h4
      have R4' := R4
      rw [oput_comm (Ne.symm hIa)] at R4'
      have ga := (R4'.oth _ _ (oput_same ..)).1
      refine wpAny_list_append_plain (items := cs.toArray) ⟨na, ga⟩ (fun h5 hp5 hs5 => ?_) (by rw [List.size_toArray, v1.1, sizeLine_eq]; unfold lim at hvl; (first | lia | omega))
      obtain ⟨n5, g5⟩ := hp5
      have g5' : h5.get? acc = some (listObj (cs ++ [ev]) n5) := by rw [g5]; simp [listObj]
      have R5 := R4'.setO (tk := s4.toks) (oput_same ..) hs5 g5'
      rw [oput_oput, oput_comm hIa] at R5
      refine ⟨_, by (first | lia | omega), D4, H4, o1, cs ++ [ev], n5, m', us ++ [v], i + 1, rfl, hlt, hD.trans k4, R5, x2.stay R2 R5 k4, (v1.mono k4).append (.cons v4 .nil), by simp; (first | lia | omega), hvl, q4⟩
  · have hin : i = vs.length := by (first | lia | omega)
    subst hin
    rw [List.drop_length] at itc
    obtain ⟨hw, hd⟩ := (itc : watch w H' ∧ doneC Q us H')
    have hOI' : oput O acc (listObj cs na) I = none := by rw [oput_ne hIa]; exact hOI
    exact it_done M.h R1 hOI' x hw fun s1 R2 => hR D' H' us cs na m s1 hD R2 v1 hd
end
end Mini

end
section
set_option autoImplicit false
set_option linter.unusedVariables false
set_option linter.unusedSectionVars false
set_option maxRecDepth 100000
namespace Mini
open PySem

section
variable {c : Cx} {mg : Str → Option Value} {G : List String} {A : Around} {C : CallSem} {K : Kn} {D O : OM} {F : FM} {H : MH} {s : Shared} {env : PySem.Env} {ρ : Env}

theorem comp_core (gl : Gl c mg G) (M : AOK A) {te src it elt : Expr} {ifs : List Expr} {sc : Scope} {p pp : Pos} {sk : SK} {a : X} {tgt : List String} {isT : Bool} {st : Env → List V → (List V → MH → Prop) → MH → Prop} {Q : V → MH → Prop} {Z : Z0} {use : Option (Value → Sem Unit)} {Qf : Value → Shared → Prop}
    (hsrc : SrcTr K sk src it) (ho : okE src = true) (ha : EvalOK c A C K a src)
    (hF : FOK env) (hK : env.scope.names = K) (hs : ScOK K sc) (tt : TgtTr (relabelK K sc.names) tgt isT te) (ht : scTgt (relabelK K sc.names) tgt = true) (fs : FS env D O F ρ) (R : Rel c D O F H s)
    (hb : ∀ L, BodyOK c A (cEnv sc L env) ifs elt st)
    (w : wpE C a ρ (fun sv H1 => ∃ vs w, srcItems sk H1 sv = some (vs, w) ∧ iterC (watch w) (fun v acc k H2 => ∃ ρ1, bindT isT tgt v ρ = some ρ1 ∧ st ρ1 acc k H2) vs [] (doneC Q) H1) Z H)
    (hu : ∀ (D' : OM) (H' : MH) (us : List V) (L acc : Addr) (cs : List Value) (n : Nat) (m : Str → Option Value) (s' : Shared), OLe D D' → Rel c D' (oput O acc (listObj cs n)) (fput F L m) H' s' → VRs D' cs us → doneC Q us H' → O acc = none → F L = none → O L = none → L ≠ acc →
      compPost (model c.prog c.w) A (EX c D O F Z) use Qf (.ref acc) L (.ok .next) s') :
    WE c A (comprehension (.ListComp elt [⟨te, it, ifs, 0⟩] sc p) sc env pp (newList []) false (eval it env) use) Qf (EX c D O F Z) s := by
  have hcl := closureFor_ok (frees hs hK fs)
  refine wpAny_comprehension_free (use := use) rfl (fun x => okE.fold (hsrc.ok ho) env x) hcl hs.kind hs.loc ?_
  refine wpAny_mono (src_snd gl M hsrc ho ha hF hK fs R w) (fun xv s1 p1 => wpAny_mono p1 (fun iv s2 p2 => ?_) fun _ _ e => e) fun _ _ e => e
  obtain ⟨D2, H2, vs, w2, k2, hit, hvl, I, oI, rfl, i1, i2, i3, i4, R2, x2⟩ := p2
  obtain ⟨f1, f2, f3, f4⟩ := R2.fresh
  have hIa : I ≠ s2.heap.objs.size := fun e => by
    rw [← e] at f2; rw [oput_same] at f2; cases f2
  have hOa : O s2.heap.objs.size = none := by rw [oput_ne (Ne.symm hIa)] at f2; exact f2
  refine wpAny_newList ?_ (by simp [sizeLine_eq])
  have R3 : Rel c D2 (oput (oput O I oI) s2.heap.objs.size (listObj [] 0)) F H2 { s2 with heap := s2.heap.push (listObj [] 0) } := (R2.grow (tk := s2.toks) fun b o e => Heap.get?_push_of_some _ e).newO (Heap.get?_push_size _ rfl) f1 f3 f4 (R2.freshLo (Nat.le_refl _))
  rw [oput_comm hIa] at R3
  generalize hs3 : ({ s2 with heap := s2.heap.push (listObj [] 0) } : Shared) = s3 at R3
  have x3 : It c A D2 I w2 vs 0 s3.heap := x2.stay R2 R3 (.refl _)
  show WE c A _ _ _ ({ s2 with heap := s2.heap.push (listObj [] 0) } : Shared)
  rw [hs3]
  obtain ⟨g1, g2, g3, g4⟩ := R3.fresh
  refine wpAny_newFunctionEnv hs.nocell (fun y hy => nomatch hy) (fun h' hn hsb => ?_) hs.kind
  try dsimp only at hn hsb ⊢
  have kp : ∀ b o, s3.heap.get? b = some o → h'.get? b = some o := fun b o e => hsb.extBut b o (Nat.ne_of_lt (Heap.lt_size e)) (Heap.get?_push_of_some _ e)
  have R4 : Rel c D2 (oput (oput O s2.heap.objs.size (listObj [] 0)) I oI) (fput F s3.heap.objs.size fun x => ([] : List (Str × Value)).reverse.lookup x) H2 { s3 with heap := h', toks := s3.toks + ([] : List (Str × Value)).length } :=
    (R3.grow kp).newF hn g1 g2 g4
  have x4 := x3.stay R3 R4 (.refl _)
  have hLa : s3.heap.objs.size ≠ s2.heap.objs.size := fun e => by
    by_cases q : s3.heap.objs.size = I
    · rw [q, oput_same] at g2; cases g2
    · rw [oput_ne q, e, oput_same] at g2; cases g2
  have hOL : O s3.heap.objs.size = none := by
    by_cases q : s3.heap.objs.size = I
    · rw [q]; exact i2
    · rw [oput_ne q, oput_ne hLa] at g2; exact g2
  have turns := comp_turns (R := compPost (model c.prog c.w) A (EX c D O F Z) use Qf (.ref s2.heap.objs.size) s3.heap.objs.size) (it := it) (p := p) (Q := Q) M hF hK hs tt ht (fs.mono k2) (hb s3.heap.objs.size) i2 hOa g3 hIa
    (fun D' H' us cs n m s' k R' v d => hu D' H' us _ _ cs n m s' (k2.trans k) R' v d hOa g3 hOL hLa) (vs.length + 1) _ ⟨D2, H2, oI, [], 0, _, [], 0, rfl, Nat.zero_le _, .refl _, R4, x4, .nil, Nat.zero_le _, hvl, hit⟩
  exact codeAny_compStart_list turns (it_self x4 turns)

theorem comp_eval (gl : Gl c mg G) (M : AOK A) {te src it elt : Expr} {ifs : List Expr} {sc : Scope} {p : Pos} {sk : SK} {a x : X} {tgt : List String} {isT : Bool} {st : Env → List V → (List V → MH → Prop) → MH → Prop}
    (hsrc : SrcTr K sk src it) (ho : okE src = true) (ha : EvalOK c A C K a src) (hs : ScOK K sc) (tt : TgtTr (relabelK K sc.names) tgt isT te) (ht : scTgt (relabelK K sc.names) tgt = true)
    (hb : ∀ env L, FOK env → env.scope.names = K → BodyOK c A (cEnv sc L env) ifs elt st)
    (hx : ∀ ρ Q Z H, wpE C x ρ Q Z H → wpE C a ρ (fun sv H1 => ∃ vs w, srcItems sk H1 sv = some (vs, w) ∧ iterC (watch w) (fun v acc k H2 => ∃ ρ1, bindT isT tgt v ρ = some ρ1 ∧ st ρ1 acc k H2) vs [] (doneC Q) H1) Z H) :
    EvalOK c A C K x (.ListComp elt [⟨te, it, ifs, 0⟩] sc p) := fun env ρ D O F H s Q Z hF hK fs R w => by
  rw [eval_ListComp]
  refine comp_core gl M hsrc ho ha hF hK hs tt ht fs R (fun L => hb env L hF hK) (hx ρ Q Z H w) fun D' H' us L acc cs n m s' k R' v d e1 e2 e3 e4 => ?_
  obtain ⟨q1, q2, q3⟩ := R'.frm L m (fput_same ..)
  refine ⟨m, q1, fun h' hsb => ?_⟩
  have R1 : Rel c D' (oput O acc (listObj cs n)) F H' { s' with heap := h' } := R'.dropF (tk := s'.toks) e2 (by rw [oput_ne e4]; exact e3) hsb R.frs
  obtain ⟨z1, z2⟩ := R1.o2h (tk := s'.toks) e1 (Heap.SameBut.refl ..) (R1.oth _ _ (oput_same ..)).1 (.list ⟨n, rfl⟩ v d.1)
  exact ⟨D', .ref acc, _, k, .ref _, z2, d.2 _ z1⟩

theorem body_comp {elt : Expr} {x : X} {cenv : PySem.Env} {K' : Kn} (hF : FOK cenv) (hK : cenv.scope.names = K') (hx : EvalOK c A C K' x elt) : BodyOK c A cenv [] elt fun ρ1 acc k H2 => wpE C x ρ1 (fun ev H3 => k (acc ++ [ev]) H3) ZF H2 := fun ρ1 acc k D O F H s fs R h => by
  rw [List.forIn_nil]
  refine wpAny_pure ?_
  rw [if_pos rfl]
  exact wpAny_mono (hx cenv ρ1 D O F H s _ ZF hF hK fs R h) (fun cv s4 p => let ⟨D4, v, H4, k4, v4, R4, q4⟩ := p; ⟨D4, v, H4, k4, v4, R4, q4⟩) fun _ _ e => let ⟨_, _, _, _, _, _, z⟩ := e; z
theorem body_compIf {elt cond : Expr} {x y : X} {cenv : PySem.Env} {K' : Kn} (hF : FOK cenv) (hK : cenv.scope.names = K') (hx : EvalOK c A C K' x elt) (hy : TrueOK c A C K' y cond) : BodyOK c A cenv [cond] elt fun ρ1 acc k H2 => wpE C y ρ1 (asB fun b H3 =>
        (b = true → wpE C x ρ1 (fun ev H4 => k (acc ++ [ev]) H4) ZF H3) ∧ (b = false → k acc H3)) ZF H2 := fun ρ1 acc k D O F H s fs R h => by
  rw [List.forIn_cons]
  refine wpAny_bind ?_
  show W c A (do let ok ← isTrue cond cenv (eval cond cenv); pure (ForInStep.yield ok)) _ _
  refine wpAny_bind (wpAny_mono (hy cenv ρ1 D O F H s _ ZF hF hK fs R h) (fun b s3 p => wpAny_pure ?_) fun _ _ e => let ⟨_, _, _, _, _, _, z⟩ := e; z)
  obtain ⟨D3, H3, k3, R3, q1, q2⟩ := p
  dsimp only
  rw [List.forIn_nil]
  refine wpAny_pure ?_
  cases b with
  | true =>
    rw [if_pos rfl]
    exact wpAny_mono (hx cenv ρ1 D3 O F H3 s3 _ ZF hF hK (fs.mono k3) R3 (q1 rfl)) (fun cv s4 p => let ⟨D4, v, H4, k4, v4, R4, q4⟩ := p; ⟨D4, v, H4, k3.trans k4, v4, R4, q4⟩) fun _ _ e => let ⟨_, _, _, _, _, _, z⟩ := e; z
  | false =>
    rw [if_neg (by decide)]
    exact ⟨D3, H3, k3, R3, q2 rfl⟩
end
end Mini

end
section
set_option autoImplicit false
set_option linter.unusedVariables false
set_option linter.unusedSectionVars false
set_option maxRecDepth 100000
namespace Mini
open PySem

section
variable {c : Cx} {mg : Str → Option Value} {G : List String} {A : Around} {C : CallSem}

theorem sndE2 (gl : Gl c mg G) (M : AOK A) (pf : PF c A) (hC : MonoC C) (hc : CallOK c mg A C) {K : Kn} {x : X} {e : Expr} (t : TrE G K x e) : okE e = true ∧ SndE c A C K x e := by
  refine TrE.rec (G := G) (motive_1 := fun K x e _ => okE e = true ∧ SndE c A C K x e) (motive_2 := fun K x e _ => okE e = true ∧ SndE c A C K x e) (motive_3 := fun K xs es _ => (∀ e ∈ es, okE e = true) ∧ SplOK c A C K xs es) ?none ?bool ?int ?str ?var ?bin ?neg ?not ?cmp ?isNone ?one ?and ?or ?idx ?sliceTo ?sliceFrom ?tuple ?list ?dict0 ?bcall ?isi ?listRev ?meth1 ?meth2 ?call ?lc ?comp ?compIf ?nil ?cons t
  case none => intros; exact ⟨rfl, snd_none⟩
  case bool => intros; exact ⟨rfl, snd_bool⟩
  case int => intros; exact ⟨rfl, snd_int⟩
  case str => intro _ _ _ _ h; exact ⟨rfl, snd_str h⟩
  case var => intro _ _ _ h1 h2 h3 h4; exact ⟨rfl, snd_var h1 h2 h3 h4⟩
  case bin => intro _ _ _ _ _ _ _ _ h _ _ a b; exact ⟨rfl, snd_bin pf h a.2 b.2⟩
  case neg => intro _ _ _ _ _ a; exact ⟨rfl, snd_neg a.2⟩
  case not => intro _ _ _ _ _ a; exact ⟨rfl, snd_not hC a.2⟩
  case cmp => intro _ _ _ _ _ _ _ _ h _ t2 a b; exact ⟨rfl, snd_cmp pf h b.1 a.2 b.2⟩
  case isNone => intro _ _ _ _ _ _ _ a; exact ⟨rfl, snd_isNone a.2⟩
  case one => intro _ _ _ _ _ _ a; exact ⟨rfl, snd_one a.2⟩
  case and => intro _ _ _ _ _ _ _ _ _ a b; exact ⟨rfl, snd_and a.2 b.2⟩
  case or => intro _ _ _ _ _ _ _ _ _ a b; exact ⟨rfl, snd_or a.2 b.2⟩
  case idx => intro _ _ _ _ _ _ _ t2 a b; exact ⟨rfl, snd_idx pf b.1 a.2 b.2⟩
  case sliceTo => intro _ _ _ _ _ _ _ _ _ a b; exact ⟨rfl, snd_sliceTo pf a.2 b.2⟩
  case sliceFrom => intro _ _ _ _ _ _ _ _ _ a b; exact ⟨rfl, snd_sliceFrom pf a.2 b.2⟩
  case tuple => intro _ _ _ _ _ _ a; exact ⟨rfl, snd_tuple a.2⟩
  case list => intro _ _ _ _ _ a; exact ⟨rfl, snd_list a.2⟩
  case dict0 => intros; exact ⟨rfl, snd_dict0⟩
  case bcall => intro _ _ _ _ _ _ _ _ _ h1 h2 t a; exact ⟨rfl, snd_bcall pf gl h1 h2 (a.1 _ (.head _)) (fun pos env => okEs_any a.1 pos env) a.2⟩
  case isi => intro _ _ _ _ _ _ _ h1 h2 t a; exact ⟨rfl, snd_isi pf gl h1 h2 a.1 a.2⟩
  case listRev => intro _ _ _ _ _ _ _ h1 h2 t a; exact ⟨rfl, snd_listRev pf gl h1 h2 a.1 a.2⟩
  case meth1 => intro _ _ _ _ _ _ _ _ _ h1 h2 t1 t2 a b; exact ⟨rfl, snd_meth1 pf h1 h2 a.1 b.1 a.2 b.2⟩
  case meth2 => intro _ _ _ _ _ _ _ _ _ _ _ h1 h2 t1 t2 t3 a b d; exact ⟨rfl, snd_meth2 pf h1 h2 a.1 b.1 d.1 a.2 b.2 d.2⟩
  case call => intro _ _ _ _ _ _ _ h1 h2 t a; exact ⟨rfl, snd_call gl hc h1 h2 (a.1 _ (.head _)) a.2⟩
  case lc => intro _ _ _ _ a; exact a
  case comp =>
    intro K x tgt isT sk a elt te src it sc p t1 h1 h2 h3 h4 t2 a1 a2
    exact ⟨rfl, true_of_eval (comp_eval gl M h1 a1.1 a1.2.1 (scOK.prop h2) h3 h4 (fun env L hF hK => body_comp (cEnv_FOK hF (scOK.prop h2)) (cEnv_names hF hK) a2.2.1) fun ρ Q Z H w => w) fun _ _ => rfl⟩
  case compIf =>
    intro K x tgt isT sk a y elt te src it cond sc p t1 h1 h2 h3 h4 t2 t3 a1 a2 a3
    exact ⟨rfl, true_of_eval (comp_eval gl M h1 a1.1 a1.2.1 (scOK.prop h2) h3 h4 (fun env L hF hK => body_compIf (cEnv_FOK hF (scOK.prop h2)) (cEnv_names hF hK) a2.2.1 a3.2.2) fun ρ Q Z H w => w) fun _ _ => rfl⟩
  case nil => intros; exact ⟨(fun e he => by cases he), spl_nil⟩
  case cons => intro _ _ _ _ _ t1 _ a b; exact ⟨(fun e he => (List.mem_cons.mp he).elim (fun q => q ▸ a.1) (b.1 e)), spl_cons a.1 a.2 b.2⟩
theorem sndE (gl : Gl c mg G) (M : AOK A) (pf : PF c A) (hC : MonoC C) (hc : CallOK c mg A C) {K : Kn} {x : X} {e : Expr} (t : TrE G K x e) : SndE c A C K x e := (sndE2 gl M pf hC hc t).2
end
end Mini

end
section
set_option autoImplicit false
set_option linter.unusedVariables false
set_option linter.unusedSectionVars false
set_option maxRecDepth 100000
namespace Mini
open PySem

abbrev Apart (env : PySem.Env) : Prop := env.cells.Pairwise fun x y => x.2 ≠ y.2
noncomputable def Ap (c : Cx) (A : Around) (env : PySem.Env) : Prop := Apart env ∧ env.frame = some env.locals ∧ ∃ outer, A.frames = some (env :: outer) ∧ c.fr = env :: outer
noncomputable def SPost (c : Cx) (env : PySem.Env) (D O : OM) (F : FM) (N : Env → MH → Prop) (T : V → MH → Prop) (fl : Flow) (s' : Shared) : Prop :=
  ∃ D' O' F' H', OLe D D' ∧ Out env O F O' F' ∧ Rel c D' O' F' H' s' ∧ match fl with
    | .next => ∃ ρ', FS env D' O' F' ρ' ∧ N ρ' H'
    | .ret cv => ∃ v, VR D' cv v ∧ T v H'
    | _ => False
noncomputable def EXS (c : Cx) (env : PySem.Env) (D O : OM) (F : FM) (Z : Z0) (e : Value) (s : Shared) : Prop := ∃ O' F', Out env O F O' F' ∧ EX c D O' F' Z e s
theorem EX.exs {c : Cx} {env : PySem.Env} {D O : OM} {F : FM} {Z : Z0} {e : Value} {s : Shared} (h : EX c D O F Z e s) : EXS c env D O F Z e s := ⟨O, F, .refl .., h⟩
theorem EX.exs' {c : Cx} {env : PySem.Env} {D D' O : OM} {F : FM} {Z : Z0} {e : Value} {s : Shared} (h : EX c D' O F Z e s) (k : OLe D D') : EXS c env D O F Z e s := (h.mono k).exs
theorem EXS.mono {c : Cx} {env : PySem.Env} {D D' O O' : OM} {F F' : FM} {Z : Z0} {e : Value} {s : Shared} (k : OLe D D') (o : Out env O F O' F') (h : EXS c env D' O' F' Z e s) : EXS c env D O F Z e s :=
  let ⟨O2, F2, o2, x⟩ := h; ⟨O2, F2, o.trans o2, x.mono k⟩
theorem EXS.no {c : Cx} {env : PySem.Env} {D O : OM} {F : FM} {e : Value} {s : Shared} (h : EXS c env D O F ZF e s) : False := let ⟨_, _, _, _, _, _, _, _, _, z⟩ := h; z
theorem EX.no {c : Cx} {D O : OM} {F : FM} {e : Value} {s : Shared} (h : EX c D O F ZF e s) : False := let ⟨_, _, _, _, _, _, z⟩ := h; z
theorem SPost.mono {c : Cx} {env : PySem.Env} {D D' O O' : OM} {F F' : FM} {N : Env → MH → Prop} {T : V → MH → Prop} {fl : Flow} {s : Shared} (k : OLe D D') (o : Out env O F O' F') (h : SPost c env D' O' F' N T fl s) : SPost c env D O F N T fl s :=
  let ⟨D2, O2, F2, H2, k2, o2, r⟩ := h; ⟨D2, O2, F2, H2, k.trans k2, o.trans o2, r⟩

noncomputable def StmtOK (c : Cx) (A : Around) (C : CallSem) (K : Kn) (x : S) (st : Stmt) : Prop := ∀ (env : PySem.Env) (ρ : Env) (D O : OM) (F : FM) (H : MH) (s : Shared) (N : Env → MH → Prop) (T : V → MH → Prop) (Z : Z0),
  FOK env → env.scope.names = K → Ap c A env → FS env D O F ρ → Rel c D O F H s → wpS C x ρ N T Z H → WE c A (exec st env) (SPost c env D O F N T) (EXS c env D O F Z) s
noncomputable def BlockOK (c : Cx) (A : Around) (C : CallSem) (K : Kn) (xs : List S) (sts : List Stmt) : Prop := ∀ (env : PySem.Env) (ρ : Env) (D O : OM) (F : FM) (H : MH) (s : Shared) (N : Env → MH → Prop) (T : V → MH → Prop) (Z : Z0),
  FOK env → env.scope.names = K → Ap c A env → FS env D O F ρ → Rel c D O F H s → wpSs C xs ρ N T Z H → WE c A (execs sts env) (SPost c env D O F N T) (EXS c env D O F Z) s

section
variable {c : Cx} {mg : Str → Option Value} {G : List String} {A : Around} {C : CallSem} {K : Kn}

theorem sto_kind {env : PySem.Env} {x : String} (hK : env.scope.names = K) (h : stoK (K.lookup (nm x)) = true) : env.kindOf (nm x) = some .local ∨ env.kindOf (nm x) = some .cell := by
  subst hK
  revert h
  show stoK (env.kindOf (nm x)) = true → _
  cases env.kindOf (nm x) with
  | none => intro h; cases h
  | some k => cases k <;> intro h <;> first | exact .inl rfl | exact .inr rfl | cases h

theorem st_asg_plain {x : String} {a : X} {e : Expr} {p p' : Pos} (hk : stoK (K.lookup (nm x)) = true) (ha : EvalOK c A C K a e) {env : PySem.Env} {ρ : Env} {D O : OM} {F : FM} {H : MH} {s : Shared} {N : Env → MH → Prop} {T : V → MH → Prop} {Z : Z0}
    (hF : FOK env) (hK : env.scope.names = K) (ap : Apart env) (fs : FS env D O F ρ) (R : Rel c D O F H s) (w : wpS C (.asg x a) ρ N T Z H) (hs : swapsWith e (some (.Name (nm x) p')) p.line env = pure false) :
    WE c A (exec (.Assign [.Name (nm x) p'] e p) env) (SPost c env D O F N T) (EXS c env D O F Z) s := by
  refine wpAny_Assign_Name ?_ hs
  have w' : wpE C a ρ (fun v H' => N (upd ρ x v) H') Z H := w
  refine wpAny_mono (ha env ρ D O F H s _ Z hF hK fs R w') (fun cv s1 p1 => ?_) fun _ _ e => e.exs
  obtain ⟨D1, v, H1, k1, v1, R1, q1⟩ := p1
  exact store_snd hF (fs.mono k1) R1 v1 (sto_kind hK hk) (fun _ => ap) fun O' F' s' o1 _ fs' R' => ⟨D1, O', F', H1, k1, o1, R', upd ρ x v, fs', q1⟩

theorem st_asgT {xs : List String} {a : X} {e : Expr} {es : List Expr} {k : Nat} {p p' : Pos} (M : AOK A) (ht : TgtNames K xs es) (hn : isTupE e = false) (t : TrE G K a e) (ha : SndE c A C K a e) : StmtOK c A C K (.asgT xs a) (.Assign [.Tuple es k p'] e p) :=
  fun env ρ D O F H s N T Z hF hK ap fs R w => by
    refine PyProof.Rows.Assign_Tuple ?_ (swaps_tup e es k p' p.line env) (not_tup_stores hn es k p' env)
    have w' : wpE C a ρ (fun v H' => ∃ ρ1, bindT true xs v ρ = some ρ1 ∧ N ρ1 H') Z H := w
    refine wpAny_mono (ha.1 env ρ D O F H s _ Z hF hK fs R w') (fun cv s1 p1 => ?_) fun _ _ e => e.exs
    obtain ⟨D1, v, H1, k1, v1, R1, ρ1, b1, q1⟩ := p1
    exact tgt_snd M hF hK (fun _ _ _ => ap.1) (.tup ht) b1 v1 (fs.mono k1) R1 fun O' F' s' o1 _ fs' R' => ⟨D1, O', F', H1, k1, o1, R', ρ1, fs', q1⟩

theorem st_ex {a : X} {e : Expr} {p : Pos} (hn : isComp e = false) (t : TrE G K a e) (ha : SndE c A C K a e) : StmtOK c A C K (.ex a) (.Expr e p) :=
  fun env ρ D O F H s N T Z hF hK ap fs R w => by
    refine wpAny_Expr ?_ (by unfold interactive; rw [hF.kind]; rfl) (not_comp_swaps hn _ _ _)
    have w' : wpE C a ρ (fun v H' => isPlain v = true ∧ N ρ H') Z H := w
    refine wpAny_mono (ha.1 env ρ D O F H s _ Z hF hK fs R w') (fun cv s1 p1 => ?_) fun _ _ e => e.exs
    obtain ⟨D1, v, H1, k1, v1, R1, q0, q1⟩ := p1
    have fin : SPost c env D O F N T .next s1 := ⟨D1, O, F, H1, k1, .refl .., R1, ρ, fs.mono k1, q1⟩
    cases v1 <;> first | exact fin | cases q0
theorem st_ifs {a : X} {t u : List S} {e : Expr} {t' u' : List Stmt} {p : Pos} (ha : SndE c A C K a e) (ht : BlockOK c A C K t t') (hu : BlockOK c A C K u u') : StmtOK c A C K (.ifs a t u) (.If e t' u' p) :=
  fun env ρ D O F H s N T Z hF hK ap fs R w => by
    refine wpAny_If ?_
    have w' : wpE C a ρ (asB fun b H' => (b = true → wpSs C t ρ N T Z H') ∧ (b = false → wpSs C u ρ N T Z H')) Z H := w
    refine wpAny_mono (ha.2 env ρ D O F H s _ Z hF hK fs R w') (fun b s1 p1 => ?_) fun _ _ e => e.exs
    obtain ⟨D1, H1, k1, R1, q1, q2⟩ := p1
    cases b with
    | true => exact wpAny_mono (ht env ρ D1 O F H1 s1 N T Z hF hK ap (fs.mono k1) R1 (q1 rfl)) (fun _ _ h => h.mono k1 (.refl ..)) fun _ _ h => h.mono k1 (.refl ..)
    | false => exact wpAny_mono (hu env ρ D1 O F H1 s1 N T Z hF hK ap (fs.mono k1) R1 (q2 rfl)) (fun _ _ h => h.mono k1 (.refl ..)) fun _ _ h => h.mono k1 (.refl ..)
theorem st_ret {a : X} {e : Expr} {p : Pos} (ha : SndE c A C K a e) : StmtOK c A C K (.ret a) (.Return (some e) p) :=
  fun env ρ D O F H s N T Z hF hK ap fs R w => wpAny_Return_some (wpAny_mono (ha.1 env ρ D O F H s T Z hF hK fs R w) (fun cv s1 p1 => by
    obtain ⟨D1, v, H1, k1, v1, R1, q1⟩ := p1
    exact ⟨D1, O, F, H1, k1, .refl .., R1, v, v1, q1⟩) fun _ _ e => e.exs)
theorem st_pass {p : Pos} : StmtOK c A C K .pass (.Pass p) := fun env ρ D O F H s N T Z hF hK ap fs R w => wpAny_Pass ⟨D, O, F, H, .refl D, .refl .., R, ρ, fs, w⟩
theorem bl_nil : BlockOK c A C K [] [] := fun env ρ D O F H s N T Z hF hK ap fs R w => wpAny_execs_nil ⟨D, O, F, H, .refl D, .refl .., R, ρ, fs, w⟩
theorem bl_cons {x : S} {xs : List S} {st : Stmt} {sts : List Stmt} (h1 : StmtOK c A C K x st) (h2 : BlockOK c A C K xs sts) : BlockOK c A C K (x :: xs) (st :: sts) := fun env ρ D O F H s N T Z hF hK ap fs R w => by
  refine wpAny_execs_cons ?_
  have w' : wpS C x ρ (fun ρ' H' => wpSs C xs ρ' N T Z H') T Z H := w
  refine wpAny_mono (h1 env ρ D O F H s _ T Z hF hK ap fs R w') (fun fl s1 p1 => ?_) fun _ _ e => e
  obtain ⟨D1, O1, F1, H1, k1, o1, R1, q⟩ := p1
  cases fl with
  | next =>
    obtain ⟨ρ1, fs1, q1⟩ := q
    exact wpAny_mono (h2 env ρ1 D1 O1 F1 H1 s1 N T Z hF hK ap fs1 R1 q1) (fun _ _ h => h.mono k1 o1) fun _ _ h => h.mono k1 o1
  | ret cv => exact ⟨D1, O1, F1, H1, k1, o1, R1, q⟩
  | brk => exact q.elim
  | cont => exact q.elim

theorem for_loop {R : Result → Shared → Prop} {target : Expr} {it : Value} {body : List Stmt} {env : PySem.Env} {s : Shared} (I : Nat → Shared → Prop)
    (turn : ∀ n s, I n s → W c A (pyNext it) (fun r s₁ => match r with
      | none => R (.ok .next) s₁
      | some v => W c A (letOwnedTupleGo target it v) (fun _ s₁' => W c A (assign target env v) (fun _ s₂ => W c A (execs body env) (fun f s₃ => match f with
          | .next | .cont => ∃ m, m < n ∧ I m s₃
          | .brk => R (.ok .next) s₃
          | .ret v => R (.ok (.ret v)) s₃) s₂) s₁') s₁) s)
    (n : Nat) (h : I n s) : codeAny (model c.prog c.w) A (.forLoop target it body [] env) R s := by
  refine codeAny_loop' rfl I (fun n s hI => ?_) n h
  show wpAny _ _ ((forTurn target it body [] env).onRaise (fun x => do noteFrame x env; theTreesLotGoes x)) _ _ s
  refine wpAny_noted ?_
  simp only [forTurn]
  refine wpAny_bind (wpAny_standAt (wpAny_bind (wpAny_onRaise (wpAny_mono (turn n s hI) (fun r s₁ h₁ => ?_) fun _ _ h' => h'.elim))))
  cases r with
  | none => exact wpAny_pure (.inr ⟨rfl, codeAny_block (wpAny_execs_nil h₁)⟩)
  | some v =>
    refine wpAny_bind (wpAny_mono h₁ (fun _ s₁' h₁' => ?_) fun _ _ h' => h'.elim)
    refine wpAny_bind (wpAny_mono h₁' (fun _ s₂ h₂ => wpAny_bind (wpAny_mono h₂ (fun f s₃ h₃ => ?_) fun _ _ h' => h'.elim)) fun _ _ h' => h'.elim)
    cases f with
    | next => exact wpAny_pure (.inl ⟨rfl, h₃⟩)
    | cont => exact wpAny_pure (.inl ⟨rfl, h₃⟩)
    | brk => exact wpAny_pure h₃
    | ret v => exact wpAny_pure h₃

noncomputable def minus (O : OM) (I : Addr) : OM := fun a => if a = I then none else O a
theorem minus_put {O : OM} {I : Addr} {o : Obj} (h : O I = some o) : O = oput (minus O I) I o := by
  funext a
  by_cases e : a = I
  · subst e; rw [oput_same, h]
  · rw [oput_ne e]; simp [minus, e]
theorem FS.minus {env : PySem.Env} {D O : OM} {F : FM} {ρ : Env} {I : Addr} (fs : FS env D O F ρ) (h : ∀ n, env.cells.lookup n ≠ some I) : FS env D (minus O I) F ρ := by
  have q : ∀ {n : Str} {a : Addr}, env.cells.lookup n = some a → Mini.minus O I a = O a := fun {n a} e => if_neg fun (z : a = I) => h n (z ▸ e)
  exact ⟨fs.fr, fun x v h k => let ⟨a, o', cv, h1, h2, h3, h4⟩ := fs.ce x v h k; ⟨a, o', cv, h1, (q h1).trans h2, h3, h4⟩, fun x k => let ⟨a, o', cv, h1, h2, h3⟩ := fs.own x k; ⟨a, o', cv, h1, (q h1).trans h2, h3⟩,
    fun n a e => let ⟨o, ho⟩ := fs.cel n a e; ⟨o, (q e).trans ho⟩⟩
theorem Out.minus {env : PySem.Env} {O O' : OM} {F F' : FM} {I : Addr} {o : Obj} (h : Out env (oput O I o) F O' F') (hI : O I = none) : Out env O F (minus O' I) F' := by
  refine ⟨h.f, fun a ha => ?_, fun a ha => ?_, h.fc⟩
  · by_cases e : a = I
    · subst e; simp [Mini.minus, hI]
    · simp only [Mini.minus, if_neg e]; rw [h.o a ha, oput_ne e]
  · by_cases e : a = I
    · subst e; simp [Mini.minus]
    · simp only [Mini.minus, if_neg e]; exact h.oc a (by rw [oput_ne e]; exact ha)

theorem iterF_drop {w : MH → Prop} {st : V → Env → (Env → MH → Prop) → MH → Prop} {vs : List V} {ρ : Env} {i : Nat} {K : Env → MH → Prop} {H : MH} (h : iterF w st (vs.drop i) ρ K H) (hi : i < vs.length) : w H ∧ st vs[i] ρ (fun ρ' H' => iterF w st (vs.drop (i + 1)) ρ' K H') H := by
  rw [List.drop_eq_getElem_cons hi] at h
  exact h

noncomputable def FInv (c : Cx) (A : Around) (env : PySem.Env) (D O : OM) (F : FM) (st : V → Env → (Env → MH → Prop) → MH → Prop) (N : Env → MH → Prop) (w : Option (Addr × List V)) (vs : List V) (I : Addr) (j : Nat) (s : Shared) : Prop :=
  ∃ D' O' F' H' oI ρ' i, j = vs.length + 1 - i ∧ i ≤ vs.length ∧ OLe D D' ∧ Out env O F O' F' ∧ Rel c D' (oput O' I oI) F' H' s ∧ It c A D' I w vs i s.heap ∧ FS env D' O' F' ρ' ∧ iterF (watch w) st (vs.drop i) ρ' N H'

theorem st_for (gl : Gl c mg G) (M : AOK A) {tgt : List String} {isT : Bool} {sk : SK} {a : X} {t : List S} {te src it : Expr} {t' : List Stmt} {p : Pos} (ho : okE src = true) (ha : SndE c A C K a src) (hsrc : SrcTr K sk src it) (tt : TgtTr K tgt isT te) (ht : BlockOK c A C K t t') :
    StmtOK c A C K (.for tgt isT sk a t) (.For te it t' [] p) := fun env ρ D O F H s N T Z hF hK ap fs R w => by
  have w' : wpE C a ρ (fun sv H1 => ∃ vs w, srcItems sk H1 sv = some (vs, w) ∧ iterF (watch w) (fun v ρ' k H2 => ∃ ρ1, bindT isT tgt v ρ' = some ρ1 ∧ wpSs C t ρ1 k T ZF H2) vs ρ N H1) Z H := w
  refine wpAny_For ?_ fun x => okE.fold (hsrc.ok ho) env x
  refine wpAny_mono (src_snd gl M hsrc ho ha.1 hF hK fs R w') (fun xv s1 p1 => wpAny_mono p1 (fun iv s2 p2 => ?_) fun _ _ e => e.exs) fun _ _ e => e.exs
  obtain ⟨D2, H2, vs, w2, k2, hit, hvl, I, oI, rfl, i1, i2, i3, i4, R2, x2⟩ := p2
  have hcI : ∀ n, env.cells.lookup n ≠ some I := fun n e => by
    obtain ⟨o, ho⟩ := fs.cel n I e
    rw [i2] at ho; cases ho
  refine for_loop (FInv c A env D O F (fun v ρ' k H2 => ∃ ρ1, bindT isT tgt v ρ' = some ρ1 ∧ wpSs C t ρ1 k T ZF H2) N w2 vs I) ?_ (vs.length + 1)
    ⟨D2, O, F, H2, oI, ρ, 0, rfl, Nat.zero_le _, k2, .refl .., R2, x2, fs.mono k2, hit⟩
  rintro n s' ⟨D', O', F', H', oI, ρ', i, rfl, hi, hD, hout, R1, x, fs1, itc⟩
  have hOI : O' I = none := hout.oc I i2
  by_cases hlt : i < vs.length
  · obtain ⟨hw, ρ1, hb1, hst⟩ := iterF_drop itc hlt
    refine it_next R1 x hw hlt fun cv s1 o1 v2 R3 x3 => ?_
    obtain ⟨oi, ho1, ho2⟩ := x3.okIter
    refine own_tuple_go ho1 ho2 ?_
    refine tgt_snd M hF hK (fun _ _ _ => ap.1) tt hb1 v2 (fs1.newO hOI) R3 fun O2 F2 s2 out2 _ fs2 R4 => ?_
    refine wpAny_mono (ht env ρ1 D' O2 F2 H' s2 _ T ZF hF hK ap fs2 R4 hst) (fun fl s3 p3 => ?_) fun _ _ e => e.no
    obtain ⟨D3, O3, F3, H3, k3, out3, R5, q⟩ := p3
    have out4 := out2.trans out3
    have hO3 : O3 I = some o1 := by rw [out4.o I hcI, oput_same]
    have R6 := R5
    rw [minus_put hO3] at R6
    have out5 := out4.minus hOI
    cases fl with
    | next =>
      obtain ⟨ρ3, fs3, q3⟩ := q
      exact ⟨_, by (first | lia | omega), D3, minus O3 I, F3, H3, o1, ρ3, i + 1, rfl, hlt, hD.trans k3, hout.trans out5, R6, x3.stay R3 R6 k3, fs3.minus hcI, q3⟩
    | cont => exact q.elim
    | brk => exact q.elim
    | ret v =>
      refine ⟨D3, minus O3 I, F3, H3, hD.trans k3, hout.trans out5, R6.subO (fun b y e => ?_), q⟩
      rw [oput_ne]; exact e
      rintro rfl; simp [minus] at e
  · have hin : i = vs.length := by (first | lia | omega)
    subst hin
    rw [List.drop_length] at itc
    obtain ⟨hw, hd⟩ := (itc : watch w2 H' ∧ N ρ' H')
    exact it_done M.h R1 hOI x hw fun s1 R3 => ⟨D', O', F', H', hD, hout, R3, ρ', fs1, hd⟩

end
end Mini

end
section
set_option autoImplicit false
set_option linter.unusedVariables false
set_option linter.unusedSectionVars false
set_option maxRecDepth 100000
namespace Mini
open PySem

section
variable {c : Cx} {mg : Str → Option Value} {G : List String} {A : Around} {C : CallSem} {K : Kn}
theorem st_raise (gl : Gl c mg G) (M : AOK A) {cls : String} {x : Str} {k : Nat} {np cp cpos pos : Pos} (hcls : clsNames.contains cls = true) (hg : gloK K cls = true) (hx : x.length ≤ lim) :
    StmtOK c A C K (.raise cls) (.Raise (some (.Call (.Name (nm cls) np) [.Constant (.str x) k cp] [] cpos)) none pos) := fun env ρ D O F H s N T Z hF hK ap fs R w => by
  have hz : Z cls H := w
  obtain ⟨C', bm, cf⟩ := gl.mods cls (by simpa using hcls)
  obtain ⟨N', n, q, bs, hdct, sn, sub, ab, col, dd, k0, k1, k2, k3, k5, mN, hC, hN, hni, T'⟩ := cf.obj
  have kp : ∀ {s' : Shared}, Rel c D O F H s' → ∀ b o, c.s0.heap.get? b = some o → s'.heap.get? b = some o := fun R' b o e => R'.dat _ _ (R'.base _ _ e)
  refine wpAny_Raise_call_subU (C := C') (nm := n) (q := q) (N := N') (bs := bs) (bm := bm) (hdct := hdct) (sn := sn) (sub := sub) (ab := ab) (col := col) (dd := dd) (k0 := k0) (k1 := k1) (k2 := k2) (k3 := k3) (k5 := k5)
    PySem.F.excBase_ValueError (bmB := mroVE) (by decide +kernel) PySem.F.excBase_ValueError (mN := mN) (T'.q.tail.hasType PySem.F.excBase_ValueError.hasBase) M.h rfl (hni _ (.tail _ (.head _))) (fn_name gl hF (by rw [hK]; exact hg) cf.bound R ⟨rfl, ?_⟩)
  show WE c A (evalArgs (.ref C') true (backTo cpos ((false, eval (.Constant (.str x) k cp) env) :: [])) []) _ _ s
  refine Calls.evalArgs_plain (Calls.spliced_cons (wpAny_mono ((snd_str (c := c) (A := A) (C := C) (K := K) (k := k) (p := cp) hx).1 env ρ D O F H s (fun v H' => v = .str x ∧ H' = H) ZF hF hK fs R ⟨rfl, rfl⟩) (fun cv s1 p1 => Calls.spliced_nil ?_) fun _ _ e => e.no.elim))
  obtain ⟨D1, v, H1, k1', v1, R1, rfl, rfl⟩ := p1
  have kp1 : ∀ b o, c.s0.heap.get? b = some o → s1.heap.get? b = some o := fun b o e => R1.dat _ _ (R1.base _ _ e)
  refine ⟨rfl, (by show 1 ≤ sizeLine; decide), kp1 _ _ hC, hN.keeps kp1, (T'.keeps kp1).q.tail, fun h' e hm => ?_⟩
  obtain ⟨t, ht, _, _⟩ := hm.there
  have R2 : Rel c D1 O F H1 { s1 with heap := h' } := R1.grow (tk := s1.toks) hm.keeps
  refine EX.exs ⟨D1, H1, cls, k1', R2, ⟨e, rfl, R1.unk_new hm.new, hcls, C', _, _, .ref t, ?_, ht, rfl, rfl, rfl, .inl rfl⟩, hz⟩
  unfold clsAt
  rw [← gl.g.eq_nsMap]; exact cf.bound
end
end Mini

end
section
set_option autoImplicit false
set_option linter.unusedVariables false
set_option linter.unusedSectionVars false
set_option linter.unusedSimpArgs false
set_option maxRecDepth 100000
namespace Mini
open PySem PySem.SeqAt

section
variable {c : Cx} {A : Around} {D O : OM} {F : FM} {H : MH} {s : Shared}
theorem countP_map {α β : Type} (f : α → β) (p : β → Bool) : ∀ l : List α, (l.map f).countP p = l.countP fun x => p (f x)
  | [] => rfl
  | a :: l => by rw [List.map_cons, List.countP_cons, List.countP_cons, countP_map f p l]
theorem count_snd {y : Addr} {vx : V} {x : Value} {r : Res} (M : Room A) (R : Rel c D O F H s) (hx : VR D x vx) (h : primOp .count H [.ref y, vx] = some r) : W c A (call (.builtin "list.count") [.ref y, x]) (Fin c D O F H r) s := by
  have h' : (match H y with
    | some (.list vs) => (match toD lineD H vx, mapO (toD lineD H) vs with
      | some d, some ds => some (Res.val (.int (ds.countP fun y => PyData.eqv y d)))
      | _, _ => none)
    | _ => none) = some r := h
  split at h'
  case h_2 => cases h'
  rename_i vs e
  split at h'
  case h_2 => cases h'
  rename_i d ds e1 e2
  cases h'
  obtain ⟨⟨as, r1⟩, c1, p1⟩ := reads_of _ R hx e1
  obtain ⟨cs, n, v1, g, hl⟩ := R.listAt e
  obtain ⟨⟨bs, r2⟩, c2, p2⟩ := readsAll_of _ R _ _ _ v1 e2
  have hu : A.units + 1 + min (PyData.depthAll ds) d.depth < cLine := by have := M.u; unfold lineD at p1; (first | lia | omega)
  have hm := readsAll_map ds cs bs c2 r2
  refine call_meets PySem.F.slot_list_count ⟨_, g, rfl⟩ PySem.F.entry_list_count (PySem.F.args_list_count_2 _ _) (list_countAt y cs.toArray n none #[] x (fun y => PyData.eqv (readOf s.heap y) d)) ⟨g, items_eqAt (vs := cs.toArray) (by simpa using r2) r1 c2 c1 hu, ?_⟩
  have hc : cs.toArray.toList.countP (fun y => PyData.eqv (readOf s.heap y) d) = ds.countP fun y => PyData.eqv y d := by
    rw [← hm, countP_map]
  rw [hc]
  exact .valT (.int _ _) R
end
end Mini

end
section
set_option autoImplicit false
set_option linter.unusedVariables false
set_option linter.unusedSectionVars false
set_option maxRecDepth 100000
namespace Mini
open PySem

section
variable {c : Cx} {mg : Str → Option Value} {G : List String} {A : Around} {C : CallSem} {K : Kn}
theorem clsD_of (gl : Gl c mg G) {D O : OM} {F : FM} {H : MH} {s : Shared} (R : Rel c D O F H s) {cls : String} {C' : Addr} : clsD D cls C' ↔ mg (nm cls) = some (.ref C') := by
  obtain ⟨o, es, ep, ho, hd, _, hm⟩ := id gl.g
  have hD := R.base _ _ ho
  constructor
  · rintro ⟨o', es', ep', h1, h2, h3⟩
    rw [hD] at h1; cases h1
    rw [hd] at h2; cases h2
    rw [← hm]; exact h3
  · intro h
    exact ⟨o, es, ep, hD, hd, by rw [hm]; exact h⟩
theorem isx_snd (gl : Gl c mg G) {D O : OM} {F : FM} {H : MH} {s : Shared} (R : Rel c D O F H s) {cv : Value} {cls cls' : String} {v : Value} (hv : VR D cv (.exc cls)) (hn : clsNames.contains cls = true) (hn' : (clsNames.contains cls' || cls' == "ValueError") = true) (hb : (cls' = "ValueError" ∧ v = .type "ValueError") ∨ (clsNames.contains cls' = true ∧ mg (nm cls') = some v)) :
    W c A (call (.builtin "isinstance") [cv, v]) (Fin c D O F H (.val (.bool (exSub cls cls')))) s := by
  have kp : ∀ b o, c.s0.heap.get? b = some o → s.heap.get? b = some o := fun b o e => R.dat _ _ (R.base _ _ e)
  obtain ⟨a, o, C', rfl, h1, h2, h3⟩ : ∃ a o C', cv = .ref a ∧ D a = some o ∧ o.cls = .ref C' ∧ clsD D cls C' := by
    cases hv with
    | exc _ a b d => exact ⟨_, _, _, rfl, a, b, d⟩
  rw [clsD_of gl R] at h3
  obtain ⟨C1, bm, cf⟩ := gl.mods cls (by simpa using hn)
  obtain rfl : C1 = C' := by have := cf.bound; rw [h3] at this; injection this with this; injection this with this; exact this.symm
  obtain ⟨N', n, q, bs, hdct, sn, sub, ab, col, dd, k0, k1, k2, k3, k5, mN, hC, hN, hni, T'⟩ := cf.obj
  rcases hb with ⟨rfl, rfl⟩ | ⟨hc', hv'⟩
  · have e : exSub cls "ValueError" = true := by unfold exSub; simp
    rw [e]
    exact isi_VE (kp _ _ hC) (T'.keeps kp) (R.dat _ _ h1) h2 ⟨D, .refl D, .bool true, R⟩
  · obtain ⟨C2, bm2, cf2⟩ := gl.mods cls' (by simpa using hc')
    obtain rfl : v = .ref C2 := by have := cf2.bound; rw [hv'] at this; injection this
    obtain ⟨N2, n2, q2, bs2, hdct2, sn2, sub2, ab2, col2, dd2, j0, j1, j2, j3, j5, mN2, hC2, hN2, hni2, T2⟩ := cf2.obj
    rw [← cf.rel cls' (by simpa using hc') C2 cf2.bound]
    exact isi_own (kp _ _ hC) (hN.keeps kp) hni (T'.keeps kp) (kp _ _ hC2) (R.dat _ _ h1) h2 fun t' => ⟨D, .refl D, .bool _, R.toks t'⟩
theorem boot_int' : bootBuiltins (nm "int") = some (.type "int") := by decide +kernel
theorem boot_VE : bootBuiltins (nm "ValueError") = some (.type "ValueError") := by decide +kernel
theorem sndH (gl : Gl c mg G) (M : Room A) (hC : MonoC C) {x : X} {e : Expr} (t : TrH K x e) : SndE c A C K x e := by
  induction t with
  | bool => exact snd_bool
  | int => exact snd_int
  | str h => exact snd_str h
  | var h1 h2 h3 h4 => exact snd_var h1 h2 h3 h4
  | add _ _ a b =>
    exact true_of_eval (fun env ρ D O F H s Q Z hF hK fs R h => wpAny_BinOp (eval2 a.1 b.1 hF hK fs R h fun av bv s2 D2 va vb H2 k v1 v2 R2 z => by
      obtain ⟨r, e, f⟩ := z
      exact (add_snd R2 v1 v2 e).post f k)) fun _ _ => rfl
  | not _ a => exact snd_not hC a
  | eq hr _ _ a b =>
    refine true_cmp hr fun env ρ D O F H s Q Z hF hK fs R h => eval2 a.1 b.1 hF hK fs R h fun av bv s2 D2 va vb H2 k v1 v2 R2 z => ?_
    obtain ⟨r, e, f⟩ := z
    obtain ⟨y, e1, rfl⟩ := Option.map_eq_some_iff.mp (e : (eqOp H2 va vb).map (fun b => Res.val (.bool b)) = some r)
    exact (eq_snd R2 M v1 v2 e1).post f k
  | one _ a => exact snd_one a
  | and _ _ a b => exact snd_and a b
  | or _ _ a b => exact snd_or a b
  | toInt hg ho _ a =>
    refine true_of_eval (fun env ρ D O F H s Q Z hF hK fs R w => ?_) fun _ _ => rfl
    refine wpAny_Call_Name_kw (glo_name gl hF (by rw [hK]; exact hg) (by decide) boot_int' (by decide +kernel) R ?_)
    rw [okE.star ho]
    refine callWith_fv (.inr ⟨_, rfl⟩) rfl (Calls.spliced_cons (eval1 a.1 hF hK fs R w fun av s1 D1 va H1 k v1 R1 z => Calls.spliced_nil ?_))
    obtain ⟨r, e, f⟩ := z
    cases va <;> try (cases e; done)
    cases e
    exact (toInt_snd R1 v1).post f k
  | @isx cls a0 e0 p p' p'' hg hg2 hn ho _ a =>
    refine true_of_eval (fun env ρ D O F H s Q Z hF hK fs R w => ?_) fun _ _ => rfl
    refine wpAny_Call_Name_kw (glo_name gl hF (by rw [hK]; exact hg) (by decide) boot_isi (by decide +kernel) R ?_)
    rw [okE.star ho]
    refine callWith_fv (.inl ⟨_, rfl⟩) rfl (Calls.spliced_cons (eval1 a.1 hF hK fs R w fun av s1 D1 va H1 k v1 R1 z => ?_))
    show WE c A (spliced [(false, eval (.Name (nm cls) p'') env)]) _ _ _
    obtain ⟨r, e, f⟩ := z
    cases va <;> try (cases e; done)
    rename_i c0
    cases e
    have hn0 : clsNames.contains c0 = true := by
      cases v1 with
      | exc n _ _ _ => exact n
    by_cases hc : clsNames.contains cls = true
    · obtain ⟨C2, bm2, cf2⟩ := gl.mods cls (by simpa using hc)
      refine Calls.spliced_cons (fn_name gl hF (by rw [hK]; exact hg2) cf2.bound R1 (Calls.spliced_nil ?_))
      exact (isx_snd gl R1 v1 hn0 hn (.inr ⟨hc, cf2.bound⟩)).post f k
    · have hc2 : cls = "ValueError" := by
        rw [Bool.or_eq_true] at hn
        exact beq_iff_eq.mp (hn.resolve_left hc)
      subst hc2
      refine Calls.spliced_cons (glo_name gl hF (by rw [hK]; exact hg2) (by decide) boot_VE (by decide +kernel) R1 (Calls.spliced_nil ?_))
      exact (isx_snd gl R1 v1 hn0 hn (.inl ⟨rfl, rfl⟩)).post f k
  | list3 o1 o2 o3 _ _ _ a b d => exact snd_list (spl_cons o1 a (spl_cons o2 b (spl_cons o3 d spl_nil)))
  | count hl oo oe _ _ ha hb =>
    refine true_of_eval (fun env ρ D O F H s Q Z hF hK fs R w => ?_) fun _ _ => rfl
    refine Call_method1 (okE.base oo _ _ _) (okE.star oe _ _) hl ?_
    refine wpAny_mono (ha.1 env ρ D O F H s _ Z hF hK fs R w) (fun ov s1 p1 => ?_) fun _ _ e => e
    obtain ⟨D1, vo, H1, k1, v1, R1, q1, q2⟩ := p1
    cases vo <;> (try (cases q1; done))
    rename_i y
    simp only [methT] at q1
    split at q1
    case h_2 => cases q1
    rename_i us e1
    obtain rfl := v1.ref_inv
    obtain ⟨cs, n, v2, g, _⟩ := R1.listAt e1
    refine ⟨"list", "list.count", PySem.F.plainAttrs_list, PySem.F.slot_list_count, PySem.F.type_list_count, ⟨_, g, rfl⟩, fun a e => by cases e; exact ⟨_, g, rfl⟩, Calls.callWith_builtin rfl (Calls.evalArgs_plain (Calls.spliced_cons ?_))⟩
    refine wpAny_mono (eval1 hb.1 hF hK (fs.mono k1) R1 q2 (P := fun bv s2 => WE c A (call (.builtin "list.count") (.ref y :: [bv])) (Post c D O F Q) (EX c D O F Z) s2) fun bv s2 D2 vb H2 k2 v2 R2 z => ?_) (fun _ _ h => Calls.spliced_nil h) fun _ _ e => e.mono k1
    obtain ⟨r, e, f⟩ := z
    exact (count_snd M R2 v2 e).post f (k1.trans k2)
end
end Mini

end
section
set_option autoImplicit false
set_option linter.unusedVariables false
set_option linter.unusedSectionVars false
set_option maxRecDepth 100000
namespace Mini
open PySem

section
variable {c : Cx} {mg : Str → Option Value} {G : List String} {A : Around} {C : CallSem} {K : Kn}

theorem st_asgI (pf : PF c A) {a b d : X} {o i e : Expr} {p p' : Pos} (t : TrE G K d e) (ha : SndE c A C K a o) (hb : SndE c A C K b i) (hd : SndE c A C K d e) : StmtOK c A C K (.asgI a b d) (.Assign [.Subscript o i p'] e p) :=
  fun env ρ D O F H s N T Z hF hK ap fs R w => by
    refine wpAny_Assign_Subscript ?_ (swaps_sub e o i p' p.line env)
    have w' : wpE C d ρ (fun v H1 => wpE C a ρ (fun ov H2 => wpE C b ρ (fun iv H3 => ∃ r, setOp H3 ov iv v = some r ∧ fin (fun _ H4 => N ρ H4) H3 r) Z H2) Z H1) Z H := w
    refine wpAny_mono (hd.1 env ρ D O F H s _ Z hF hK fs R w') (fun dv s1 p1 => ?_) fun _ _ e => e.exs
    obtain ⟨D1, vd, H1, k1, v1, R1, q1⟩ := p1
    refine wpAny_mono (ha.1 env ρ D1 O F H1 s1 _ Z hF hK (fs.mono k1) R1 q1) (fun av s2 p2 => ?_) fun _ _ e => e.exs' k1
    obtain ⟨D2, va, H2, k2, v2, R2, q2⟩ := p2
    refine wpAny_mono (hb.1 env ρ D2 O F H2 s2 _ Z hF hK (fs.mono (k1.trans k2)) R2 q2) (fun bv s3 p3 => ?_) fun _ _ e => e.exs' (k1.trans k2)
    obtain ⟨D3, vb, H3, k3, v3, R3, r, e, f⟩ := p3
    refine (pf.si e (v2.mono k3) v3 (v1.mono (k2.trans k3)) R3).then fun _ s4 h4 => ?_
    obtain ⟨D4, _, H4, k4, _, R4, q4⟩ := h4.post f
    have k5 := ((k1.trans k2).trans k3).trans k4
    exact ⟨D4, O, F, H4, k5, .refl .., R4, ρ, fs.mono k5, q4⟩

theorem st_asg_use (gl : Gl c mg G) (M : AOK A) {te src it elt : Expr} {ifs : List Expr} {sc : Scope} {p p' pp : Pos} {sk : SK} {a x : X} {y : String} {tgt : List String} {isT : Bool} {st : Env → List V → (List V → MH → Prop) → MH → Prop}
    (hk : stoK (K.lookup (nm y)) = true)
    (hsrc : SrcTr K sk src it) (ho : okE src = true) (ha : EvalOK c A C K a src) (hs : ScOK K sc) (tt : TgtTr (relabelK K sc.names) tgt isT te) (ht : scTgt (relabelK K sc.names) tgt = true)
    (hb : ∀ env L, FOK env → env.scope.names = K → BodyOK c A (cEnv sc L env) ifs elt st)
    (hx : ∀ ρ Q Z H, wpE C x ρ Q Z H → wpE C a ρ (fun sv H1 => ∃ vs w, srcItems sk H1 sv = some (vs, w) ∧ iterC (watch w) (fun v acc k H2 => ∃ ρ1, bindT isT tgt v ρ = some ρ1 ∧ st ρ1 acc k H2) vs [] (doneC Q) H1) Z H)
    {env : PySem.Env} {ρ : Env} {D O : OM} {F : FM} {H : MH} {s : Shared} {N : Env → MH → Prop} {T : V → MH → Prop} {Z : Z0}
    (hF : FOK env) (hK : env.scope.names = K) (ap : Apart env) (fs : FS env D O F ρ) (R : Rel c D O F H s) (w : wpS C (.asg y x) ρ N T Z H)
    (hsw : swapsWith (.ListComp elt [⟨te, it, ifs, 0⟩] sc p) (some (.Name (nm y) p')) pp.line env = pure true) :
    WE c A (exec (.Assign [.Name (nm y) p'] (.ListComp elt [⟨te, it, ifs, 0⟩] sc p) pp) env) (SPost c env D O F N T) (EXS c env D O F Z) s := by
  rw [exec_Assign_Name_used _ _ _ _ hsw]
  refine wpAny_bind (wpAny_standAt (wpAny_bind ?_))
  show wpAny _ A (do let _ ← comprehension (.ListComp elt [⟨te, it, ifs, 0⟩] sc p) sc env _ (newList []) false (eval it env) (some (assign (.Name (nm y) p') env))) _ _ s
  refine wpAny_bind (wpAny_mono (comp_core (Qf := fun _ s' => SPost c env D O F N T .next s') (use := some (assign (.Name (nm y) p') env)) gl M hsrc ho ha hF hK hs tt ht fs R (fun L => hb env L hF hK) (hx ρ (fun v H' => N (upd ρ y v) H') Z H w)
    fun D' H' us L acc cs n m s' k R' v d e1 e2 e3 e4 => ?_) (fun _ s' hq => wpAny_pure (wpAny_pure hq)) fun _ _ e => e.exs)
  obtain ⟨z1, z2⟩ := R'.o2h (tk := s'.toks) e1 (Heap.SameBut.refl ..) (R'.oth _ _ (oput_same ..)).1 (.list ⟨n, rfl⟩ v d.1)
  have hlL : env.locals ≠ L := fun e => by
    obtain ⟨m0, hm0, _⟩ := fs.fr
    rw [e, e2] at hm0; cases hm0
  have fs1 : FS env D' O (fput F L m) ρ := by
    have f1 := fs.mono k
    obtain ⟨m0, hm0, hr⟩ := f1.fr
    exact ⟨⟨m0, by rw [fput_ne hlL]; exact hm0, hr⟩, f1.ce, f1.own, f1.cel⟩
  show WE c A (assign (.Name (nm y) p') env (.ref acc)) _ _ s'
  refine wpAny_assign_Name (store_snd hF fs1 z2 (.ref acc) (sto_kind hK hk) (fun _ => ap) fun O' F' s1 out _ fs2 R2 => ?_)
  have hF'L : F' L = some m := by rw [out.f L (Ne.symm hlL), fput_same]
  let F2 : FM := fun a => if a = L then none else F' a
  have hF2 : F' = fput F2 L m := by
    funext a
    by_cases e : a = L
    · subst e; rw [fput_same, hF'L]
    · rw [fput_ne e]; simp [F2, e]
  rw [hF2] at R2 fs2
  have hO'L : O' L = none := out.oc L e3
  refine ⟨m, (R2.frm L m (fput_same ..)).1, fun h' hsb => ?_⟩
  have hfrs : Frs c F2 := fun e he => by
    obtain ⟨h1, L', h2, h3⟩ := R.frs e he
    have hne : L' ≠ L := fun q => by rw [q, e2] at h3; cases h3
    refine ⟨h1, L', h2, ?_⟩
    show (if L' = L then none else F' L').isSome = true
    rw [if_neg hne]
    by_cases q : L' = env.locals
    · obtain ⟨m0, hm0, _⟩ := fs2.fr
      rw [fput_ne hlL] at hm0
      have hm1 : F2 env.locals = some m0 := hm0
      simp only [F2, if_neg hlL] at hm1
      rw [q, hm1]; rfl
    · rw [out.f L' q, fput_ne hne]; exact h3
  have R3 : Rel c D' O' F2 (hupd H' acc (.list us)) { s1 with heap := h' } := R2.dropF (tk := s1.toks) (by simp [F2]) hO'L hsb hfrs
  refine ⟨D', O', F2, _, k, ⟨fun b hb => ?_, out.o, out.oc, fun b hb => ?_⟩, R3, upd ρ y (.ref acc), ⟨?_, fs2.ce, fs2.own, fs2.cel⟩, d.2 _ z1⟩
  · by_cases e : b = L
    · subst e; simp [F2, e2]
    · simp only [F2, if_neg e]; rw [out.f b hb, fput_ne e]
  · by_cases e : b = L
    · subst e; simp [F2]
    · simp only [F2, if_neg e]; exact out.fc b (by rw [fput_ne e]; exact hb)
  · obtain ⟨m0, hm0, hr⟩ := fs2.fr
    exact ⟨m0, by rw [fput_ne hlL] at hm0; exact hm0, hr⟩

theorem st_asg (gl : Gl c mg G) (M : AOK A) (pf : PF c A) (hC : MonoC C) (hc : CallOK c mg A C) {x : String} {a : X} {e : Expr} {p p' : Pos} (hk : stoK (K.lookup (nm x)) = true) (t : TrC G K a e) : StmtOK c A C K (.asg x a) (.Assign [.Name (nm x) p'] e p) :=
  fun env ρ D O F H s N T Z hF hK ap fs R w => by
    have ha := (sndE gl M pf hC hc (.lc t)).1
    cases t
    case comp x' tgt isT sk a' elt te src it sc p2 t1 h1 h2 h3 h4 t2 =>
        have hb : ∃ b, swapsWith (.ListComp elt [⟨te, it, [], 0⟩] sc p2) (some (.Name (nm x) p')) p.line env = pure b := ⟨_, rfl⟩
        obtain ⟨b, hb⟩ := hb
        cases b with
        | false => exact st_asg_plain hk ha hF hK ap.1 fs R w hb
        | true => exact st_asg_use gl M hk h1 (sndE2 gl M pf hC hc t1).1 (sndE gl M pf hC hc t1).1 (scOK.prop h2) h3 h4 (fun env L hF hK => body_comp (cEnv_FOK hF (scOK.prop h2)) (cEnv_names hF hK) (sndE gl M pf hC hc t2).1) (fun ρ Q Z H w => w) hF hK ap.1 fs R w hb
    case compIf x' tgt isT sk a' y elt te src it cond sc p2 t1 h1 h2 h3 h4 t2 t3 =>
        have hb : ∃ b, swapsWith (.ListComp elt [⟨te, it, [cond], 0⟩] sc p2) (some (.Name (nm x) p')) p.line env = pure b := ⟨_, rfl⟩
        obtain ⟨b, hb⟩ := hb
        cases b with
        | false => exact st_asg_plain hk ha hF hK ap.1 fs R w hb
        | true => exact st_asg_use gl M hk h1 (sndE2 gl M pf hC hc t1).1 (sndE gl M pf hC hc t1).1 (scOK.prop h2) h3 h4 (fun env L hF hK => body_compIf (cEnv_FOK hF (scOK.prop h2)) (cEnv_names hF hK) (sndE gl M pf hC hc t2).1 (sndE gl M pf hC hc t3).2) (fun ρ Q Z H w => w) hF hK ap.1 fs R w hb

end
end Mini

end
section
set_option autoImplicit false
set_option linter.unusedVariables false
set_option linter.unusedSectionVars false
set_option maxRecDepth 100000
namespace Mini
open PySem

section
variable {c : Cx} {mg : Str → Option Value} {G : List String} {A : Around} {C : CallSem} {K : Kn}
theorem bl_H (gl : Gl c mg G) (M : Room A) (hC : MonoC C) {xs : List S} {sts : List Stmt} (t : TrHs K xs sts) : BlockOK c A C K xs sts := by
  induction t with
  | nil => exact bl_nil
  | asg h1 h2 t _ ih => exact bl_cons (fun env ρ D O F H s N T Z hF hK ap fs R w => st_asg_plain h1 (sndH gl M hC t).1 hF hK ap.1 fs R w (not_comp_swaps h2 _ _ _)) ih
  | ret t _ ih => exact bl_cons (st_ret (sndH gl M hC t)) ih
theorem bl_B (se : ∀ {x : X} {e : Expr}, TrE G K x e → SndE c A C K x e) {xs : List S} {sts : List Stmt} (t : TrBs G K xs sts) : ∀ (env : PySem.Env) (ρ : Env) (D O : OM) (F : FM) (H : MH) (s : Shared) (N : Env → MH → Prop) (T : V → MH → Prop) (Z : Z0),
    FOK env → env.scope.names = K → FS env D O F ρ → Rel c D O F H s → wpSs C xs ρ N T Z H → WE c A (execs sts env) (fun fl s' => fl = .next ∧ ∃ D' H', OLe D D' ∧ Rel c D' O F H' s' ∧ N ρ H') (EX c D O F Z) s := by
  induction t with
  | nil => intro env ρ D O F H s N T Z hF hK fs R w; exact wpAny_execs_nil ⟨rfl, D, H, .refl D, R, w⟩
  | @ex a e p xs sts hn t _ ih =>
    intro env ρ D O F H s N T Z hF hK fs R w
    refine wpAny_execs_cons ?_
    have w' : wpE C a ρ (fun v H' => isPlain v = true ∧ wpSs C xs ρ N T Z H') Z H := w
    refine wpAny_Expr ?_ (by unfold interactive; rw [hF.kind]; rfl) (not_comp_swaps hn _ _ _)
    refine wpAny_mono ((se t).1 env ρ D O F H s _ Z hF hK fs R w') (fun cv s1 p1 => ?_) fun _ _ e => e
    obtain ⟨D1, v, H1, k1, v1, R1, q0, q1⟩ := p1
    have fin : WE c A (execs sts env) (fun fl s' => fl = .next ∧ ∃ D' H', OLe D D' ∧ Rel c D' O F H' s' ∧ N ρ H') (EX c D O F Z) s1 :=
      wpAny_mono (ih env ρ D1 O F H1 s1 N T Z hF hK (fs.mono k1) R1 q1) (fun fl s2 h2 => let ⟨e, D2, H2, k2, R2, q2⟩ := h2; ⟨e, D2, H2, k1.trans k2, R2, q2⟩) fun _ _ e => e.mono k1
    cases v1 <;> first | exact fin | cases q0
  | @ifs a t u e t' u' p xs sts te _ _ _ it iu ih =>
    intro env ρ D O F H s N T Z hF hK fs R w
    refine wpAny_execs_cons ?_
    have w' : wpE C a ρ (asB fun b H' => (b = true → wpSs C t ρ (fun ρ' H' => wpSs C xs ρ' N T Z H') T Z H') ∧ (b = false → wpSs C u ρ (fun ρ' H' => wpSs C xs ρ' N T Z H') T Z H')) Z H := w
    refine wpAny_If ?_
    refine wpAny_mono ((se te).2 env ρ D O F H s _ Z hF hK fs R w') (fun b s1 p1 => ?_) fun _ _ e => e
    obtain ⟨D1, H1, k1, R1, q1, q2⟩ := p1
    have rest : ∀ (fl : Flow) (s2 : Shared), (fl = .next ∧ ∃ D' H', OLe D1 D' ∧ Rel c D' O F H' s2 ∧ wpSs C xs ρ N T Z H') → match fl with | .next => WE c A (execs sts env) (fun fl s' => fl = .next ∧ ∃ D' H', OLe D D' ∧ Rel c D' O F H' s' ∧ N ρ H') (EX c D O F Z) s2 | f => (fun fl s' => fl = .next ∧ ∃ D' H', OLe D D' ∧ Rel c D' O F H' s' ∧ N ρ H') f s2 := fun fl s2 h2 => by
      obtain ⟨rfl, D2, H2, k2, R2, z2⟩ := h2
      have k := k1.trans k2
      exact wpAny_mono (ih env ρ D2 O F H2 s2 N T Z hF hK (fs.mono k) R2 z2) (fun fl s3 h3 => let ⟨e, D3, H3, k3, R3, q3⟩ := h3; ⟨e, D3, H3, k.trans k3, R3, q3⟩) fun _ _ e => e.mono k
    cases b with
    | true => exact wpAny_mono (it env ρ D1 O F H1 s1 _ T Z hF hK (fs.mono k1) R1 (q1 rfl)) (fun fl s2 h2 => rest fl s2 h2) fun _ _ e => e.mono k1
    | false => exact wpAny_mono (iu env ρ D1 O F H1 s1 _ T Z hF hK (fs.mono k1) R1 (q2 rfl)) (fun fl s2 h2 => rest fl s2 h2) fun _ _ e => e.mono k1
theorem goes_snd {env : PySem.Env} {D O : OM} {F : FM} {H : MH} {s : Shared} {x : String} {pos : Pos} {m : Str → Option Value} {Q : Unit → Shared → Prop} {E : Value → Shared → Prop} (hF : FOK env) (hk : env.kindOf (nm x) = some .local) (hL : F env.locals = some m) (R : Rel c D O F H s)
    (hQ : ∀ m' s', (∀ y, y ≠ nm x → m' y = m y) → Rel c D O (fput F env.locals m') H s' → Q () s') : WE c A (do bindName env (nm x) .none; unbindBehindTheSuite env (nm x) pos) Q E s := by
  have hp : (env.scope.kind == .class || (env.scope.kind == .module && env.locals != env.globals)) = false := by rw [hF.kind]; rfl
  refine wpAny_bind (wpAny_bindName (wpAny_storeName_local hk (R.frm _ _ hL).1 (fun h₁ hn₁ hs₁ => ?_) hp))
  unfold unbindBehindTheSuite
  refine wpAny_onRaise ?_
  unfold unbindName
  refine wpAny_bind (wpAny_point (wpAny_bind ?_))
  unfold deleteName
  simp only [hk, hp]
  rw [if_neg (by decide)]
  refine wpAny_bind (wpAny_nsDel_keeps hn₁ fun h₂ v₂ hn₂ hs₂ => ?_)
  simp only [if_true, Option.isSome_some, Bool.not_true, Bool.false_eq_true, if_false]
  refine wpAny_pure (wpAny_point (hQ _ _ (fun y hy => ?_) (R.setF (tk := s.toks + 1) hL (hs₁.trans hs₂) hn₂)))
  simp [hy]
end
end Mini

end
section
set_option autoImplicit false
set_option linter.unusedVariables false
set_option linter.unusedSectionVars false
set_option maxRecDepth 100000
namespace Mini
open PySem

section
variable {c : Cx} {mg : Str → Option Value} {G : List String} {A : Around} {C : CallSem} {K : Kn} {env : PySem.Env} {D O : OM} {F : FM} {H : MH} {s : Shared} {ρ : Env} {N : Env → MH → Prop} {T : V → MH → Prop} {Z : Z0} {Q : Flow → Shared → Prop} {E : Value → Shared → Prop}
theorem handle_one (gl : Gl c mg G) (hF : FOK env) {a : Addr} {cls ck : String} {p pos : Pos} {name : Option Str} {body : List Stmt} {rest : List ExceptHandler} (R : Rel c D O F H s) (x : ExcAt c D O F H a cls s.heap) (hn : clsNames.contains ck = true) (hg : gloK env.scope.names ck = true)
    (h1 : exSub cls ck = true → codeAny (model c.prog c.w) (A.mark (some (.ref a))) (.handlers (.ref a) [.ExceptHandler none name body pos] env) (fun r s₂ => match r with
          | .ok f => (match name with
            | none => Q f s₂
            | some n => wpAny (model c.prog c.w) A (do bindName env n .none; unbindBehindTheSuite env n pos) (fun _ s₃ => Q f s₃) E s₂)
          | .error x => cameBackBy (model c.prog c.w) A env E x s₂) s)
    (h2 : exSub cls ck = false → WE c A (handleBy (.ref a) env rest) Q E s) : WE c A (handleBy (.ref a) env (.ExceptHandler (some (.Name (nm ck) p)) name body pos :: rest)) Q E s := by
  have kp : ∀ b o, c.s0.heap.get? b = some o → s.heap.get? b = some o := fun b o e => R.dat _ _ (R.base _ _ e)
  obtain ⟨u, hnm, C', oe, vs, a0, hc, e1, e2, e3, e4, e5⟩ := x
  have hc' : mg (nm cls) = some (.ref C') := by rw [gl.g.eq_nsMap]; exact hc
  obtain ⟨C1, bm, cf⟩ := gl.mods cls (by simpa using hnm)
  obtain rfl : C1 = C' := by have := cf.bound; rw [hc'] at this; injection this with this; injection this with this; exact this.symm
  obtain ⟨C2, bm2, cf2⟩ := gl.mods ck (by simpa using hn)
  obtain ⟨N', n, q, bs, hdct, sn, sub, ab, col, dd, k0, k1, k2, k3, k5, mN, hC, hN, hni, T'⟩ := cf.obj
  obtain ⟨N2, n2, q2, bs2, hdct2, sn2, sub2, ab2, col2, dd2, j0, j1, j2, j3, j5, mN2, hC2, hN2, hni2, T2⟩ := cf2.obj
  have hrel := cf.rel ck (by simpa using hn) C2 cf2.bound
  refine wpAny_handleBy_cons (codeAny_handlers_test (fn_name (A := A.mark (some (.ref a))) gl hF hg cf2.bound R ?_)) (by intro q; cases q)
  obtain ⟨h, g, d, t, os⟩ := s
  refine exc_match (kp _ _ hC) (kp _ _ hC2) e1 e2 (T2.q.tail.hasType (X := "BaseException") (b := true) (by decide +kernel)) ?_
  rw [hrel]
  cases hb : exSub cls ck with
  | true => exact h1 hb
  | false => exact h2 hb
theorem suite_none {a : Addr} {cls : String} {pos : Pos} {hs : List S} {b0 : Stmt} {suite : List Stmt} (gl : Gl c mg G) (M : AOK A) (hC : MonoC C) (ht : TrHs K hs (b0 :: suite)) (hF : FOK env) (hK : env.scope.names = K) (ap : Ap c A env) (fs : FS env D O F ρ) (R : Rel c D O F H s) (x : ExcAt c D O F H a cls s.heap) (w : wpSs C hs ρ N T ZF H)
    (hQ : ∀ f s', SPost c env D O F N T f s' → Q f s') : codeAny (model c.prog c.w) (A.mark (some (.ref a))) (.handlers (.ref a) [.ExceptHandler none none (b0 :: suite) pos] env) (fun r s₂ => match r with
          | .ok f => Q f s₂
          | .error x => cameBackBy (model c.prog c.w) A env E x s₂) s := by
  refine codeAny_handlers_suite (flight_again (A := A.mark (some (.ref a))) R ⟨a, rfl, x⟩ fun h' R' x' => ?_)
  exact wpAny_mono (bl_H (A := A.mark (some (.ref a))) gl ⟨M.u, M.d⟩ hC ht env ρ D O F H _ N T ZF hF hK ap fs R' w) (fun f s2 p2 => hQ f s2 p2) fun _ _ e => e.no.elim
theorem suite_as {a : Addr} {cls y : String} {pos : Pos} {hs : List S} {b0 : Stmt} {suite : List Stmt} (gl : Gl c mg G) (M : AOK A) (hC : MonoC C) (hy : K.lookup (nm y) = some .local) (ht : TrHs K hs (b0 :: suite)) (hF : FOK env) (hK : env.scope.names = K) (ap : Ap c A env) (fs : FS env D O F ρ) (R : Rel c D O F H s) (x : ExcAt c D O F H a cls s.heap)
    (w : wpSs C hs (upd ρ y (.exc cls)) (fun ρ2 H2 => N (exFree (some y) ρ2) H2) T ZF H)
    (hQ : ∀ f s', SPost c env D O F N T f s' → Q f s') : codeAny (model c.prog c.w) (A.mark (some (.ref a))) (.handlers (.ref a) [.ExceptHandler none (some (nm y)) (b0 :: suite) pos] env) (fun r s₂ => match r with
          | .ok f => wpAny (model c.prog c.w) A (do bindName env (nm y) .none; unbindBehindTheSuite env (nm y) pos) (fun _ s₃ => Q f s₃) E s₂
          | .error x => cameBackBy (model c.prog c.w) A env E x s₂) s := by
  have hk : env.kindOf (nm y) = some .local := by rw [← hK] at hy; exact hy
  refine codeAny_handlers_suite_as (flight_again (A := A.mark (some (.ref a))) R ⟨a, rfl, x⟩ fun h' R' x' => ?_)
  obtain ⟨a', e', u, hnm, C', oe, vs, a0, hc, e1, e2, e3, e4, e5⟩ := x'
  cases e'
  have R2 : Rel c (oput D a oe) O F H { s with heap := h' } := R'.newD e1 u.1 u.2.1 u.2.2.1 u.2.2.2
  have kD : OLe D (oput D a oe) := OLe.put u.1
  have hc' : mg (nm cls) = some (.ref C') := by rw [gl.g.eq_nsMap]; exact hc
  refine store_snd (A := A.mark (some (.ref a))) hF (fs.mono kD) R2 (.exc hnm (oput_same ..) e2 ((clsD_of gl R2).mpr hc')) (.inl hk) (fun _ => ap.1) fun O' F' s' out hO fs' R3 => ?_
  refine wpAny_mono (bl_H (A := A.mark (some (.ref a))) gl ⟨M.u, M.d⟩ hC ht env _ _ O' F' H _ _ T ZF hF hK ap fs' R3 w) (fun f s2 p2 => ?_) fun _ _ e => e.no.elim
  obtain ⟨D4, O4, F4, H4, k4, out4, R4, q4⟩ := p2
  obtain ⟨hm, L, hL1, hL2⟩ := R4.frs env (by obtain ⟨_, _, outer, _, e⟩ := ap; rw [e]; exact .head _)
  rw [ap.2.1] at hL1
  cases hL1
  obtain ⟨m, hm4⟩ := Option.isSome_iff_exists.mp hL2
  refine goes_snd hF hk hm4 R4 fun m' s5 hm' R5 => hQ f s5 ?_
  have out5 : Out env O F O4 (fput F4 env.locals m') := by
    have o := out.trans out4
    refine ⟨fun b hb => by rw [fput_ne hb]; exact o.f b hb, o.o, o.oc, fun b hb => ?_⟩
    have hbl : b ≠ env.locals := fun z => by
      obtain ⟨m0, hm0, _⟩ := fs.fr
      rw [z, hm0] at hb; cases hb
    rw [fput_ne hbl]; exact o.fc b hb
  refine ⟨D4, O4, fput F4 env.locals m', H4, kD.trans k4, out5, R5, ?_⟩
  cases f with
  | next =>
    obtain ⟨ρ', fs4, q5⟩ := q4
    refine ⟨exFree (some y) ρ', ⟨⟨m', fput_same .., fun z v hz hkz h0 => ?_⟩, fun z v hz hkz => ?_, fs4.own, fs4.cel⟩, q5⟩
    · have hzy : z ≠ y := fun q => by simp [exFree, q] at hz
      have hz' : ρ' z = some v := by simpa [exFree, hzy] using hz
      obtain ⟨m0, hm0, hr⟩ := fs4.fr
      rw [hm4] at hm0; cases hm0
      obtain ⟨cv, g1, g2⟩ := hr z v hz' hkz h0
      exact ⟨cv, by rw [hm' _ fun q => hzy (nm_inj q)]; exact g1, g2⟩
    · have hzy : z ≠ y := fun q => by simp [exFree, q] at hz
      have hz' : ρ' z = some v := by simpa [exFree, hzy] using hz
      exact fs4.ce z v hz' hkz
  | ret cv => exact q4
  | brk => exact q4
  | cont => exact q4
theorem exSub_no {cls : String} (h : clsNames.contains cls = true) : exSub cls "" = false := by
  have : cls ∈ clsNames := by simpa using h
  simp only [clsNames, List.mem_cons, List.not_mem_nil, or_false] at this
  rcases this with rfl | rfl | rfl | rfl <;> decide
theorem st_try (M : AOK A) (se : ∀ {x : X} {e : Expr}, TrE G K x e → SndE c A C K x e) {body h1 h2 : List S} {c1 c2 : String} {as1 : Option String} {body' : List Stmt} {hd : ExceptHandler} {hs : List ExceptHandler} {pos : Pos} (tb : TrBs G K body body')
    (hh : ∀ (env : PySem.Env) (ρ : Env) (D O : OM) (F : FM) (H : MH) (s : Shared) (N : Env → MH → Prop) (T : V → MH → Prop) (a : Addr) (cls : String), FOK env → env.scope.names = K → Ap c A env → FS env D O F ρ → Rel c D O F H s → ExcAt c D O F H a cls s.heap →
      ((exSub cls c1 = true → wpSs C h1 (exBind as1 cls ρ) (fun ρ2 H2 => N (exFree as1 ρ2) H2) T ZF H) ∧ (exSub cls c1 = false → exSub cls c2 = true ∧ wpSs C h2 ρ N T ZF H)) → WE c A (handleBy (.ref a) env (hd :: hs)) (SPost c env D O F N T) (fun _ _ => False) s) :
    StmtOK c A C K (.tryS body c1 as1 h1 c2 h2) (.Try body' (hd :: hs) [] [] pos) := fun env ρ D O F H s N T Z hF hK ap fs R w => by
  refine wpAny_Try_except ?_
  have w' : wpSs C body ρ N T (fun c H' => (exSub c c1 = true → wpSs C h1 (exBind as1 c ρ) (fun ρ2 H2 => N (exFree as1 ρ2) H2) T ZF H') ∧ (exSub c c1 = false → exSub c c2 = true ∧ wpSs C h2 ρ N T ZF H')) H := w
  refine wpAny_mono (bl_B se tb env ρ D O F H s N T _ hF hK fs R w') (fun fl s1 p1 => ?_) fun e s1 p1 => ?_
  · obtain ⟨rfl, D1, H1, k1, R1, q1⟩ := p1
    exact wpAny_execs_nil ⟨D1, O, F, H1, k1, .refl .., R1, ρ, fs.mono k1, q1⟩
  · obtain ⟨D1, H1, cls, k1, R1, x1, z1⟩ := p1
    obtain ⟨_, _, outer, f1, f2⟩ := id ap
    refine note_flight f1 f2 R1 x1 fun h' R2 x2 => ?_
    obtain ⟨a, rfl, x3⟩ := x2
    exact wpAny_mono (hh env ρ D1 O F H1 _ N T a cls hF hK ap (fs.mono k1) R2 x3 z1) (fun f s2 p2 => p2.mono k1 (.refl ..)) fun _ _ f => f.elim
theorem st_try1 (gl : Gl c mg G) (M : AOK A) (hC : MonoC C) (se : ∀ {x : X} {e : Expr}, TrE G K x e → SndE c A C K x e) {body h1 : List S} {c1 : String} {as1 : Option String} {body' r1 : List Stmt} {b1 : Stmt} {p1 pos1 pos : Pos} (tb : TrBs G K body body') (hn : clsNames.contains c1 = true) (hg : gloK K c1 = true) (ha : asOK K as1 = true) (th : TrHs K h1 (b1 :: r1)) :
    StmtOK c A C K (.tryS body c1 as1 h1 "" []) (.Try body' [.ExceptHandler (some (.Name (nm c1) p1)) (as1.map nm) (b1 :: r1) pos1] [] [] pos) := by
  refine st_try M se tb fun env ρ D O F H s N T a cls hF hK ap fs R x w => ?_
  refine handle_one gl hF R x hn (by rw [hK]; exact hg) (fun hb => ?_) fun hb => ?_
  · cases as1 with
    | none => exact suite_none gl M hC th hF hK ap fs R x (w.1 hb) fun f s' p => p
    | some y => exact suite_as gl M hC (by simpa [asOK] using ha) th hF hK ap fs R x (w.1 hb) fun f s' p => p
  · have := (w.2 hb).1
    rw [exSub_no x.nam] at this; cases this
theorem st_try2 (gl : Gl c mg G) (M : AOK A) (hC : MonoC C) (se : ∀ {x : X} {e : Expr}, TrE G K x e → SndE c A C K x e) {body h1 h2 : List S} {c1 c2 : String} {body' r1 r2 : List Stmt} {b1 b2 : Stmt} {p1 pos1 p2 pos2 pos : Pos} (tb : TrBs G K body body') (hn : clsNames.contains c1 = true) (hg : gloK K c1 = true) (th : TrHs K h1 (b1 :: r1)) (hn2 : clsNames.contains c2 = true) (hg2 : gloK K c2 = true) (th2 : TrHs K h2 (b2 :: r2)) :
    StmtOK c A C K (.tryS body c1 none h1 c2 h2) (.Try body' [.ExceptHandler (some (.Name (nm c1) p1)) none (b1 :: r1) pos1, .ExceptHandler (some (.Name (nm c2) p2)) none (b2 :: r2) pos2] [] [] pos) := by
  refine st_try M se tb fun env ρ D O F H s N T a cls hF hK ap fs R x w => ?_
  refine handle_one gl hF R x hn (by rw [hK]; exact hg) (fun hb => suite_none gl M hC th hF hK ap fs R x (w.1 hb) fun f s' p => p) fun hb => ?_
  refine handle_one gl hF R x hn2 (by rw [hK]; exact hg2) (fun hb2 => suite_none gl M hC th2 hF hK ap fs R x (w.2 hb).2 fun f s' p => p) fun hb2 => ?_
  rw [(w.2 hb).1] at hb2; cases hb2
end
end Mini

end
section
set_option autoImplicit false
set_option linter.unusedVariables false
set_option linter.unusedSectionVars false
set_option maxRecDepth 100000
namespace Mini
open PySem

section
variable {c : Cx} {mg : Str → Option Value} {G : List String} {A : Around} {C : CallSem} {K : Kn}
theorem sndS (gl : Gl c mg G) (M : AOK A) (pf : PF c A) (hC : MonoC C) (hc : CallOK c mg A C) {K : Kn} {xs : List S} {sts : List Stmt} (t : TrSs G K xs sts) : BlockOK c A C K xs sts := by
  have se : ∀ {K : Kn} {x : X} {e : Expr}, TrE G K x e → SndE c A C K x e := fun t => sndE gl M pf hC hc t
  refine TrSs.rec (G := G) (motive_1 := fun x st _ => StmtOK c A C K x st) (motive_2 := fun xs sts _ => BlockOK c A C K xs sts) ?asg ?asgC ?asgT ?asgI ?ex ?ifs ?forr ?ret ?pass ?raise ?try1 ?try2 ?nil ?cons t
  case asg => intro _ _ _ _ _ h h2 t env ρ D O F H s N T Z hF hK ap fs R w; exact st_asg_plain h (se t).1 hF hK ap.1 fs R w (not_comp_swaps h2 _ _ _)
  case asgC => intro _ _ _ _ _ h t; exact st_asg gl M pf hC hc h t
  case asgT => intro _ _ _ _ _ _ _ h1 h2 t; exact st_asgT M h1 h2 t (se t)
  case asgI => intro _ _ _ _ _ _ _ _ t1 t2 t3; exact st_asgI pf t3 (se t1) (se t2) (se t3)
  case ex => intro _ _ _ h t; exact st_ex h t (se t)
  case ifs => intro _ _ _ _ _ _ _ t1 _ _ a b; exact st_ifs (se t1) a b
  case forr => intro _ _ _ _ _ _ _ _ _ _ t1 h1 h2 _ a; exact st_for gl M (sndE2 gl M pf hC hc t1).1 (se t1) h1 h2 a
  case ret => intro _ _ _ t1; exact st_ret (se t1)
  case pass => intros; exact st_pass
  case raise => intro _ _ _ _ _ _ _ h1 h2 h3; exact st_raise gl M h1 h2 h3
  case try1 => intro _ _ _ _ _ _ _ _ _ _ t h1 h2 h3 t2; exact st_try1 gl M hC se t h1 h2 h3 t2
  case try2 => intro _ _ _ _ _ _ _ _ _ _ _ _ _ _ _ t h1 h2 t2 h3 h4 t3; exact st_try2 gl M hC se t h1 h2 t2 h3 h4 t3
  case nil => exact bl_nil
  case cons => intro _ _ _ _ _ _ a b; exact bl_cons a b
end
end Mini

end
section
set_option autoImplicit false
set_option linter.unusedVariables false
set_option linter.unusedSectionVars false
set_option linter.unusedSimpArgs false
set_option maxRecDepth 100000
namespace Mini
open PySem

noncomputable def plainArgs (as : List Arg) : Arguments := { posonlyargs := [], args := as, vararg := none, kwonlyargs := [], kw_defaults := [], kwarg := none, defaults := [] }
theorem lookup_zip : ∀ (ns : List Str) (vs : List Value), vs.length = ns.length → ∀ n ∈ ns, ((ns.zip vs).lookup n).isSome = true
  | [], _, _, n, h => nomatch h
  | m :: ns, [], h, _, _ => by simp at h
  | m :: ns, v :: vs, h, n, hn => by
    rw [List.zip_cons_cons, List.lookup_cons]
    cases hb : n == m with
    | true => rfl
    | false =>
      rcases List.mem_cons.mp hn with e | hn
      · subst e; simp at hb
      · exact lookup_zip ns vs (by simpa using h) n hn
theorem fm_congr {α β : Type} {f g : α → Option β} : ∀ {l : List α}, (∀ a ∈ l, f a = g a) → l.filterMap f = l.filterMap g
  | [], _ => rfl
  | a :: l, h => by rw [List.filterMap_cons, List.filterMap_cons, h a (.head _), fm_congr fun b hb => h b (.tail _ hb)]
theorem zip_filterMap : ∀ (ns : List Str) (vs : List Value), ns.Nodup → vs.length = ns.length → ns.filterMap (fun n => ((ns.zip vs).lookup n).map (n, ·)) = ns.zip vs
  | [], [], _, _ => rfl
  | [], _ :: _, _, h => by simp at h
  | _ :: _, [], _, h => by simp at h
  | m :: ns, v :: vs, hn, h => by
    have hm : m ∉ ns := (List.nodup_cons.mp hn).1
    have ih := zip_filterMap ns vs (List.nodup_cons.mp hn).2 (by simpa using h)
    rw [List.filterMap_cons]
    have e1 : (((m :: ns).zip (v :: vs)).lookup m).map (m, ·) = some (m, v) := by simp [List.lookup_cons]
    rw [e1, List.zip_cons_cons]
    show (m, v) :: _ = (m, v) :: _
    congr 1
    refine Eq.trans ?_ ih
    refine fm_congr fun n hn' => ?_
    have : (n == m) = false := by simp; rintro rfl; exact hm hn'
    show Option.map _ (List.lookup n ((m, v) :: ns.zip vs)) = _
    rw [List.lookup_cons, this]
theorem bind_plain {fd : FuncData} {as : List Arg} {vals : List Value} (hp : fd.params = plainArgs as) (hd : fd.defaults = .none) (hn : (as.map (·.arg)).Nodup) (hl : vals.length = as.length) : bindArgs fd ⟨vals, []⟩ = pure ((as.map (·.arg)).zip vals) := by
  have hl' : vals.length = (as.map (·.arg)).length := by simpa using hl
  have e1 : seqItems? fd.defaults = pure none := by rw [hd]; rfl
  have e2 : ((as.map (·.arg)).filter fun n => (((as.map (·.arg)).zip vals).lookup n).isNone) = [] := by
    rw [List.filter_eq_nil_iff]
    intro n hm
    have := lookup_zip _ vals hl' n hm
    cases h : ((as.map (·.arg)).zip vals).lookup n with
    | none => rw [h] at this; cases this
    | some _ => simp
  unfold bindArgs
  simp only [hp, plainArgs, List.map_nil, List.nil_append, List.forIn_nil, pure_bind, e1, Option.getD_none, List.append_nil]
  simp only [hl', Nat.lt_irrefl, gt_iff_lt, decide_false, Bool.false_and, Bool.false_eq_true, if_false, Array.toList_empty, List.length_nil, Nat.zero_sub, List.drop_nil, Nat.sub_zero, List.take_length, e2, List.isEmpty_nil, Bool.not_true, List.zip_nil_right, List.forIn_nil, pure_bind]
  rw [zip_filterMap _ _ hn hl']

theorem cells_some {x : Str} : ∀ (names : List (Str × NameKind)) (n : Nat) (acc : List (Str × Addr)), names.lookup x = some .cell ∨ (acc.lookup x).isSome = true → ((cellsFrom n names acc).lookup x).isSome = true
  | [], _, _, h => h.elim (fun e => by cases e) id
  | (y, k) :: r, n, acc, h => by
    unfold cellsFrom
    by_cases hk : (k == .cell) = true
    · rw [if_pos hk]
      refine cells_some r (n + 1) ((y, n) :: acc) ?_
      by_cases hy : (x == y) = true
      · exact .inr (by rw [List.lookup_cons, hy]; rfl)
      · refine h.imp (fun e => ?_) fun e => ?_
        · rw [List.lookup_cons] at e; simpa only [hy] using e
        · rw [List.lookup_cons]; simpa only [hy] using e
    · rw [if_neg hk]
      refine cells_some r n acc ?_
      by_cases hy : (x == y) = true
      · refine .inr (h.elim (fun e => ?_) id)
        rw [List.lookup_cons, hy] at e
        exact absurd (by rw [Option.some.inj e]; rfl) hk
      · refine h.imp (fun e => ?_) id
        rw [List.lookup_cons] at e; simpa only [hy] using e

section
variable {D : OM} {kd : Str → Option NameKind}
theorem bindL_notin {x : Str} : ∀ (b : List (Str × Value)) (m : Str → Option Value), (∀ p ∈ b, p.1 ≠ x) → bindL kd b m x = m x
  | [], _, _ => rfl
  | (n, v) :: r, m, h => by
    unfold bindL
    rw [bindL_notin r _ fun p hp => h p (.tail _ hp)]
    split
    · exact if_neg fun (e : x = n) => h (n, v) (.head _) e.symm
    · rfl
theorem bindC_notin {x : Str} : ∀ (b : List (Str × Value)) (m : Str → Option Value), (∀ p ∈ b, p.1 ≠ x) → bindC kd b m x = m x
  | [], _, _ => rfl
  | (n, v) :: r, m, h => by
    unfold bindC
    rw [bindC_notin r _ fun p hp => h p (.tail _ hp)]
    split
    · rfl
    · exact if_neg fun (e : x = n) => h (n, v) (.head _) e.symm
theorem bind_get {x : String} {v : V} : ∀ (ps : List String) (cs : List Value) (vs : List V) (m : Str → Option Value), ps.Nodup → ps.length = vs.length → VRs D cs vs → (ps.zip vs).lookup x = some v →
    (kd (nm x) = some .local → ∃ cv, bindL kd ((ps.map nm).zip cs) m (nm x) = some cv ∧ VR D cv v) ∧ (kd (nm x) ≠ some .local → ∃ cv, bindC kd ((ps.map nm).zip cs) m (nm x) = some cv ∧ VR D cv v)
  | [], _, _, _, _, _, _, h => by cases h
  | _ :: _, _, [], _, _, h, _, _ => by simp at h
  | p :: ps, cs, u :: vs, m, hn, hl, hv, h => by
    obtain ⟨c, ds, rfl, h1, h2⟩ := hv.cons_inv
    have hm : p ∉ ps := (List.nodup_cons.mp hn).1
    have hni : ∀ q ∈ (ps.map nm).zip ds, q.1 ≠ nm p := fun q hq e => by
      obtain ⟨y, hy, e2⟩ := List.mem_map.mp (List.of_mem_zip hq).1
      exact hm (nm_inj (e2.trans e) ▸ hy)
    rw [List.zip_cons_cons, List.lookup_cons] at h
    cases hb : x == p with
    | true =>
      have e : x = p := by simpa using hb
      subst e
      rw [hb] at h
      cases h
      refine ⟨fun k => ⟨c, ?_, h1⟩, fun k => ⟨c, ?_, h1⟩⟩
      · show bindL kd ((nm x, c) :: (ps.map nm).zip ds) m (nm x) = some c
        unfold bindL
        rw [bindL_notin _ _ hni, if_pos k]; simp
      · show bindC kd ((nm x, c) :: (ps.map nm).zip ds) m (nm x) = some c
        unfold bindC
        rw [bindC_notin _ _ hni, if_neg k]; simp
    | false =>
      rw [hb] at h
      obtain ⟨i1, i2⟩ := bind_get ps ds vs (if kd (nm p) = some .local then fun y => if y = nm p then some c else m y else m) (List.nodup_cons.mp hn).2 (by simpa using hl) h2 h
      obtain ⟨j1, j2⟩ := bind_get ps ds vs (if kd (nm p) = some .local then m else fun y => if y = nm p then some c else m y) (List.nodup_cons.mp hn).2 (by simpa using hl) h2 h
      exact ⟨i1, j2⟩
end

structure FnTr (G : List String) (ps : List String) (body : List S) (params : Arguments) (stmts : List Stmt) (scope : Scope) : Prop where
  par : ∃ as, params = plainArgs as ∧ as.map (·.arg) = ps.map nm
  nod : ps.Nodup
  kin : (ps.all fun p => scope.names.lookup (nm p) == some .local || scope.names.lookup (nm p) == some .cell) = true
  nof : (scope.names.all fun y => y.2 != .free) = true
  kind : scope.kind = .function
  co : scope.isCoroutine = false
  ge : scope.isGenerator = false
  tr : TrSs G scope.names body stmts
noncomputable def TabOK (c : Cx) (mg : Str → Option Value) (G : List String) (tab : Tab) : Prop := ∀ f ps body, tab.lookup f = some (ps, body) → ∃ a o params stmts scope pm code doc, mg (nm f) = some (.ref a) ∧ c.s0.heap.get? a = some o ∧
  o.data = .func (PySem.Calls.docDef (nm f) params stmts scope pm code doc) ∧ c.s0.heap.CodeRec code (nm f) ∧ FnTr G ps body params stmts scope

structure AR (A : Around) (n : Nat) : Prop where
  h : A.handled = none
  u : A.units + 3 * n + 200 < cLine
  d : A.depth + n < recursionLimit
theorem AR.ok {A : Around} {n : Nat} (h : AR A n) : AOK A := ⟨h.h, by have := h.u; (first | lia | omega), by have := h.d; (first | lia | omega)⟩

section
variable {c : Cx} {mg : Str → Option Value} {G : List String}

theorem Rel.fresh' {D O : OM} {F : FM} {H : MH} {s : Shared} (R : Rel c D O F H s) {a : Addr} (h : s.heap.objs.size ≤ a) : D a = none ∧ O a = none ∧ F a = none ∧ H a = none := by
  have hn : s.heap.get? a = none := by
    cases q : s.heap.get? a with
    | none => rfl
    | some o => exact absurd (Heap.lt_size q) (Nat.not_lt.mpr h)
  refine ⟨?_, ?_, ?_, ?_⟩
  · cases q : D a with
    | none => rfl
    | some o => have := R.dat _ _ q; rw [hn] at this; cases this
  · cases q : O a with
    | none => rfl
    | some o => have := (R.oth _ _ q).1; rw [hn] at this; cases this
  · cases q : F a with
    | none => rfl
    | some o => obtain ⟨⟨_, _, _, e, _⟩, _⟩ := R.frm _ _ q; rw [hn] at e; cases e
  · cases q : H a with
    | none => rfl
    | some o => obtain ⟨_, _, e, _⟩ := R.own _ _ q; rw [hn] at e; cases e

open Classical in
noncomputable def cellO (env : PySem.Env) (O : OM) (s : Shared) : OM := fun a => if ∃ n, env.cells.lookup n = some a then s.heap.get? a else O a

theorem Gl.at (gl : Gl c mg G) (l : List PySem.Env) : Gl (c.at l) mg G := ⟨gl.g, gl.b, gl.bl, gl.nolimit, gl.mods, gl.fn⟩
theorem call_code (gl : Gl c mg G) (hpf : ∀ l A, AOK A → PF (c.at l) A) {C : CallSem} (hC : MonoC C) {A : Around} (hst : A.frames = some c.fr) (hc : ∀ env, CallOK (c.at (env :: c.fr)) mg (A.deeper env) C) (hA : ∀ env, AOK (A.deeper env)) (hroom : A.depth < recursionLimit)
    {f : String} {ps : List String} {body : List S} {a : Addr} {o : Obj} {params : Arguments} {stmts : List Stmt} {scope : Scope} {pm code doc : Value} (ho : c.s0.heap.get? a = some o) (hd : o.data = .func (PySem.Calls.docDef (nm f) params stmts scope pm code doc)) (hcd : c.s0.heap.CodeRec code (nm f)) (t : FnTr G ps body params stmts scope)
    {D O : OM} {F : FM} {H : MH} {s : Shared} {cs : List Value} {vs : List V} {Q : V → MH → Prop} {Z : Z0} (hl : ps.length = vs.length) (w : wpSs C body (bindE ps vs) (fun _ H' => Q .none H') Q Z H) (hv : VRs D cs vs) (R : Rel c D O F H s) :
    codeAny (model c.prog c.w) A (.call (.ref a) ⟨cs, []⟩) (fun r s' => match r with | .ok (.ret v) => Post c D O F Q v s' | .ok _ => False | .error e => EX c D O F Z e s') s := by
  obtain ⟨as, rfl, has⟩ := t.par
  have kp : ∀ b o, c.s0.heap.get? b = some o → s.heap.get? b = some o := fun b o e => R.dat _ _ (R.base _ _ e)
  have hb : bindArgs (PySem.Calls.docDef (nm f) (plainArgs as) stmts scope pm code doc) ⟨cs, []⟩ = pure ((ps.map nm).zip cs) := by
    rw [← has]
    refine bind_plain rfl rfl ?_ (by rw [hv.1, ← hl]; have := congrArg List.length has; simpa using this.symm)
    rw [has]
    exact List.pairwise_map.mpr (t.nod.imp fun h e => h (nm_inj e))
  have hkin : ∀ x ∈ (ps.map nm).zip cs, scope.names.lookup x.1 = some .local ∨ scope.names.lookup x.1 = some .cell := fun x hx => by
    obtain ⟨y, hy, e⟩ := List.mem_map.mp (List.of_mem_zip hx).1
    have := List.all_eq_true.mp t.kin y hy
    rw [← e]
    simpa using this
  refine (codeAny_call_cells hroom (kp _ _ ho) hd (gl.nolimit.keeps kp) (hcd.keeps kp) rfl hb rfl (fun x hx => (hkin x hx).imp id fun e => ⟨e, cells_some _ _ _ (.inl e)⟩) ?_ t.co t.ge t.kind)
  intro s1 ic
  generalize he : callEnvC (PySem.Calls.docDef (nm f) (plainArgs as) stmts scope pm code doc) s.heap.objs.size a = env at ic ⊢
  have hF : FOK env := by subst he; exact ⟨t.kind, rfl, rfl⟩
  have hK : env.scope.names = scope.names := by subst he; rfl
  have hkd : ∀ n, env.kindOf n = scope.names.lookup n := fun n => by subst he; rfl
  have hcells : env.cells = cellsFrom (s.heap.objs.size + 1) scope.names [] := by subst he; rfl
  have hL : env.locals = s.heap.objs.size := by subst he; rfl
  obtain ⟨⟨⟨h', tk, hs1⟩, hns, hkeep, hfr⟩, hcell, hap, habove⟩ := ic
  have hcellv : ∀ {n : Str} {b : Addr}, env.cells.lookup n = some b → D b = none ∧ O b = none ∧ F b = none ∧ H b = none ∧ b ≠ env.locals := fun {n b} e => by
    have hgt := habove n b (mem_of_lookup e)
    obtain ⟨f1, f2, f3, f4⟩ := R.fresh' (a := b) (Nat.le_trans hfr (Nat.le_of_lt hgt))
    exact ⟨f1, f2, f3, f4, Nat.ne_of_gt hgt⟩
  obtain ⟨g1, g2, g3, g4⟩ := R.fresh' hfr
  let m0 := bindL env.kindOf ((ps.map nm).zip cs) fun _ => none
  have R1 : Rel c D O F H s1 := by
    subst hs1
    exact R.grow hkeep
  have R2 : Rel c D (cellO env O s1) (fput F env.locals m0) H s1 := by
    have R3 : Rel c D O (fput F env.locals m0) H s1 := R1.newF hns g1 g2 g4
    refine ⟨R3.base, R3.dat, fun b x q => ?_, R3.frm, R3.own, fun b hb => ?_, R3.gens, R3.os, R3.frs⟩
    unfold cellO at q
    split at q
    · rename_i hx
      obtain ⟨n, hn⟩ := hx
      obtain ⟨f1, f2, f3, f4, f5⟩ := hcellv hn
      exact ⟨q, f1, by rw [fput_ne f5]; exact f3, f4⟩
    · exact R3.oth b x q
    · rcases hb with hb | ⟨x, hb⟩
      · exact R3.lo b (.inl hb)
      · unfold cellO at hb
        split at hb
        · rename_i hx
          obtain ⟨n, hn⟩ := hx
          exact R.freshLo (Nat.le_trans hfr (Nat.le_of_lt (habove n b (mem_of_lookup hn))))
        · exact R3.lo b (.inr ⟨x, hb⟩)
  have hco : ∀ {n : Str} {b : Addr}, env.cells.lookup n = some b → cellO env O s1 b = s1.heap.get? b := fun {n b} e => by
    unfold cellO; rw [if_pos ⟨n, e⟩]
  have fs : FS env D (cellO env O s1) (fput F env.locals m0) (bindE ps vs) := by
    refine ⟨⟨m0, fput_same .., fun x v hx hk _ => ?_⟩, fun x v hx hk => ?_, fun n hk => ?_, fun n b e => ?_⟩
    · exact (bind_get (kd := env.kindOf) ps cs vs (fun _ => none) t.nod hl hv hx).1 hk
    · have hk' : env.kindOf (nm x) = some .cell := hk.resolve_right fun e => by
        rw [hkd] at e
        have := List.all_eq_true.mp t.nof _ (mem_of_lookup e)
        simp at this
      obtain ⟨cv, e1, e2⟩ := (bind_get (kd := env.kindOf) ps cs vs (fun _ => none) t.nod hl hv hx).2 (by rw [hk']; intro z; cases z)
      have hsm : (env.cells.lookup (nm x)).isSome = true := by rw [hcells]; exact cells_some _ _ _ (.inl (by rw [← hkd]; exact hk'))
      obtain ⟨b, hb'⟩ := Option.isSome_iff_exists.mp hsm
      obtain ⟨ob, ho1, ho2⟩ := hcell (nm x) b hb'
      exact ⟨b, ob, cv, hb', (hco hb').trans ho1, by rw [ho2, e1], e2⟩
    · have hk' : env.kindOf n = some .cell := hk.resolve_right fun e => by
        rw [hkd] at e
        have := List.all_eq_true.mp t.nof _ (mem_of_lookup e)
        simp at this
      have hsm : (env.cells.lookup n).isSome = true := by rw [hcells]; exact cells_some _ _ _ (.inl (by rw [← hkd]; exact hk'))
      obtain ⟨b, hb'⟩ := Option.isSome_iff_exists.mp hsm
      obtain ⟨ob, ho1, ho2⟩ := hcell n b hb'
      exact ⟨b, ob, _, hb', (hco hb').trans ho1, ho2⟩
    · obtain ⟨ob, ho1, ho2⟩ := hcell n b e
      exact ⟨ob, (hco e).trans ho1⟩
  have R2' : Rel (c.at (env :: c.fr)) D (cellO env O s1) (fput F env.locals m0) H s1 := R2.at fun e' he' => by
    rcases List.mem_cons.mp he' with rfl | he'
    · exact ⟨(by rw [hF.kind]; intro q; cases q), e'.locals, (by rw [← he]; rfl), (by rw [fput_same]; rfl)⟩
    · exact R2.frs e' he'
  have lO : ∀ {O2 : OM} {F2 : FM}, Out env (cellO env O s1) (fput F env.locals m0) O2 F2 → OLe O O2 := fun out b x e => by
    have hn : ∀ n, env.cells.lookup n ≠ some b := fun n z => by rw [(hcellv z).2.1] at e; cases e
    rw [out.o b hn]
    unfold cellO
    rw [if_neg fun z => hn _ z.choose_spec]; exact e
  have lF : ∀ {O2 : OM} {F2 : FM}, Out env (cellO env O s1) (fput F env.locals m0) O2 F2 → FLe F F2 := fun out b x e => by
    have hb' : b ≠ env.locals := fun z => by rw [z, g3] at e; cases e
    rw [out.f b hb', fput_ne hb']; exact e
  refine wpAny_mono (sndS (gl.at _) (hA env) (hpf _ _ (hA env)) hC (hc env) t.tr env (bindE ps vs) D _ _ H s1 _ Q Z hF hK ⟨hap, (by rw [← he]; rfl), c.fr, Around.frames_deeper hst, rfl⟩ fs R2' w) (fun fl s2 p2 => ?_) fun e s2 h2 => ?_
  · obtain ⟨D2, O2, F2, H2, k2, out, R3, q⟩ := p2
    have R4 : Rel c D2 O F H2 s2 := R3.back (lO out) (lF out) R.frs
    cases fl with
    | next =>
      obtain ⟨ρ', _, q⟩ := q
      exact ⟨D2, .none, H2, k2, .none, R4, q⟩
    | ret cv =>
      obtain ⟨v, v1, q⟩ := q
      exact ⟨D2, v, H2, k2, v1, R4, q⟩
    | brk => exact q.elim
    | cont => exact q.elim
  · obtain ⟨O2, F2, out, D2, H2, cls, k2, R3, x, z⟩ := h2
    unfold leaving
    refine wpAny_bind (note_flight (c := c.at (env :: c.fr)) (outer := c.fr) (Around.frames_deeper hst) rfl R3 x fun h'' R4 x4 => ?_)
    exact ⟨D2, H2, cls, k2, R4.back (lO out) (lF out) R.frs, (x4.sub (lO out) (lF out)).back, z⟩

theorem call_one (gl : Gl c mg G) (hpf : ∀ l A, AOK A → PF (c.at l) A) {C : CallSem} (hC : MonoC C) {A : Around} (hst : A.frames = some c.fr) (hc : ∀ env, CallOK (c.at (env :: c.fr)) mg (A.deeper env) C) (hA : ∀ env, AOK (A.deeper env)) (hroom : A.depth < recursionLimit)
    {f : String} {ps : List String} {body : List S} {a : Addr} {o : Obj} {params : Arguments} {stmts : List Stmt} {scope : Scope} {pm code doc : Value} (ho : c.s0.heap.get? a = some o) (hd : o.data = .func (PySem.Calls.docDef (nm f) params stmts scope pm code doc)) (hcd : c.s0.heap.CodeRec code (nm f)) (t : FnTr G ps body params stmts scope)
    {D O : OM} {F : FM} {H : MH} {s : Shared} {cs : List Value} {vs : List V} {Q : V → MH → Prop} {Z : Z0} (hl : ps.length = vs.length) (w : wpSs C body (bindE ps vs) (fun _ H' => Q .none H') Q Z H) (hv : VRs D cs vs) (R : Rel c D O F H s) :
    WE c A (call (.ref a) cs) (Post c D O F Q) (EX c D O F Z) s := wpAny_call (call_code gl hpf hC hst hc hA hroom ho hd hcd t hl w hv R)

theorem callN_ok (gl : Gl c mg G) (hpf : ∀ l A, AOK A → PF (c.at l) A) {tab : Tab} (ht : TabOK c mg G tab) : ∀ (n : Nat) (A : Around) (l : List PySem.Env), A.frames = some l → AR A n → CallOK (c.at l) mg A (CallN tab n)
  | 0, _, _, _, _ => fun f a D O F H s cs vs Q Z _ h => h.elim
  | n + 1, A, l, hst, hA => fun f a D O F H s cs vs Q Z hf h hv R => by
    obtain ⟨ps, body, e, hl, w⟩ := (h : ∃ ps body, tab.lookup f = some (ps, body) ∧ ps.length = vs.length ∧ wpSs (CallN tab n) body (bindE ps vs) (fun _ H' => Q .none H') Q Z H)
    obtain ⟨a', o, params, stmts, scope, pm, code, doc, h1, h2, h3, h4, t⟩ := ht f ps body e
    rw [h1] at hf
    cases hf
    have har : ∀ env, AR (A.deeper env) n := fun env => ⟨hA.h, by have := hA.u; show A.units + 3 + 3 * n + 200 < cLine; (first | lia | omega), by have := hA.d; show A.depth + 1 + n < recursionLimit; (first | lia | omega)⟩
    exact call_one (c := c.at l) (gl.at l) hpf (CallN_mono tab n) hst (fun env => callN_ok gl hpf ht n _ (env :: l) (Around.frames_deeper hst) (har env)) (fun env => (har env).ok) (by have := hA.d; (first | lia | omega)) h2 h3 h4 t hl w hv R
end
end Mini

end
section
set_option autoImplicit false
set_option linter.unusedVariables false
set_option linter.unusedSectionVars false
set_option linter.unusedSimpArgs false
set_option maxRecDepth 100000
namespace Mini
open PySem

section
variable {prog : Program} {w : World} {A : Around} {E : Value → Shared → Prop} {s : Shared}
set_option maxRecDepth 512 in
theorem setItem_plain {l : Addr} {cs : List Value} {n : Nat} {k : Int} {t : Tok} {v : Value} {Q : Unit → Shared → Prop} (g : s.heap.get? l = some (listObj cs n))
    (h0 : 0 ≤ k) (hfit : k < 2 ^ 63) (hn : k < cs.length)
    (hQ : ∀ h' n', h'.get? l = some (listObj (cs.set k.toNat v) n') → Heap.SameBut l s.heap h' → Q () { s with heap := h' }) :
    wpAny (model prog w) A (setItem (.ref l) (.int k t) v) Q E s := by
  have hl : s.heap.IsList l cs.toArray := ⟨_, g, rfl, n, rfl⟩
  have ho := g
  have hd : (listObj cs n).data = .seq cs.toArray n := rfl
  unfold setItem
  try with_reducible refine wpAny_holding ?_
  first | refine wpAny_bind (wpAny_pure ?_) | skip
  refine wpAny_bind (wpAny_sequenceKey hl.typeIs (by decide) ?_)
  refine wpAny_bind (wpAny_callSpecial?_slot (name := Str.ofString "__setitem__") hl.typeIs slot_list_setitem
    (wpAny_call_entry slot_list_setitem hl.typeIs entry_list_setitem ?_ (args_list_setitem _ _ _)))
  show wpAny _ _ (Builtin.List.listSubscript? (.int k t) >>= _) _ _ s
  refine wpAny_bind (wpAny_listSubscript_int (fitsIndex_of h0 hfit) ?_)
  clear hfit
  obtain ⟨j, rfl⟩ := Int.eq_ofNat_of_zero_le h0
  have hj : j < cs.length := by (first | lia | omega)
  have hx' : cs.toArray[j]? = some cs[j] := by simp [hj]
  show wpAny _ _ ((seqItemAt l j >>= fun r => pure (r.map (j, ·))) >>= _) _ _ s
  refine wpAny_bind (wpAny_bind (wpAny_seqItemAt ho hd (wpAny_pure ?_)))
  rw [hx']
  show wpAny _ _ (setSeqItemAt l j v >>= _) _ _ s
  obtain ⟨n', hd'⟩ := Obj.data_mapSeq hd (·.setIfInBounds j v)
  have hfin : (s.heap.update l (Obj.mapSeq (·.setIfInBounds j v))).get? l = some (listObj (cs.set j v) n') := by
    rw [Heap.get?_update_self _ ho (Obj.isFreed_of_seq hd')]
    congr 1
    have : Obj.mapSeq (·.setIfInBounds j v) (listObj cs n) = { (listObj cs n) with data := (Obj.mapSeq (·.setIfInBounds j v) (listObj cs n)).data } := rfl
    rw [this, hd']
    simp [listObj]
  refine wpAny_bind (wpAny_setSeqItemAt ho hd ?_)
  first
    | exact wpAny_bind (wpAny_pure (wpAny_pure ⟨.none, rfl, wpAny_pure (hQ _ n' hfin (Heap.SameBut.update ..))⟩))
    | exact wpAny_pure ⟨.none, rfl, wpAny_pure (hQ _ n' hfin (Heap.SameBut.update ..))⟩
end

section
variable {c : Cx} {mg : Str → Option Value} {G : List String} {A : Around} {D O : OM} {F : FM} {H : MH} {s : Shared}

theorem lim_size {n : Nat} (h : n ≤ lim) : n ≤ sizeLine := by rw [sizeLine_eq]; unfold lim at h; (first | lia | omega)

theorem repS_eq (x : Str) : ∀ n, (repS x n).cps = (List.replicate n x.cps).foldl (· ++ ·) #[] := by
  have gen : ∀ (l : List (Array Nat)) (a b : Array Nat), l.foldl (· ++ ·) (a ++ b) = a ++ l.foldl (· ++ ·) b := fun l => by
    induction l with
    | nil => intro a b; rfl
    | cons x l ih => intro a b; simp only [List.foldl_cons]; rw [Array.append_assoc, ih]
  intro n
  induction n with
  | zero => rfl
  | succ n ih =>
    show x.cps ++ (repS x n).cps = _
    rw [ih, List.replicate_succ, List.foldl_cons, Array.empty_append]
    have := gen (List.replicate n x.cps) x.cps #[]
    rw [Array.append_empty] at this
    exact this.symm
theorem repS_len (x : Str) (n : Nat) : (repS x n).length = n * x.length := by
  induction n with
  | zero => simp [repS, Str.length, Str.empty]
  | succ n ih => show (x ++ repS x n).length = _; rw [Str.length_append, ih, Nat.add_mul]; (first | lia | omega)

theorem mul_str_snd {a b : Value} {x : Str} {n : Int} (R : Rel c D O F H s) (ha : VR D a (.str x)) (hb : VR D b (.int n)) (hl : n.toNat * x.length ≤ lim) (hs : small n = true) : W c A (binaryOp .Mult a b) (Fin c D O F H (.val (.str (repS x n.toNat)))) s := by
  have hx := ha.str_len
  obtain ⟨t, rfl⟩ := ha.str_inv
  obtain ⟨u, rfl⟩ := hb.int_inv
  have hs' : n.natAbs < 1000000000000000000 := of_decide_eq_true hs
  have hlen := repS_len x n.toNat
  refine P.mul_str ?_ ?_ ?_ ?_
  · simp only [Bool.or_eq_false_iff, decide_eq_false_iff_not]; (first | lia | omega)
  · intro h1 h2 h3
    have : (x.length : Int) * n ≤ (lim : Int) := by
      have : ((n.toNat * x.length : Nat) : Int) ≤ (lim : Int) := by exact_mod_cast hl
      have e : ((n.toNat * x.length : Nat) : Int) = (x.length : Int) * n := by rw [Int.natCast_mul, Int.toNat_of_nonneg (by (first | lia | omega)), Int.mul_comm]
      (first | lia | omega)
    have h4 : (2 ^ 63 - 1) / n < (x.length : Int) := h3
    have h5 := (Int.ediv_lt_iff_lt_mul (a := (2 ^ 63 - 1 : Int)) (by (first | lia | omega) : 0 < n)).mp h4
    unfold lim at this
    (first | lia | omega)
  · intro h1 h2
    unfold Builtin.Str.tooLong
    rw [decide_eq_false_iff_not, sizeLine_eq]
    unfold lim at hl
    rw [Nat.mul_comm] at hl
    (first | lia | omega)
  · by_cases h1 : n < 1
    · rw [if_pos h1]
      have e : n.toNat = 0 := by (first | lia | omega)
      rw [e]
      exact ⟨by simp [Str.length, Str.empty], .valT (.str _ _ (by show 0 ≤ lim; exact Nat.zero_le _)) R⟩
    · rw [if_neg h1]
      split
      · rename_i h2
        rw [Bool.or_eq_true, beq_iff_eq, beq_iff_eq] at h2
        have e : repS x n.toNat = x := by
          rcases h2 with h2 | h2
          · subst h2; show x ++ repS x 0 = x; show x ++ Str.empty = x; exact Str.append_empty x
          · have h3 : (repS x n.toNat).length = 0 := by rw [hlen, h2]; simp
            have e1 : (repS x n.toNat).cps = #[] := Array.size_eq_zero_iff.mp h3
            have e2 : x.cps = #[] := Array.size_eq_zero_iff.mp h2
            have : ∀ y : Str, y.cps = #[] → y = ⟨#[]⟩ := fun y h => by cases y; simp at h; rw [h]
            rw [this _ e1, this _ e2]
        rw [e]
        exact .val (.str _ _ hx) R
      · have e : (⟨(List.replicate n.toNat x.cps).foldl (· ++ ·) #[]⟩ : Str) = repS x n.toNat := by rw [← repS_eq]
        rw [e]
        exact ⟨by rw [hlen]; exact lim_size hl, .valT (.str _ _ (by rw [hlen]; exact hl)) R⟩

theorem setItem_list_snd {l : Addr} {b : Value} {k : Int} {t : Tok} {v : V} {vs : List V} (R : Rel c D O F H s) (hb : VR D b v) (e : H l = some (.list vs)) (h0 : 0 ≤ k) (hk : k < vs.length) :
    W c A (setItem (.ref l) (.int k t) b) (fun _ s' => Rel c D O F (hupd H l (.list (vs.set k.toNat v))) s') s := by
  obtain ⟨cs, n, v1, g, hl⟩ := R.listAt e
  refine setItem_plain g h0 (by unfold lim at hl; (first | lia | omega)) (by rw [v1.1]; exact hk) fun h' n' g' hs => ?_
  exact R.setH (tk := s.toks) e hs g' (.list (cs := cs.set k.toNat b) ⟨n', rfl⟩ (v1.set hb) (by simpa using hl))
end
end Mini

end
section
set_option autoImplicit false
set_option linter.unusedVariables false
set_option linter.unusedSectionVars false
set_option linter.unusedSimpArgs false
set_option maxRecDepth 100000
namespace Mini
open PySem

section
variable {c : Cx} {mg : Str → Option Value} {G : List String} {A : Around} {D O : OM} {F : FM} {H : MH} {s : Shared}

theorem fin_newAt {cs : List Value} {vs : List V} {h' : Heap} {n tk : Nat} (R : Rel c D O F H s) (h : VRs D cs vs) (hl : vs.length ≤ lim) (k : ∀ b o, s.heap.get? b = some o → h'.get? b = some o) {a : Addr} (ha : s.heap.objs.size ≤ a) (e : h'.get? a = some (listObj cs n)) :
    Fin c D O F H (.new (.list vs)) (.ref a) { s with heap := h', toks := tk } := by
  obtain ⟨f1, f2, f3, f4⟩ := R.fresh' ha
  exact ⟨D, .refl D, _, rfl, f4, (R.grow (tk := tk) k).newH e f1 f2 f3 (.list ⟨n, rfl⟩ h hl) (R.freshLo ha)⟩
theorem signs_VR {x : Str} {acc : Array Value} (h : ItemsOf (SignAt x) acc x.cps.size) : VRs D acc.toList (chars x) := by
  refine ⟨by simp [chars, h.1], fun i a b => ?_⟩
  have hi : i < acc.size := by simpa using a
  obtain ⟨cc, u, e1, e2⟩ := h.2 i acc[i] (Array.getElem?_eq_getElem hi)
  have hx : i < x.cps.size := by rw [← h.1]; exact hi
  have e3 : x.cps[i] = cc := by rw [Array.getElem?_eq_getElem hx] at e1; exact Option.some.inj e1
  have e4 : acc.toList[i] = acc[i] := by simp
  rw [e4, e2]
  have e5 : (chars x)[i] = .str ⟨#[cc]⟩ := by simp [chars, e3]
  rw [e5]
  exact .str _ _ (by show 1 ≤ lim; decide)

inductive SeqAt' (c : Cx) (D : OM) (s : Shared) (cv : Value) (vs : List V) : Prop
  | list (a : Addr) (cs : List Value) (n : Nat) : cv = .ref a → s.heap.get? a = some (listObj cs n) → VRs D cs vs → vs.length ≤ lim → SeqAt' c D s cv vs
  | tup (a : Addr) (cs : List Value) (n : Nat) : cv = .ref a → s.heap.get? a = some (tupObj cs n) → VRs D cs vs → vs.length ≤ lim → SeqAt' c D s cv vs
theorem seqAt_of {cv : Value} {v : V} {vs : List V} (R : Rel c D O F H s) (hv : VR D cv v) (h : items H v = some vs) : SeqAt' c D s cv vs := by
  cases v <;> simp only [items] at h <;> (try (cases h; done))
  case tup us => cases h; obtain ⟨a, cs, n, e, d, v1, l⟩ := hv.tup_inv; exact .tup a cs n e (R.dat _ _ d) v1 l
  case fl us => cases h; obtain ⟨a, cs, n, e, d, v1, l⟩ := hv.fl_inv; exact .list a cs n e (R.dat _ _ d) v1 l
  case ref a =>
    split at h
    · rename_i us e; cases h
      obtain ⟨cs, n, v1, g, l⟩ := R.listAt e
      exact .list a cs n hv.ref_inv g v1 l
    · cases h

theorem tupleOf_snd {a : Value} {va : V} {r : Res} (M : AOK A) (R : Rel c D O F H s) (ha : VR D a va) (h : primOp .tupleOf H [va] = some r) : W c A (call (.type "tuple") [a]) (Fin c D O F H r) s := by
  have fin : ∀ {h' : Heap} {tk : Nat} {cs : List Value} {vs : List V} {arr : Array Value}, arr = cs.toArray → VRs D cs vs → vs.length ≤ lim → (∀ b o, s.heap.get? b = some o → h'.get? b = some o) →
      Fin c D O F H (.val (.tup vs)) (.ref h'.objs.size) { s with heap := h'.push { cls := .type "tuple", data := .seq arr }, toks := tk } := fun {h' tk cs vs arr} e v l k =>
    fin_newTup (s := { s with heap := h', toks := tk }) (R.grow k) v l e
  have lst : ∀ {x : Addr} {cs : List Value} {n : Nat} {vs : List V}, a = .ref x → s.heap.get? x = some (listObj cs n) → VRs D cs vs → vs.length ≤ lim → valT vs = some r → W c A (call (.type "tuple") [a]) (Fin c D O F H r) s := fun {x cs n vs} e g v1 l h => by
    unfold valT at h
    rw [if_pos l] at h
    cases h
    subst e
    refine call_tuple_list ⟨_, g, rfl, n, rfl⟩ (fun h' k => ?_) (by rw [List.size_toArray, v1.1]; exact lim_size l)
    exact fin (tk := s.toks) rfl v1 l k
  cases va <;> (try (cases h; done))
  case str x =>
    have h' : valT (chars x) = some r := h
    unfold valT at h'
    split at h'
    case isFalse => cases h'
    rename_i hl
    cases h'
    have hx := ha.str_len
    obtain ⟨t, rfl⟩ := ha.str_inv
    refine call_tuple_str M.h x t (fun h' tk acc k hi => ?_) (lim_size hx)
    exact fin (cs := acc.toList) (by simp) (signs_VR hi) hl k
  case tup us =>
    have h' : valT us = some r := h
    unfold valT at h'
    split at h'
    case isFalse => cases h'
    cases h'
    have ha' := ha
    obtain ⟨x, cs, n, rfl, d, v1, l⟩ := ha.tup_inv
    exact call_tuple_same ⟨_, R.dat _ _ d, rfl, n, rfl⟩ (.val ha' R)
  case fl us =>
    obtain ⟨x, cs, n, e, d, v1, l⟩ := ha.fl_inv
    exact lst e (R.dat _ _ d) v1 l h
  case ref x =>
    have h' : (items H (.ref x)).bind valT = some r := h
    obtain ⟨vs, e, h2⟩ := Option.bind_eq_some_iff.mp h'
    simp only [items] at e
    split at e
    · rename_i us e1; cases e
      obtain ⟨cs, n, v1, g, l⟩ := R.listAt e1
      exact lst ha.ref_inv g v1 l h2
    · cases e

theorem mapO_consI {α β : Type} {f : α → Option β} {a : α} {l : List α} {r : List β} (h : mapO f (a :: l) = some r) : ∃ b t, f a = some b ∧ mapO f l = some t ∧ r = b :: t := by
  unfold mapO at h
  split at h
  · rename_i b t e1 e2; cases h; exact ⟨b, t, e1, e2, rfl⟩
  · cases h
theorem ints_inv : ∀ {vs : List V} {is : List Int}, ints? vs = some is → vs = is.map .int
  | [], is, h => by cases h; rfl
  | v :: vs, is, h => by
    obtain ⟨b, t, e1, e2, rfl⟩ := mapO_consI h
    have := ints_inv (vs := vs) (is := t) e2
    cases v <;> simp at e1
    rw [this, e1]; rfl
theorem bools_inv : ∀ {vs : List V} {is : List Bool}, bools? vs = some is → vs = is.map .bool
  | [], is, h => by cases h; rfl
  | v :: vs, is, h => by
    obtain ⟨b, t, e1, e2, rfl⟩ := mapO_consI h
    have := bools_inv (vs := vs) (is := t) e2
    cases v <;> simp at e1
    rw [this, e1]; rfl
theorem strs_inv : ∀ {vs : List V} {is : List Str}, strs? vs = some is → vs = is.map .str
  | [], is, h => by cases h; rfl
  | v :: vs, is, h => by
    obtain ⟨b, t, e1, e2, rfl⟩ := mapO_consI h
    have := strs_inv (vs := vs) (is := t) e2
    cases v <;> simp at e1
    rw [this, e1]; rfl

theorem intsAre_of : ∀ {is : List Int} {cs : List Value}, VRs D cs (is.map .int) → PyProof.Rows.IntsAre cs is
  | [], cs, h => by obtain rfl := h.nil_inv; exact .nil
  | i :: is, cs, h => by
    obtain ⟨cv, ds, rfl, h1, h2⟩ := h.cons_inv
    obtain ⟨t, rfl⟩ := h1.int_inv
    exact .cons i t (intsAre_of h2)
theorem VRs_of_ints : ∀ {is : List Int} {cs : List Value}, PyProof.Rows.IntsAre cs is → VRs D cs (is.map .int)
  | _, _, .nil => .nil
  | _, _, .cons n t h => .cons (.int n t) (VRs_of_ints h)

end
end Mini

end
section
set_option autoImplicit false
set_option linter.unusedVariables false
set_option linter.unusedSectionVars false
set_option linter.unusedSimpArgs false
set_option maxRecDepth 100000
namespace Mini
open PySem

section
variable {c : Cx} {mg : Str → Option Value} {G : List String} {A : Around} {D O : OM} {F : FM} {H : MH} {s : Shared}

theorem toks_of {is : List Int} {cs : List Value} (h : VRs D cs (is.map .int)) : ∃ xs : Array (Int × Tok), cs.toArray = intItems xs ∧ xs.size = is.length ∧ ∀ j (hj : j < is.length), numAt xs j = is[j] := by
  induction is generalizing cs with
  | nil => obtain rfl := h.nil_inv; exact ⟨#[], by simp [intItems], rfl, fun j hj => nomatch hj⟩
  | cons i is ih =>
    obtain ⟨cv, ds, rfl, h1, h2⟩ := h.cons_inv
    obtain ⟨t, rfl⟩ := h1.int_inv
    obtain ⟨xs, e1, e2, e3⟩ := ih h2
    refine ⟨#[(i, t)] ++ xs, ?_, by simp [e2]; (first | lia | omega), fun j hj => ?_⟩
    · have : (Value.int i t :: ds).toArray = #[Value.int i t] ++ ds.toArray := by simp
      rw [this, e1]; simp [intItems]
    · cases j with
      | zero => simp [numAt, Array.getElem?_append]
      | succ j =>
        have := e3 j (by simpa using hj)
        simp only [List.getElem_cons_succ]
        rw [← this]
        simp [numAt, Array.getElem?_append_right]

theorem range_any (bs : List Bool) : (List.range bs.length).any (fun i => bs.getD i false) = bs.any id := by
  rw [Bool.eq_iff_iff, List.any_eq_true, List.any_eq_true]
  constructor
  · rintro ⟨i, hi, h⟩
    have hi' : i < bs.length := by simpa using hi
    exact ⟨bs[i], List.getElem_mem _, by simpa [List.getD, hi'] using h⟩
  · rintro ⟨b, hb, h⟩
    obtain ⟨i, hi, rfl⟩ := List.mem_iff_getElem.mp hb
    exact ⟨i, by simpa using hi, by simpa [List.getD, hi] using h⟩
theorem walk_bools {x : Value} {bs : List Bool} {E : Value → Shared → Prop} {P : Value → Shared → Prop} (M : AOK A) (R : Rel c D O F H s) (q : SeqAt' c D s x (bs.map .bool))
    (h : ∀ I fp wr Pp St s2, Walks c.prog c.w A.in1 I fp wr bs.length Pp St → St 0 s2.heap → TruthOf c.prog c.w A.in1 Pp (fun i => bs.getD i false) → (∀ h' tk, (∀ b o, b ∉ wr → s2.heap.get? b = some o → h'.get? b = some o) → Rel c D O F H { s2 with heap := h', toks := tk }) → P (.ref I) s2) :
    wpAny (model c.prog c.w) A.in1 (pyIter x) P E s := by
  have tru : ∀ {cs : List Value}, VRs D cs (bs.map .bool) → TruthOf c.prog c.w A.in1 (fun i v => cs.toArray[i]? = some v) (fun i => bs.getD i false) := fun {cs} v1 i v s Q E hv hQ => by
    have hv' : cs[i]? = some v := by simpa using hv
    obtain ⟨hi, rfl⟩ := List.getElem?_eq_some_iff.mp hv'
    have hi' : i < bs.length := by have := v1.1; simp at this; (first | lia | omega)
    have := v1.2 i hi (by simpa using hi')
    have e : (bs.map V.bool)[i]'(by simpa using hi') = .bool bs[i] := by simp
    rw [e] at this
    rw [this.bool_inv]
    refine wpAny_truthy_bool ?_
    simpa [List.getD, hi'] using hQ
  obtain ⟨f1, f2, f3, f4⟩ := R.fresh
  have keep : ∀ {o : Obj} (h' : Heap) (tk : Nat), (∀ b o', b ∉ [s.heap.objs.size] → (s.heap.push o).get? b = some o' → h'.get? b = some o') → Rel c D O F H { s with heap := h', toks := tk } := fun {o} h' tk k =>
    R.grow fun b o' e => k b o' (by simp; exact Nat.ne_of_lt (Heap.lt_size e)) (Heap.get?_push_of_some _ e)
  cases q with
  | list a cs n e g v1 l =>
    subst e
    have hT : s.heap.IsList a cs.toArray := ⟨_, g, rfl, n, rfl⟩
    refine wpAny_pyIter_list hT ?_
    have hne : a ≠ s.heap.objs.size := Nat.ne_of_lt (Heap.lt_size g)
    have hW := Walks.list (prog := c.prog) (w := c.w) (A := A.in1) M.h s.heap.objs.size a hne cs.toArray
    have hsz : cs.toArray.size = bs.length := by rw [List.size_toArray, v1.1]; simp
    rw [hsz] at hW
    exact h _ _ _ _ _ _ hW ⟨⟨_, Heap.get?_push_size _ rfl, rfl, rfl⟩, hT.push _⟩ (tru v1) fun h' tk k => keep h' tk k
  | tup a cs n e g v1 l =>
    subst e
    have hT : s.heap.IsTuple a cs.toArray := ⟨_, g, rfl, n, rfl⟩
    refine wpAny_pyIter_tuple hT ?_
    have hne : a ≠ s.heap.objs.size := Nat.ne_of_lt (Heap.lt_size g)
    have hW := Walks.tuple (prog := c.prog) (w := c.w) (A := A.in1) M.h s.heap.objs.size a hne cs.toArray
    have hsz : cs.toArray.size = bs.length := by rw [List.size_toArray, v1.1]; simp
    rw [hsz] at hW
    exact h _ _ _ _ _ _ hW ⟨⟨_, Heap.get?_push_size _ rfl, rfl, rfl⟩, hT.push _⟩ (tru v1) fun h' tk k => keep h' tk k

end
end Mini

end
section
set_option autoImplicit false
set_option linter.unusedVariables false
set_option linter.unusedSectionVars false
set_option linter.unusedSimpArgs false
set_option maxRecDepth 100000
namespace Mini
open PySem PySem.Builtin.Str

theorem join_len {sep : Str} (h : sep.length = 0) : ∀ (ss : List Str) (n : Nat), ss.foldl (fun a (x : Str) => a + x.length + sep.length) n = n + (Str.join sep ss).length
  | [], n => by simp [Str.join, Str.length, Str.empty]
  | [x], n => by simp [Str.join, h]
  | x :: y :: r, n => by
    rw [List.foldl_cons, join_len h (y :: r)]
    show _ = n + (x ++ sep ++ Str.join sep (y :: r)).length
    rw [Str.length_append, Str.length_append, h]; (first | lia | omega)

section
variable {c : Cx} {mg : Str → Option Value} {G : List String} {A : Around} {D O : OM} {F : FM} {H : MH} {s : Shared}

theorem strs_of {ss : List Str} {cs : List Value} (h : VRs D cs (ss.map .str)) : ∃ l : List (Str × Tok), cs = strValues l ∧ l.map (·.1) = ss := by
  induction ss generalizing cs with
  | nil => obtain rfl := h.nil_inv; exact ⟨[], rfl, rfl⟩
  | cons i is ih =>
    obtain ⟨cv, ds, rfl, h1, h2⟩ := h.cons_inv
    obtain ⟨t, rfl⟩ := h1.str_inv
    obtain ⟨l, rfl, e⟩ := ih h2
    exact ⟨(i, t) :: l, rfl, by simp [e]⟩

theorem join_snd {a b : Value} {va vb : V} {r : Res} (R : Rel c D O F H s) (ha : VR D a va) (hb : VR D b vb) (h : primOp .join H [va, vb] = some r) : W c A (call (.builtin "str.join") [a, b]) (Fin c D O F H r) s := by
  cases va <;> (try (cases h; done))
  cases vb <;> (try (cases h; done))
  rename_i sep x
  obtain rfl := hb.ref_inv
  obtain ⟨t, rfl⟩ := ha.str_inv
  have h' : (match (items H (.ref x)).bind strs? with
    | some ss => if sep.length = 0 then valS (Str.join sep ss) else none
    | none => none) = some r := h
  split at h'
  case h_2 => cases h'
  rename_i ss e
  split at h'
  case isFalse => cases h'
  rename_i h0
  unfold valS at h'
  split at h'
  case isFalse => cases h'
  rename_i hl
  cases h'
  obtain ⟨vs, e1, e2⟩ := Option.bind_eq_some_iff.mp e
  simp only [items] at e1
  split at e1
  case h_2 => cases e1
  rename_i us e3
  cases e1
  obtain rfl := strs_inv e2
  obtain ⟨cs, n, v1, g, l⟩ := R.listAt e3
  obtain ⟨ps, rfl, rfl⟩ := strs_of v1
  have hsz : Builtin.Str.tooLong ((ps.map (·.1)).toArray.foldl (· + ·.length + sep.length) 0) = false := by
    have e4 : (ps.map (·.1)).toArray.foldl (· + ·.length + sep.length) 0 = 0 + (Str.join sep (ps.map (·.1))).length := by
      rw [List.foldl_toArray]; exact join_len h0 _ 0
    rw [e4, Nat.zero_add]
    unfold Builtin.Str.tooLong
    rw [decide_eq_false_iff_not]
    have := lim_size hl
    (first | lia | omega)
  refine call_meets PySem.F.slot_str_join (typeIs_str s sep t) PySem.F.entry_str_join (PySem.F.args_str_join_2 _ _) (meets_str_join_list sep t x ps hsz) ⟨⟨_, g, rfl, n, rfl⟩, ?_⟩
  have fin : ∀ u tk, Fin c D O F H (.val (.str (Str.join sep (ps.map (·.1))))) (.str (Str.join sep (ps.map (·.1))) u) { s with toks := tk } := fun u tk => .valT (.str _ _ hl) R
  have gl : glued sep (ps.map (·.1)) = Str.join sep (ps.map (·.1)) := StrLaws.glued_eq_join sep _
  unfold joinMade
  split
  · rename_i p
    exact fin _ s.toks
  · refine ⟨by rw [gl]; exact lim_size hl, ?_⟩
    rw [gl]
    exact fin _ _

theorem cutTo_pick {cs : List Value} {k : Int} : slicePick cs.toArray none (some k) none = (cs.take (cutTo cs.length k)).toArray := by
  unfold cutTo
  by_cases h : 0 ≤ k
  · obtain ⟨j, rfl⟩ := Int.eq_ofNat_of_zero_le h
    rw [if_pos h]
    have := slicePick_upto' cs.toArray j
    simpa using this
  · rw [if_neg h]
    have e : k = -((-k).toNat : Int) := by (first | lia | omega)
    have := slicePick_butLast cs.toArray (-k).toNat (by (first | lia | omega))
    rw [← e] at this
    rw [this]
    congr 2
    simp; (first | lia | omega)

theorem slice_list_snd {value : Expr} {l u : Option Expr} {p : Pos} {x : Addr} {cs : List Value} {n : Nat} {vl vu : Value} {lo hi : Option Int} {ws : List V} (R : Rel c D O F H s) (g : s.heap.get? x = some (listObj cs n)) (hl : cs.length ≤ lim) (pl : IsPart vl lo) (pu : IsPart vu hi)
    {ds : List Value} (hp : slicePick cs.toArray lo hi none = ds.toArray) (hv : VRs D ds ws) (hw : ws.length ≤ lim) :
    W c A (PyProof.Rows.subscriptTail value (.Slice l u none p) (.ref x) (.ref s.heap.objs.size)) (Fin c D O F H (.new (.list ws))) { s with heap := s.heap.push { cls := .type "slice", data := .fields #[vl, vu, .none] } } := by
  have hL : (s.heap.push { cls := .type "slice", data := .fields #[vl, vu, .none] }).IsList x cs.toArray := ⟨_, Heap.get?_push_of_some _ g, rfl, n, rfl⟩
  refine PyProof.Rows.tail_any (ops := [.ref s.heap.objs.size, .ref x]) (T := "list") (s := { s with heap := s.heap.push { cls := .type "slice", data := .fields #[vl, vu, .none] } }) ⟨_, Heap.get?_push_of_some _ g, rfl⟩ slot_list_getitem.lookup ?_ (by with_unfolding_all rfl)
  refine wpAny_getItem_list_slice hL (Heap.IsSliceOf.new ..) pl pu .none (by simp) ?_ (by rw [List.size_toArray]; exact lim_size hl)
  exact fin_newList (s := { s with heap := s.heap.push { cls := .type "slice", data := .fields #[vl, vu, .none] } }) (tk := s.toks) (R.grow (tk := s.toks) fun b o e => Heap.get?_push_of_some _ e) hv hw hp

theorem sl_snd {q : Prim} {value : Expr} {l u : Option Expr} {p : Pos} {o vl vu : Value} {vo vi : V} {r : Res} (h : primOp q H [vo, vi] = some r) (hq : q = .sliceTo ∧ vl = .none ∧ VR D vu vi ∨ q = .sliceFrom ∧ VR D vl vi ∧ vu = .none) (ho : VR D o vo) (R : Rel c D O F H s) :
    W c A (PyProof.Rows.subscriptTail value (.Slice l u none p) o (.ref s.heap.objs.size)) (Fin c D O F H r) { s with heap := s.heap.push { cls := .type "slice", data := .fields #[vl, vu, .none] } } := by
  have newl : ∀ {ws : List V}, newL ws = some r → ws.length ≤ lim ∧ r = .new (.list ws) := fun {ws} h => by
    unfold newL at h
    split at h
    · rename_i hl; cases h; exact ⟨hl, rfl⟩
    · cases h
  rcases hq with ⟨rfl, rfl, hv⟩ | ⟨rfl, hv, rfl⟩
  · have h' : sliceToOp H vo vi = some r := h
    cases vo <;> (try (cases vi <;> cases h'; done)) <;> cases vi <;> (try (cases h'; done))
    case fl.int vs k =>
      obtain ⟨x, cs, n, rfl, d, v1, hl⟩ := ho.fl_inv
      obtain ⟨t, rfl⟩ := hv.int_inv
      obtain ⟨hw, rfl⟩ := newl h'
      refine slice_list_snd R (R.dat _ _ d) (by rw [v1.1]; exact hl) .none (.int k t) cutTo_pick ?_ hw
      rw [v1.1]; exact v1.take _
    case ref.int x k =>
      obtain rfl := ho.ref_inv
      obtain ⟨t, rfl⟩ := hv.int_inv
      simp only [sliceToOp] at h'
      split at h'
      case h_2 => cases h'
      rename_i vs e
      obtain ⟨cs, n, v1, g, hl⟩ := R.listAt e
      obtain ⟨hw, rfl⟩ := newl h'
      refine slice_list_snd R g (by rw [v1.1]; exact hl) .none (.int k t) cutTo_pick ?_ hw
      rw [v1.1]; exact v1.take _
  · have h' : sliceFromOp H vo vi = some r := h
    cases vo <;> (try (cases vi <;> cases h'; done)) <;> cases vi <;> (try (cases h'; done))
    case tup.int vs k =>
      obtain ⟨x, cs, n, rfl, d, v1, hl⟩ := ho.tup_inv
      obtain ⟨t, rfl⟩ := hv.int_inv
      simp only [sliceFromOp] at h'
      split at h'
      case isFalse => cases h'
      rename_i hk
      unfold valT at h'
      split at h'
      case isFalse => cases h'
      rename_i hw
      cases h'
      simp only [Bool.and_eq_true, decide_eq_true_eq] at hk
      obtain ⟨j, rfl⟩ := Int.eq_ofNat_of_zero_le (by (first | lia | omega) : 0 ≤ k)
      have g := R.dat _ _ d
      refine PyProof.Rows.tail_any (ops := [.ref s.heap.objs.size, .ref x]) (T := "tuple") (s := { s with heap := s.heap.push { cls := .type "slice", data := .fields #[.int j t, .none, .none] } }) ⟨_, Heap.get?_push_of_some _ g, rfl⟩ PySem.F.slot_tuple_getitem.lookup ?_ (by with_unfolding_all rfl)
      refine PyProof.Rows.getItem_tuple_from (items := cs.toArray) ⟨_, Heap.get?_push_of_some _ g, rfl, n, rfl⟩ (Heap.IsSliceOf.new ..) (by (first | lia | omega)) (by rw [List.size_toArray, v1.1]; (first | lia | omega)) ?_ (by rw [List.size_toArray, v1.1]; exact lim_size hl)
      exact fin_newTup (s := { s with heap := s.heap.push { cls := .type "slice", data := .fields #[.int j t, .none, .none] } }) (tk := s.toks) (R.grow (tk := s.toks) fun b o e => Heap.get?_push_of_some _ e) (v1.drop j) hw (by simp)
    case ref.int x k =>
      obtain rfl := ho.ref_inv
      obtain ⟨t, rfl⟩ := hv.int_inv
      simp only [sliceFromOp] at h'
      split at h'
      case h_2 => cases h'
      rename_i vs e
      split at h'
      case isFalse => cases h'
      rename_i hk
      obtain ⟨j, rfl⟩ := Int.eq_ofNat_of_zero_le hk
      obtain ⟨cs, n, v1, g, hl⟩ := R.listAt e
      obtain ⟨hw, rfl⟩ := newl h'
      refine slice_list_snd R g (by rw [v1.1]; exact hl) (.int j t) .none (ds := cs.drop j) ?_ (v1.drop _) hw
      have := slicePick_from' cs.toArray j
      simpa using this

theorem lr_snd {a : Value} {va : V} {r : Res} (M : AOK A) (h : primOp .listRange H [va] = some r) (ha : VR D a va) (R : Rel c D O F H s) : W c A (call (.type "range") [a]) (fun rv s' => W c A (call (.type "list") [rv]) (Fin c D O F H r) s') s := by
  cases h
theorem append_snd {a b : Value} {va vb : V} {r : Res} (R : Rel c D O F H s) (ha : VR D a va) (hb : VR D b vb) (h : primOp .append H [va, vb] = some r) : W c A (call (.builtin "list.append") [a, b]) (Fin c D O F H r) s := by
  cases va <;> (try (cases h; done))
  rename_i x
  obtain rfl := ha.ref_inv
  have h' : (match H x with
    | some (.list vs) => if vs.length < lim then some (Res.upd x (.list (vs ++ [vb])) .none) else none
    | _ => none) = some r := h
  split at h'
  case h_2 => cases h'
  rename_i vs e
  split at h'
  case isFalse => cases h'
  rename_i hl
  cases h'
  obtain ⟨cs, n, v1, g, l⟩ := R.listAt e
  refine wpAny_list_append_plain (items := cs.toArray) ⟨n, g⟩ (fun h' hp hs => ?_) (by rw [List.size_toArray, v1.1]; exact lim_size l)
  obtain ⟨n', g'⟩ := hp
  exact ⟨D, .refl D, .none, R.setH (tk := s.toks) e hs (o := listObj (cs ++ [b]) n') (by rw [g']; simp [listObj]) (.list ⟨n', rfl⟩ (v1.append (.cons hb .nil)) (by simp; (first | lia | omega)))⟩
theorem in_str_snd {a b : Value} {x y : Str} {r : Bool} (R : Rel c D O F H s) (ha : VR D a (.str y)) (hb : VR D b (.str x)) (h : inOp H (.str y) (.str x) = some r) :
    W c A (compareOp .In a b) (Fin c D O F H (.val (.bool r))) s ∧ W c A (compareOp .NotIn a b) (Fin c D O F H (.val (.bool (!r)))) s := by
  obtain ⟨t, rfl⟩ := ha.str_inv
  obtain ⟨u, rfl⟩ := hb.str_inv
  simp only [inOp] at h
  split at h
  case isFalse => cases h
  rename_i hl
  cases h
  obtain ⟨ch, hch⟩ : ∃ ch, y = ⟨#[ch]⟩ := by
    obtain ⟨arr⟩ := y
    have hsz : arr.size = 1 := hl
    obtain ⟨ch, hc⟩ := Array.size_eq_one_iff.mp hsz
    exact ⟨ch, by rw [hc]⟩
  subst hch
  have e : (!(occurrences x ⟨#[ch]⟩ 0 x.length 1).isEmpty) = (x.cps.toList.any fun c => (⟨#[ch]⟩ : Str) == ⟨#[c]⟩) := by
    rw [StrLaws.found_one, Bool.eq_iff_iff, decide_eq_true_eq, List.any_eq_true]
    constructor
    · intro hm; exact ⟨ch, hm, by simp⟩
    · rintro ⟨z, hz, hq⟩
      have : ch = z := by simpa using hq
      rw [this]; exact hz
  exact ⟨P.in_str (by rw [e]; exact .val (.bool _) R), P.notIn_str (by rw [e]; exact .val (.bool _) R)⟩
end
end Mini

end
section
set_option autoImplicit false
set_option linter.unusedVariables false
set_option linter.unusedSectionVars false
set_option linter.unusedSimpArgs false
set_option maxRecDepth 100000
namespace Mini
open PySem PySem.SeqAt
open AutoSeq1 (wpAny_loadPart')

section
variable {c : Cx} {mg : Str → Option Value} {G : List String} {A : Around} {D O : OM} {F : FM} {H : MH} {s : Shared}
theorem get_snd {a : Value} {d : Addr} {k : V} {kvs : List (V × V)} (R : Rel c D O F H s) (ha : VR D a k) (e : H d = some (.dict kvs)) (ok : dOK kvs k = true) (hk2 : kk k ≠ 2) : W c A (call (.builtin "dict.get") [.ref d, a]) (Fin c D O F H (.val ((dfind kvs k).getD .none))) s := by
  obtain ⟨X, hl⟩ := R.dictAt e
  have nm := R.notMods trivial e
  have hT : s.TypeIs (.ref d) "dict" := by
    obtain ⟨_, o, ho, q⟩ := R.own _ _ e
    cases q with
    | dict x _ _ _ => exact ⟨o, ho, x.1⟩
  cases dictKey_of X ha ok with
  | str xs i h1 h2 h3 h4 =>
    subst h3
    refine call_meetsIn PySem.F.slot_dict_get hT PySem.F.entry_dict_get (PySem.F.args_dict_get_2 _ _) (meets_dict_get _ d h4 nm) ⟨_, h1.mapOf, ?_⟩
    cases q2 : dfind kvs (.str i) with
    | none => rw [(h2.find str_inj).2 q2]; exact .valT .none R
    | some u =>
      obtain ⟨cv', q3, q4⟩ := (h2.find str_inj).1 u q2
      rw [q3]; exact .valT q4 R
  | tup xs is x h1 h2 h3 h4 h5 h6 =>
    subst h4
    exact absurd (by simp [kk, encT, intsAll]) hk2
end
end Mini

end
section
set_option autoImplicit false
set_option linter.unusedVariables false
set_option linter.unusedSectionVars false
set_option linter.unusedSimpArgs false
set_option maxRecDepth 100000
namespace Mini
open PySem

section
variable {c : Cx} {mg : Str → Option Value} {G : List String} {A : Around}

theorem one_of {q : Prim} {H : MH} {vs : List V} {r : Res} (h : primOp q H vs = some r) (h0 : primOp q H [] = none) (h2 : ∀ v w ws, primOp q H (v :: w :: ws) = none) : ∃ v, vs = [v] := by
  cases vs with
  | nil => rw [h0] at h; cases h
  | cons v vs =>
    cases vs with
    | nil => exact ⟨v, rfl⟩
    | cons w ws => rw [h2] at h; cases h
inductive Bfn : Prim → Value → Prop
  | len : Bfn .len (.builtin "len")
  | toInt : Bfn .toInt (.type "int")
  | tupleOf : Bfn .tupleOf (.type "tuple")
  | listOf : Bfn .listOf (.type "list")
  | sorted : Bfn .sorted (.builtin "sorted")
  | min2 : Bfn .min2 (.builtin "min")
  | max2 : Bfn .max2 (.builtin "max")
  | minL : Bfn .minL (.builtin "min")
  | maxL : Bfn .maxL (.builtin "max")
  | any : Bfn .any (.builtin "any")
  | all : Bfn .all (.builtin "all")
  | dictOf : Bfn .dictOf (.type "dict")
theorem bfn_inv {q : Prim} {x : String} {fv : Value} (h : bfn q = some (x, fv)) : Bfn q fv := by
  cases q <;> cases h <;> constructor
theorem pf_bc (gl : Gl c mg G) (M : AOK A) {q : Prim} {x : String} {fv : Value} {D O : OM} {F : FM} {H : MH} {s : Shared} {cs : List Value} {vs : List V} {r : Res} (hq : bfn q = some (x, fv)) (h : primOp q H vs = some r) (hv : VRs D cs vs) (R : Rel c D O F H s) : W c A (call fv cs) (Fin c D O F H r) s := by
  have o1 : (∃ v, vs = [v]) → ∃ a v, cs = [a] ∧ vs = [v] ∧ VR D a v := fun ⟨v, e⟩ => by
    subst e
    obtain ⟨a, ds, rfl, h1, h2⟩ := hv.cons_inv
    obtain rfl := h2.nil_inv
    exact ⟨a, v, rfl, rfl, h1⟩
  have two : ∀ {i j : V}, vs = [i, j] → ∃ a b, cs = [a, b] ∧ VR D a i ∧ VR D b j := fun {i j} e => by
    subst e
    obtain ⟨a, ds, rfl, h1, h2⟩ := hv.cons_inv
    obtain ⟨b, es, rfl, h3, h4⟩ := h2.cons_inv
    obtain rfl := h4.nil_inv
    exact ⟨a, b, rfl, h1, h3⟩
  have hb := bfn_inv hq
  clear hq
  cases hb
  case len =>
    obtain ⟨a, v, rfl, rfl, h1⟩ := o1 (one_of h rfl fun v w ws => by first | rfl | (cases v <;> rfl))
    by_cases hd : ∃ y kvs, v = .ref y ∧ H y = some (.dict kvs)
    · obtain ⟨y, kvs, rfl, e⟩ := hd
      obtain rfl := h1.ref_inv
      have h' : (match H y with
        | some (.list vs) => some (Res.val (.int vs.length))
        | some (.dict kvs) => some (Res.val (.int kvs.length))
        | none => none) = some r := h
      rw [e] at h'
      cases h'
      exact len_dict_snd R trivial e
    · exact len_snd R h1 h fun y kvs e1 e2 => hd ⟨y, kvs, e1, e2⟩
  case toInt =>
    obtain ⟨a, v, rfl, rfl, h1⟩ := o1 (one_of h rfl fun v w ws => by first | rfl | (cases v <;> rfl))
    cases v <;> (try (cases h; done))
    cases h
    exact toInt_snd R h1
  case tupleOf =>
    obtain ⟨a, v, rfl, rfl, h1⟩ := o1 (one_of h rfl fun v w ws => by first | rfl | (cases v <;> rfl))
    exact tupleOf_snd M R h1 h
  case listOf =>
    cases h
  case sorted =>
    cases h
  case min2 =>
    cases h
  case max2 =>
    cases h
  case minL =>
    cases h
  case maxL =>
    cases h
  case any =>
    cases h
  case all =>
    cases h
  case dictOf =>
    obtain ⟨a, v, rfl, rfl, h1⟩ := o1 (one_of h rfl fun v w ws => by first | rfl | (cases v <;> rfl))
    cases v <;> (try (cases h; done))
    rename_i y
    obtain rfl := h1.ref_inv
    have h' : (match H y with
      | some (.dict kvs) => if kvs.all (fun p => kk p.1 != 2) then some (Res.new (.dict kvs)) else none
      | _ => none) = some r := h
    split at h'
    case h_2 => cases h'
    rename_i kvs e
    split at h'
    case isFalse => cases h'
    rename_i hk
    cases h'
    exact dictOf_snd R trivial e fun p hp => by simpa using List.all_eq_true.mp hk p hp
end
end Mini

end
section
set_option autoImplicit false
set_option linter.unusedVariables false
set_option linter.unusedSectionVars false
set_option linter.unusedSimpArgs false
set_option maxRecDepth 100000
namespace Mini
open PySem

section
variable {c : Cx} {mg : Str → Option Value} {G : List String} {A : Around} {D O : OM} {F : FM} {H : MH} {s : Shared}

theorem pf_bin {op : Operator} {q : Prim} {a b : Value} {va vb : V} {r : Res} (hq : binP op = some q) (h : primOp q H [va, vb] = some r) (ha : VR D a va) (hb : VR D b vb) (R : Rel c D O F H s) : W c A (binaryOp op a b) (Fin c D O F H r) s := by
  cases op <;> cases hq
  case Add.refl => exact add_snd R ha hb h
  case Sub.refl =>
    cases va <;> (try (cases h; done)) <;> cases vb <;> (try (cases h; done))
    cases h
    exact sub_snd R ha hb
  case Mult.refl =>
    have h' : mulOp H va vb = some r := h
    cases va <;> (try (cases vb <;> cases h'; done)) <;> cases vb <;> (try (cases h'; done))
    case int.int i j =>
      simp only [mulOp] at h'
      split at h'
      · rename_i hs
        cases h'
        rw [Bool.and_eq_true] at hs
        exact mul_snd_int R ha hb hs.1 hs.2
      · cases h'
    case str.int x n =>
      simp only [mulOp] at h'
      split at h'
      · rename_i hs
        cases h'
        rw [Bool.and_eq_true, decide_eq_true_eq] at hs
        exact mul_str_snd R ha hb hs.2 hs.1
      · cases h'
  case Mod.refl =>
    cases va <;> (try (cases h; done)) <;> cases vb <;> (try (cases h; done))
    rename_i i j
    have h' : (if 0 < j then some (Res.val (.int (i % j))) else none) = some r := h
    split at h'
    · rename_i hj; cases h'; exact mod_snd R ha hb hj
    · cases h'
  case FloorDiv.refl =>
    cases va <;> (try (cases h; done)) <;> cases vb <;> (try (cases h; done))
    rename_i i j
    have h' : (if 0 < j && small j then some (Res.val (.int (i / j))) else none) = some r := h
    split at h'
    · rename_i hj; cases h'
      simp only [Bool.and_eq_true, decide_eq_true_eq] at hj
      exact fdiv_snd R ha hb hj.1 hj.2
    · cases h'

theorem rb_inv {b : Option Bool} {r : Res} (h : rb b = some r) : ∃ x, b = some x ∧ r = .val (.bool x) := by
  obtain ⟨x, e1, e2⟩ := Option.map_eq_some_iff.mp h
  exact ⟨x, e1, e2.symm⟩
theorem in_snd (gl : Gl c mg G) (M : AOK A) {a b : Value} {va vb : V} {x : Bool} (h : inOp H va vb = some x) (ha : VR D a va) (hb : VR D b vb) (R : Rel c D O F H s) :
    W c A (compareOp .In a b) (Fin c D O F H (.val (.bool x))) s ∧ W c A (compareOp .NotIn a b) (Fin c D O F H (.val (.bool (!x)))) s := by
  cases vb <;> (try (cases h; done))
  case str y =>
    cases va <;> (try (cases h; done))
    exact in_str_snd R ha hb h
  case tup vs =>
    simp only [inOp] at h
    split at h
    case h_2 => cases h
    rename_i d ds e1 e2
    cases h
    obtain ⟨l, cs, n, rfl, e, v1, _⟩ := hb.tup_inv
    exact in_tup_snd R M.room ha (R.dat _ _ e) v1 e1 e2
  case ref l =>
    obtain rfl := hb.ref_inv
    simp only [inOp] at h
    split at h
    · rename_i vs e
      split at h
      case h_2 => cases h
      rename_i d ds e1 e2
      cases h
      obtain ⟨cs, n, v1, g, _⟩ := R.listAt e
      exact in_list_snd R M.room ha g v1 e1 e2
    · rename_i kvs e
      split at h
      · rename_i ok; cases h; exact in_dict_snd R M.room trivial ha e ok
      · cases h
    · cases h
theorem pf_cmp (gl : Gl c mg G) (M : AOK A) {op : CmpOp} {q : Prim} {a b : Value} {va vb : V} {r : Res} (hq : cmpP op = some q) (h : primOp q H [va, vb] = some r) (ha : VR D a va) (hb : VR D b vb) (R : Rel c D O F H s) : W c A (compareOp op a b) (Fin c D O F H r) s := by
  cases op <;> cases hq
  case Eq.refl => obtain ⟨x, e, rfl⟩ := rb_inv (h : rb (eqOp H va vb) = some r); exact eq_snd R M.room ha hb e
  case NotEq.refl =>
    obtain ⟨x, e, rfl⟩ := rb_inv (h : rb ((eqOp H va vb).map (!·)) = some r)
    obtain ⟨y, e2, rfl⟩ := Option.map_eq_some_iff.mp e
    exact ne_snd R M.room ha hb e2
  case Lt.refl => cases va <;> (try (cases h; done)) <;> cases vb <;> (try (cases h; done)); cases h; exact lt_snd R ha hb
  case LtE.refl => cases va <;> (try (cases h; done)) <;> cases vb <;> (try (cases h; done)); cases h; exact le_snd R ha hb
  case Gt.refl => cases va <;> (try (cases h; done)) <;> cases vb <;> (try (cases h; done)); cases h; exact gt_snd R ha hb
  case GtE.refl => cases va <;> (try (cases h; done)) <;> cases vb <;> (try (cases h; done)); cases h; exact ge_snd R ha hb
  case In.refl => obtain ⟨x, e, rfl⟩ := rb_inv (h : rb (inOp H va vb) = some r); exact (in_snd gl M e ha hb R).1
  case NotIn.refl =>
    obtain ⟨x, e, rfl⟩ := rb_inv (h : rb ((inOp H va vb).map (!·)) = some r)
    obtain ⟨y, e2, rfl⟩ := Option.map_eq_some_iff.mp e
    exact (in_snd gl M e2 ha hb R).2
theorem pf_idx (M : AOK A) {value slice : Expr} {o i : Value} {vo vi : V} {r : Res} (hs : ∀ l u p, slice ≠ .Slice l u none p) (h : primOp .idx H [vo, vi] = some r) (ho : VR D o vo) (hi : VR D i vi) (R : Rel c D O F H s) : W c A (PyProof.Rows.subscriptTail value slice o i) (Fin c D O F H r) s := by
  obtain ⟨x, e, rfl⟩ := Option.map_eq_some_iff.mp (h : (idxOp H vo vi).map .val = some r)
  by_cases hd : ∃ y kvs, vo = .ref y ∧ H y = some (.dict kvs)
  · obtain ⟨y, kvs, rfl, e2⟩ := hd
    obtain rfl := ho.ref_inv
    simp only [idxOp, e2] at e
    split at e
    · rename_i ok
      exact idx_dict_snd R M.room hi e2 ok e hs
    · cases e
  · exact idx_seq_snd R ho hi e (fun y kvs e1 e2 => hd ⟨y, kvs, e1, e2⟩) hs
theorem pf_si (M : AOK A) {o i v : Value} {vo vi vv : V} {r : Res} (h : setOp H vo vi vv = some r) (ho : VR D o vo) (hi : VR D i vi) (hv : VR D v vv) (R : Rel c D O F H s) : W c A (setItem o i v) (fun _ s' => Fin c D O F H r .none s') s := by
  cases vo <;> (try (cases h; done))
  rename_i y
  obtain rfl := ho.ref_inv
  simp only [setOp] at h
  split at h
  · rename_i vs k e
    split at h
    · rename_i hk
      cases h
      obtain ⟨t, rfl⟩ := hi.int_inv
      simp only [Bool.and_eq_true, decide_eq_true_eq] at hk
      exact (setItem_list_snd R hv e hk.1 hk.2).then fun _ s' R' => ⟨D, .refl D, .none, R'⟩
    · cases h
  · rename_i kvs k e
    split at h
    · rename_i hk
      cases h
      rw [Bool.and_eq_true, decide_eq_true_eq] at hk
      exact (setItem_dict_snd R M.room hi hv e hk.1 hk.2).then fun _ s' R' => ⟨D, .refl D, .none, R'⟩
    · cases h
  · cases h
inductive Mth : Prim → String → Prop
  | append : Mth .append "append"
  | join : Mth .join "join"
  | get : Mth .get "get"
  | count : Mth .count "count"
theorem meth_inv {q : Prim} {x : String} (h : methN q = some x) : Mth q x := by
  cases q <;> cases h <;> constructor
theorem pf_meth (M : AOK A) {q : Prim} {x : String} {ov : Value} {o : V} (hq : methN q = some x) (ht : (methT q H o).isSome = true) (ho : VR D ov o) (R : Rel c D O F H s) : ∃ T id, PlainAttrs T ∧ Slot T (nm x) id ∧ typeOf (.builtin id) = pure (.type "method_descriptor") ∧ s.TypeIs ov T ∧
    (∀ a, ov = .ref a → ∃ ob, s.heap.get? a = some ob ∧ ob.dict = none) ∧ ∀ {D' : OM} {H' : MH} {s' : Shared} {cs : List Value} {vs : List V} {r : Res}, OLe D D' → primOp q H' (o :: vs) = some r → VRs D' cs vs → Rel c D' O F H' s' → W c A (call (.builtin id) (ov :: cs)) (Fin c D' O F H' r) s' := by
  have lst : ∀ {y : Addr} {vs : List V}, o = .ref y → H y = some (.list vs) → s.TypeIs ov "list" ∧ (∀ a, ov = .ref a → ∃ ob, s.heap.get? a = some ob ∧ ob.dict = none) := fun {y vs} e1 e2 => by
    subst e1
    obtain rfl := ho.ref_inv
    obtain ⟨cs, n, v1, g, l⟩ := R.listAt e2
    exact ⟨⟨_, g, rfl⟩, fun a e => by cases e; exact ⟨_, g, rfl⟩⟩
  have hb := meth_inv hq
  clear hq
  cases hb
  case append =>
    cases o <;> (try (cases ht; done))
    rename_i y
    simp only [methT] at ht
    split at ht
    · rename_i vs e
      obtain ⟨t1, t2⟩ := lst rfl e
      refine ⟨"list", "list.append", PySem.F.plainAttrs_list, PySem.F.slot_list_append, type_list_append, t1, t2, fun {D' H' s' cs vs r} k h hv R' => ?_⟩
      cases vs with
      | nil => cases h
      | cons v vs =>
        cases vs with
        | cons _ _ => cases h
        | nil =>
          obtain ⟨b, ds, rfl, h1, h2⟩ := hv.cons_inv
          obtain rfl := h2.nil_inv
          exact append_snd R' (ho.mono k) h1 h
    · cases ht
  case join =>
    cases o <;> (try (cases ht; done))
    rename_i y
    obtain ⟨t, rfl⟩ := ho.str_inv
    refine ⟨"str", "str.join", PySem.F.plainAttrs_str, PySem.F.slot_str_join, PySem.F.type_str_join, typeIs_str _ _ _, (fun _ e => nomatch e), fun {D' H' s' cs vs r} k h hv R' => ?_⟩
    cases vs with
    | nil => cases h
    | cons v vs =>
      cases vs with
      | cons _ _ => exfalso; cases v <;> cases h
      | nil =>
        obtain ⟨b, ds, rfl, h1, h2⟩ := hv.cons_inv
        obtain rfl := h2.nil_inv
        exact join_snd R' (ho.mono k) h1 h
  case get =>
    cases o <;> (try (cases ht; done))
    rename_i y
    simp only [methT] at ht
    split at ht
    · rename_i kvs e
      obtain rfl := ho.ref_inv
      obtain ⟨_, ob, g, orr⟩ := R.own _ _ e
      cases orr with
      | dict x1 x2 x3 x4 =>
        refine ⟨"dict", "dict.get", PySem.F.plainAttrs_dict, PySem.F.slot_dict_get, PySem.F.type_dict_get, ⟨_, g, x1.1⟩, fun a e' => by cases e'; exact ⟨_, g, x1.2.1⟩, fun {D' H' s' cs vs r} k h hv R' => ?_⟩
        cases vs with
        | nil => cases h
        | cons v vs =>
          cases vs with
          | cons _ _ => cases h
          | nil =>
            obtain ⟨b, ds, rfl, h1, h2⟩ := hv.cons_inv
            obtain rfl := h2.nil_inv
            have h' : (match H' y with
              | some (.dict kvs) => if dOK kvs v && kk v != 2 then some (Res.val ((dfind kvs v).getD .none)) else none
              | _ => none) = some r := h
            split at h'
            case h_2 => cases h'
            rename_i kvs' e'
            split at h'
            case isFalse => cases h'
            rename_i hc
            rw [Bool.and_eq_true] at hc
            cases h'
            exact get_snd R' h1 e' hc.1 (by simpa using hc.2)
    · cases ht
  case count =>
    cases o <;> (try (cases ht; done))
    rename_i y
    simp only [methT] at ht
    split at ht
    · rename_i vs e
      obtain ⟨t1, t2⟩ := lst rfl e
      refine ⟨"list", "list.count", PySem.F.plainAttrs_list, PySem.F.slot_list_count, PySem.F.type_list_count, t1, t2, fun {D' H' s' cs vs r} k h hv R' => ?_⟩
      obtain rfl := ho.ref_inv
      cases vs with
      | nil => cases h
      | cons v vs =>
        cases vs with
        | cons _ _ => cases h
        | nil =>
          obtain ⟨b, ds, rfl, h1, h2⟩ := hv.cons_inv
          obtain rfl := h2.nil_inv
          exact count_snd M.room R' h1 h
    · cases ht

theorem pf_all (gl : Gl c mg G) (A : Around) (M : AOK A) : PF c A where
  bc := fun h1 h2 h3 h4 => pf_bc gl M h1 h2 h3 h4
  bin := fun h1 h2 h3 h4 h5 => pf_bin h1 h2 h3 h4 h5
  cmp := fun h1 h2 h3 h4 h5 => pf_cmp gl M h1 h2 h3 h4 h5
  meth := fun h1 h2 h3 h4 => pf_meth M h1 h2 h3 h4
  idx := fun h1 h2 h3 h4 h5 => pf_idx M h1 h2 h3 h4 h5
  sl := fun h1 h2 h3 h4 => sl_snd h1 h2 h3 h4
  lr := fun h1 h2 h3 => lr_snd M h1 h2 h3
  lrev := fun h1 h2 h3 => by cases h1
  sset := fun h1 h2 h3 => by cases h1
  si := fun h1 h2 h3 h4 h5 => pf_si M h1 h2 h3 h4 h5
  isi := fun {t a va r D O F H s} h1 h2 h3 => by
    obtain ⟨x, e, rfl⟩ := rb_inv (h1 : rb (isiOf H t va) = some r)
    exact isi_snd h3 h2 e
theorem calls_ok (gl : Gl c mg G) {tab : Tab} (ht : TabOK c mg G tab) (n : Nat) (A : Around) (l : List PySem.Env) (hst : A.frames = some l) (hA : AR A n) : CallOK (c.at l) mg A (CallN tab n) := callN_ok gl (fun l A M => pf_all (gl.at l) A M) ht n A l hst hA
end
end Mini

end
section
set_option autoImplicit false
set_option linter.unusedVariables false
set_option linter.unusedSectionVars false
set_option linter.unusedSimpArgs false
set_option maxRecDepth 100000
namespace Mini
open PySem


abbrev Ev (p : Prop) := Option (PLift p)
noncomputable def Ev.cond {r : Prop} (b : Bool) (f : b = true → Ev r) : Ev r := match b, f with
  | true, f => f rfl
  | false, _ => none
noncomputable def Ev.sure {r : Prop} (b : Bool) (f : b = true → r) : Ev r := Ev.cond b fun h => some ⟨f h⟩
noncomputable def Ev.via {p r : Prop} (a : Ev p) (f : p → r) : Ev r := match a with
  | some h => some ⟨f h.down⟩
  | none => none
noncomputable def Ev.next {p r : Prop} (a : Ev p) (f : p → Ev r) : Ev r := match a with
  | some h => f h.down
  | none => none
noncomputable def chkSrc (K : Kn) (sk : SK) (it : Expr) : Option (PSigma fun src : Expr => PLift (SrcTr K sk src it)) := match sk with
  | .plain => some ⟨it, ⟨.plain⟩⟩
  | .range => (match it with
    | .Call (.Name m _) [e] [] _ => if h : m = nm "range" ∧ gloK K "range" = true then some ⟨e, ⟨h.1 ▸ .range h.2⟩⟩ else none
    | _ => none)
  | .reversed => none
noncomputable def chkNames (K : Kn) : (xs : List String) → (es : List Expr) → Ev (TgtNames K xs es)
  | [], es => (match es with
    | [] => some ⟨.nil⟩
    | _ :: _ => none)
  | x :: xs, es => (match es with
    | .Name m _ :: es => if h : m = nm x then Ev.cond (stoK (K.lookup (nm x))) fun h2 => (chkNames K xs es).via fun h3 => h ▸ .cons h2 h3 else none
    | _ => none)
noncomputable def chkTgt (K : Kn) (tgt : List String) (isT : Bool) (te : Expr) : Ev (TgtTr K tgt isT te) := match isT with
  | false => (match tgt with
    | [x] => (match te with
      | .Name m _ => if h : m = nm x then Ev.sure (stoK (K.lookup (nm x))) fun h2 => h ▸ .one h2 else none
      | _ => none)
    | _ => none)
  | true => (match te with
    | .Tuple es _ _ => (chkNames K tgt es).via .tup
    | _ => none)
noncomputable def chkAll {G : List String} {K : Kn} (f : (x : X) → (e : Expr) → Ev (TrE G K x e)) : (xs : List X) → (es : List Expr) → Ev (TrEs G K xs es)
  | [], es => (match es with
    | [] => some ⟨.nil⟩
    | _ :: _ => none)
  | x :: xs, es => (match es with
    | e :: es => (f x e).next fun h => (chkAll f xs es).via fun h2 => .cons h h2
    | [] => none)
noncomputable def asOne : (es : List Expr) → Option { e : Expr // es = [e] }
  | [e] => some ⟨e, rfl⟩
  | _ => none
noncomputable def asCall1 : (a : Expr) → Option (PSigma fun m : Str => PSigma fun p : Pos => PSigma fun e : Expr => PSigma fun q : Pos => PLift (a = .Call (.Name m p) [e] [] q))
  | .Call (.Name m p) [e] [] q => some ⟨m, p, e, q, ⟨rfl⟩⟩
  | _ => none
noncomputable def chkTwo {G : List String} {K : Kn} (f : (x : X) → (e : Expr) → Ev (TrE G K x e)) (m : Str) (p' p : Pos) (args : List Expr) (a : X) (o i : String) {r : X} (mk : ∀ {e : Expr} {p'' q : Pos}, gloK K o = true → gloK K i = true → TrE G K a e → TrE G K r (.Call (.Name (nm o) p') [.Call (.Name (nm i) p'') [e] [] q] [] p)) : Ev (TrE G K r (.Call (.Name m p') args [] p)) :=
  match asOne args with
  | none => none
  | some ⟨b, hb⟩ => (match asCall1 b with
    | none => none
    | some ⟨m2, p'', e, q, ⟨he⟩⟩ => if h : m = nm o ∧ m2 = nm i then Ev.cond (gloK K o) fun h1 => Ev.cond (gloK K i) fun h2 => (f a e).via fun h3 => by
        obtain ⟨rfl, rfl⟩ := h
        rw [hb, he]
        exact mk h1 h2 h3
      else none)
noncomputable def chkB {G : List String} {K : Kn} (f : (x : X) → (e : Expr) → Ev (TrE G K x e)) (m : Str) (p' p : Pos) (args : List Expr) (q : Prim) (xs : List X) : Ev (TrE G K (.prim q xs) (.Call (.Name m p') args [] p)) :=
  match hb : bfn q with
  | none => none
  | some (y, _) => (match args with
    | [] => none
    | e :: es => if h : m = nm y then Ev.cond (gloK K y) fun h1 => (chkAll f xs (e :: es)).via fun h2 => h ▸ .bcall hb h1 h2 else none)
noncomputable def chkIsi {G : List String} {K : Kn} (f : (x : X) → (e : Expr) → Ev (TrE G K x e)) (m : Str) (p' p : Pos) (args : List Expr) (t : Ty) (a : X) : Ev (TrE G K (.prim (.isi t) [a]) (.Call (.Name m p') args [] p)) := match args with
  | [e, .Name m2 _] => if h : m = nm "isinstance" ∧ m2 = nm t.name then Ev.cond (gloK K "isinstance") fun h1 => Ev.cond (gloK K t.name) fun h2 => (f a e).via fun h3 => by
      obtain ⟨rfl, rfl⟩ := h
      exact .isi h1 h2 h3
    else none
  | _ => none
noncomputable def chkPrimCall {G : List String} {K : Kn} (f : (x : X) → (e : Expr) → Ev (TrE G K x e)) (m : Str) (p' p : Pos) (args : List Expr) (q : Prim) (xs : List X) : Ev (TrE G K (.prim q xs) (.Call (.Name m p') args [] p)) := match xs with
  | [a] => (match q with
    | .isi t => chkIsi f m p' p args t a
    | .listRev => chkTwo f m p' p args a "list" "reversed" .listRev
    | q => chkB f m p' p args q [a])
  | xs => chkB f m p' p args q xs
noncomputable def chkC : (c : Const) → (v : V) → Ev (∀ {G : List String} {K : Kn} {k : Nat} {p : Pos}, TrE G K (.cst v) (.Constant c k p))
  | .none, v => (match v with
    | .none => some ⟨.none⟩
    | _ => none)
  | .bool b, v => (match v with
    | .bool b' => if h : b = b' then some ⟨h ▸ .bool⟩ else none
    | _ => none)
  | .int b, v => (match v with
    | .int b' => if h : b = b' then some ⟨h ▸ .int⟩ else none
    | _ => none)
  | .str b, v => (match v with
    | .str b' => if h : b = b' ∧ b.length ≤ lim then some ⟨h.1 ▸ .str h.2⟩ else none
    | _ => none)
  | _, _ => none
noncomputable def chkP2 {G : List String} {K : Kn} (f : (x : X) → (e : Expr) → Ev (TrE G K x e)) (xs : List X) (l r : Expr) {q : Prim} {e : Expr} (mk : ∀ {a b : X}, TrE G K a l → TrE G K b r → TrE G K (.prim q [a, b]) e) : Ev (TrE G K (.prim q xs) e) := match xs with
  | [a, b] => (f a l).next fun h1 => (f b r).via fun h2 => mk h1 h2
  | _ => none
noncomputable def chkP1 {G : List String} {K : Kn} (f : (x : X) → (e : Expr) → Ev (TrE G K x e)) (xs : List X) (l : Expr) {q : Prim} {e : Expr} (mk : ∀ {a : X}, TrE G K a l → TrE G K (.prim q [a]) e) : Ev (TrE G K (.prim q xs) e) := match xs with
  | [a] => (f a l).via fun h1 => mk h1
  | _ => none
noncomputable def evBin (op : Operator) (q : Prim) : Ev (binP op = some q) := match q with
  | .add => (match op with
    | .Add => some ⟨rfl⟩
    | _ => none)
  | .sub => (match op with
    | .Sub => some ⟨rfl⟩
    | _ => none)
  | .mul => (match op with
    | .Mult => some ⟨rfl⟩
    | _ => none)
  | .mod => (match op with
    | .Mod => some ⟨rfl⟩
    | _ => none)
  | .fdiv => (match op with
    | .FloorDiv => some ⟨rfl⟩
    | _ => none)
  | _ => none
noncomputable def evCmp (op : CmpOp) (q : Prim) : Ev (cmpP op = some q) := match q with
  | .eq => (match op with
    | .Eq => some ⟨rfl⟩
    | _ => none)
  | .ne => (match op with
    | .NotEq => some ⟨rfl⟩
    | _ => none)
  | .lt => (match op with
    | .Lt => some ⟨rfl⟩
    | _ => none)
  | .le => (match op with
    | .LtE => some ⟨rfl⟩
    | _ => none)
  | .gt => (match op with
    | .Gt => some ⟨rfl⟩
    | _ => none)
  | .ge => (match op with
    | .GtE => some ⟨rfl⟩
    | _ => none)
  | .isin => (match op with
    | .In => some ⟨rfl⟩
    | _ => none)
  | .notin => (match op with
    | .NotIn => some ⟨rfl⟩
    | _ => none)
  | _ => none
noncomputable def chkCmp {G : List String} {K : Kn} (f : (x : X) → (e : Expr) → Ev (TrE G K x e)) (q : Prim) (xs : List X) (l : Expr) (op : CmpOp) (r : Expr) (p : Pos) : Ev (TrE G K (.prim q xs) (.Compare l [op] [r] p)) :=
  match evCmp op q with
  | some h => chkP2 f xs l r fun h1 h2 => .cmp h.down h1 h2
  | none => (match r with
    | .Constant .none _ _ => (match q, op with
      | .isNone, .Is => chkP1 f xs l fun h1 => .isNone h1
      | _, _ => none)
    | _ => none)
noncomputable def chkSub {G : List String} {K : Kn} (f : (x : X) → (e : Expr) → Ev (TrE G K x e)) (q : Prim) (xs : List X) (l r : Expr) (p : Pos) : Ev (TrE G K (.prim q xs) (.Subscript l r p)) := match q with
  | .idx => chkP2 f xs l r fun h1 h2 => .idx h1 h2
  | .sliceTo => (match r with
    | .Slice none (some r) none _ => chkP2 f xs l r fun h1 h2 => .sliceTo h1 h2
    | _ => none)
  | .sliceFrom => (match r with
    | .Slice (some r) none none _ => chkP2 f xs l r fun h1 h2 => .sliceFrom h1 h2
    | _ => none)
  | _ => none
noncomputable def chkPrim {G : List String} {K : Kn} (f : (x : X) → (e : Expr) → Ev (TrE G K x e)) (q : Prim) (xs : List X) : (e : Expr) → Ev (TrE G K (.prim q xs) e)
  | .BinOp l op r _ => (evBin op q).next fun h => chkP2 f xs l r fun h1 h2 => .bin h h1 h2
  | .UnaryOp op e _ => (match op with
    | .USub => (match q with
      | .neg => chkP1 f xs e fun h1 => .neg h1
      | _ => none)
    | .Not => (match q with
      | .not => chkP1 f xs e fun h1 => .not h1
      | _ => none)
    | _ => none)
  | .Compare l ops rs p => (match ops with
    | [op] => (match rs with
      | [r] => chkCmp f q xs l op r p
      | _ => none)
    | _ => none)
  | .Subscript l r p => chkSub f q xs l r p
  | .Tuple es _ _ => (match q with
    | .tuple => (chkAll f xs es).via .tuple
    | _ => none)
  | .List es _ => (match q with
    | .list => (chkAll f xs es).via .list
    | _ => none)
  | .Dict ks vs _ => (match q with
    | .dict0 => (match xs with
      | [] => (match ks with
        | [] => (match vs with
          | [] => some ⟨.dict0⟩
          | _ => none)
        | _ => none)
      | _ => none)
    | _ => none)
  | .Call g args kw p => (match kw with
    | [] => (match g with
      | .Name m p' => chkPrimCall f m p' p args q xs
      | _ => none)
    | _ => none)
  | _ => none
noncomputable def chkMeth {G : List String} {K : Kn} (f : (x : X) → (e : Expr) → Ev (TrE G K x e)) (q : Prim) (a : X) (xs : List X) (o : Expr) (m : Str) (p' p : Pos) (args : List Expr) : Ev (TrE G K (.meth q a xs) (.Call (.Attribute o m p') args [] p)) :=
  match hq : methN q with
  | none => none
  | some x => if h : m = nm x then Ev.cond (p'.endLine == p.line) fun h1 => (f a o).next fun h2 => (match xs with
      | [b] => (match args with
        | [e] => (f b e).via fun h3 => h ▸ .meth1 hq h1 h2 h3
        | _ => none)
      | [b, d] => (match args with
        | [e, e'] => (f b e).next fun h3 => (f d e').via fun h4 => h ▸ .meth2 hq h1 h2 h3 h4
        | _ => none)
      | _ => none)
    else none
noncomputable def chkL {G : List String} {K : Kn} (f : (K : Kn) → (x : X) → (e : Expr) → Ev (TrE G K x e)) (x : X) (e : Expr) : Ev (TrC G K x e) := match e with
  | .ListComp elt [⟨te, it, cs, 0⟩] sc _ => (match x with
    | .comp y tgt isT sk a => (match cs with
      | [] => (match chkSrc K sk it with
        | some ⟨src, ⟨hs⟩⟩ => (f K a src).next fun h1 => Ev.cond (scOK K sc) fun h2 => (chkTgt (relabelK K sc.names) tgt isT te).next fun h3 => Ev.cond (scTgt (relabelK K sc.names) tgt) fun h4 => (f (relabelK K sc.names) y elt).via fun h5 => .comp h1 hs h2 h3 h4 h5
        | none => none)
      | _ => none)
    | .compIf y tgt isT sk a z => (match cs with
      | [c] => (match chkSrc K sk it with
        | some ⟨src, ⟨hs⟩⟩ => (f K a src).next fun h1 => Ev.cond (scOK K sc) fun h2 => (chkTgt (relabelK K sc.names) tgt isT te).next fun h3 => Ev.cond (scTgt (relabelK K sc.names) tgt) fun h4 => (f (relabelK K sc.names) y elt).next fun h5 => (f (relabelK K sc.names) z c).via fun h6 => .compIf h1 hs h2 h3 h4 h5 h6
        | none => none)
      | _ => none)
    | _ => none)
  | _ => none
noncomputable def chkE (G : List String) : Nat → (K : Kn) → (x : X) → (e : Expr) → Ev (TrE G K x e)
  | 0, _, _, _ => none
  | n + 1, K, x, e => (match e with
    | .BoolOp op [e] _ => (chkE G n K x e).via .one
    | e => (match x with
      | .cst v => (match e with
        | .Constant c _ _ => (chkC c v).via fun h => h
        | _ => none)
      | .var y => (match e with
        | .Name m _ => if h : m = nm y then Ev.sure (varK (K.lookup (nm y)) && !(nm y == ("__debug__" : Str)) && !(nm y == ("__classdict__" : Str)) && !(y == ".0")) fun h2 => by
            simp only [Bool.and_eq_true, Bool.not_eq_true'] at h2
            obtain ⟨⟨⟨h3, h4⟩, h5⟩, h6⟩ := h2
            subst h
            exact .var h3 h4 h5 h6
          else none
        | _ => none)
      | .prim q xs => chkPrim (chkE G n K) q xs e
      | .and a b => (match e with
        | .BoolOp .And (e :: e' :: es) p => (chkE G n K a e).next fun h1 => (chkE G n K b (.BoolOp .And (e' :: es) p)).via fun h2 => .and h1 h2
        | _ => none)
      | .or a b => (match e with
        | .BoolOp .Or (e :: e' :: es) p => (chkE G n K a e).next fun h1 => (chkE G n K b (.BoolOp .Or (e' :: es) p)).via fun h2 => .or h1 h2
        | _ => none)
      | .call g xs => (match e with
        | .Call (.Name m _) (e :: es) [] _ => if h : m = nm g then Ev.cond (G.contains g) fun h1 => Ev.cond (gloK K g) fun h2 => (chkAll (chkE G n K) xs (e :: es)).via fun h3 => h ▸ .call h1 h2 h3 else none
        | _ => none)
      | .meth q a xs => (match e with
        | .Call (.Attribute o m p') args [] p => chkMeth (chkE G n K) q a xs o m p' p args
        | _ => none)
      | x => (chkL (fun K x e => chkE G n K x e) x e).via .lc))

noncomputable def chkH (K : Kn) : Nat → (x : X) → (e : Expr) → Ev (TrH K x e)
  | 0, _, _ => none
  | n + 1, x, e => (match e with
    | .BoolOp op [e] _ => (chkH K n x e).via .one
    | e => (match x with
      | .cst v => (match e with
        | .Constant c _ _ => (match c with
          | .bool b => (match v with
            | .bool b' => if h : b' = b then some ⟨h ▸ .bool⟩ else none
            | _ => none)
          | .int i => (match v with
            | .int j => if h : j = i then some ⟨h ▸ .int⟩ else none
            | _ => none)
          | .str y => (match v with
            | .str z => if h : z = y then (if h2 : z.length ≤ lim then some ⟨h ▸ .str h2⟩ else none) else none
            | _ => none)
          | _ => none)
        | _ => none)
      | .var y => (match e with
        | .Name m _ => if h : m = nm y then Ev.sure (varK (K.lookup (nm y)) && !(nm y == ("__debug__" : Str)) && !(nm y == ("__classdict__" : Str)) && !(y == ".0")) fun h2 => by
            simp only [Bool.and_eq_true, Bool.not_eq_true'] at h2
            obtain ⟨⟨⟨h3, h4⟩, h5⟩, h6⟩ := h2
            subst h
            exact .var h3 h4 h5 h6
          else none
        | _ => none)
      | .prim q xs => (match xs with
        | [a, b, d] => (match e with
          | .List [l, r, m] _ => (match q with
            | .list => Ev.cond (okE l) fun o1 => Ev.cond (okE r) fun o2 => Ev.cond (okE m) fun o3 => (chkH K n a l).next fun h1 => (chkH K n b r).next fun h2 => (chkH K n d m).via fun h3 => .list3 o1 o2 o3 h1 h2 h3
            | _ => none)
          | _ => none)
        | [a, b] => (match e with
          | .BinOp l .Add r _ => (match q with
            | .add => (chkH K n a l).next fun h1 => (chkH K n b r).via fun h2 => .add h1 h2
            | _ => none)
          | .Compare l [.Eq] [r] _ => (match q with
            | .eq => Ev.cond (okE r) fun h0 => (chkH K n a l).next fun h1 => (chkH K n b r).via fun h2 => .eq h0 h1 h2
            | _ => none)
          | _ => none)
        | [a] => (match e with
          | .UnaryOp .Not l _ => (match q with
            | .not => (chkH K n a l).via fun h1 => .not h1
            | _ => none)
          | .Call (.Name m _) [l] [] _ => (match q with
            | .toInt => if h : m = nm "int" then Ev.cond (gloK K "int") fun h1 => Ev.cond (okE l) fun h2 => (chkH K n a l).via fun h3 => h ▸ .toInt h1 h2 h3 else none
            | _ => none)
          | .Call (.Name m _) [l, .Name m2 _] [] _ => (match q with
            | .isx cls => if h : m = nm "isinstance" ∧ m2 = nm cls then Ev.cond (gloK K "isinstance") fun h1 => Ev.cond (gloK K cls) fun h2 => Ev.cond (clsNames.contains cls || cls == "ValueError") fun h3 => Ev.cond (okE l) fun h4 => (chkH K n a l).via fun h5 => h.1 ▸ h.2 ▸ .isx h1 h2 h3 h4 h5 else none
            | _ => none)
          | _ => none)
        | _ => none)
      | .and a b => (match e with
        | .BoolOp .And (e :: e' :: es) p => (chkH K n a e).next fun h1 => (chkH K n b (.BoolOp .And (e' :: es) p)).via fun h2 => .and h1 h2
        | _ => none)
      | .or a b => (match e with
        | .BoolOp .Or (e :: e' :: es) p => (chkH K n a e).next fun h1 => (chkH K n b (.BoolOp .Or (e' :: es) p)).via fun h2 => .or h1 h2
        | _ => none)
      | .meth q a xs => (match xs with
        | [b] => (match e with
          | .Call (.Attribute o m p') [l] [] p => (match q with
            | .count => if h : m = nm "count" then Ev.cond (p'.endLine == p.line) fun h1 => Ev.cond (okE o) fun h2 => Ev.cond (okE l) fun h3 => (chkH K n a o).next fun h4 => (chkH K n b l).via fun h5 => h ▸ .count h1 h2 h3 h4 h5 else none
            | _ => none)
          | _ => none)
        | _ => none)
      | _ => none))
noncomputable def chkHs (K : Kn) (n : Nat) : (xs : List S) → (sts : List Stmt) → Ev (TrHs K xs sts)
  | [], sts => (match sts with
    | [] => some ⟨.nil⟩
    | _ :: _ => none)
  | x :: xs, sts => (match x with
    | .asg y a => (match sts with
      | .Assign [.Name m _] e _ :: sts => if h : m = nm y then Ev.cond (stoK (K.lookup (nm y))) fun h1 => if hc : isComp e = false then (chkH K n a e).next fun h2 => (chkHs K n xs sts).via fun h3 => h ▸ .asg h1 hc h2 h3 else none else none
      | _ => none)
    | .ret a => (match sts with
      | .Return (some e) _ :: sts => (chkH K n a e).next fun h2 => (chkHs K n xs sts).via fun h3 => .ret h2 h3
      | _ => none)
    | _ => none)
noncomputable def chkBs (G : List String) (n : Nat) (K : Kn) : Nat → (xs : List S) → (sts : List Stmt) → Ev (TrBs G K xs sts)
  | 0, _, _ => none
  | k + 1, xs, sts => (match xs with
    | [] => (match sts with
      | [] => some ⟨.nil⟩
      | _ :: _ => none)
    | x :: xs => (match x with
      | .ex a => (match sts with
        | .Expr e _ :: sts => if hc : isComp e = false then (chkE G n K a e).next fun h1 => (chkBs G n K k xs sts).via fun h2 => .ex hc h1 h2 else none
        | _ => none)
      | .ifs a t u => (match sts with
        | .If e t' u' _ :: sts => (chkE G n K a e).next fun h1 => (chkBs G n K k t t').next fun h2 => (chkBs G n K k u u').next fun h3 => (chkBs G n K k xs sts).via fun h4 => .ifs h1 h2 h3 h4
        | _ => none)
      | _ => none))
noncomputable def chkTry (G : List String) (n : Nat) (K : Kn) (body : List S) (c1 : String) (as1 : Option String) (h1 : List S) (c2 : String) (h2 : List S) : (s : Stmt) → Ev (TrS G K (.tryS body c1 as1 h1 c2 h2) s)
  | .Try body' [.ExceptHandler (some (.Name m1 _)) nm1 (b1 :: r1) _] [] [] _ => (match h2 with
    | [] => if h : m1 = nm c1 ∧ nm1 = as1.map nm ∧ c2 = "" then (chkBs G n K 20 body body').next fun q1 => Ev.cond (clsNames.contains c1) fun q2 => Ev.cond (gloK K c1) fun q3 => Ev.cond (asOK K as1) fun q4 => (chkHs K n h1 (b1 :: r1)).via fun q5 => by
        obtain ⟨rfl, rfl, rfl⟩ := h
        exact .try1 q1 q2 q3 q4 q5
      else none
    | _ => none)
  | .Try body' [.ExceptHandler (some (.Name m1 _)) none (b1 :: r1) _, .ExceptHandler (some (.Name m2 _)) none (b2 :: r2) _] [] [] _ => (match as1 with
    | none => if h : m1 = nm c1 ∧ m2 = nm c2 then (chkBs G n K 20 body body').next fun q1 => Ev.cond (clsNames.contains c1) fun q2 => Ev.cond (gloK K c1) fun q3 => (chkHs K n h1 (b1 :: r1)).next fun q4 => Ev.cond (clsNames.contains c2) fun q5 => Ev.cond (gloK K c2) fun q6 => (chkHs K n h2 (b2 :: r2)).via fun q7 => by
        obtain ⟨rfl, rfl⟩ := h
        exact .try2 q1 q2 q3 q4 q5 q6 q7
      else none
    | some _ => none)
  | _ => none
noncomputable def chkRaise (G : List String) (K : Kn) (cls : String) : (s : Stmt) → Ev (TrS G K (.raise cls) s)
  | .Raise (some (.Call (.Name m _) [.Constant (.str x) _ _] [] _)) none _ => if h : m = nm cls ∧ x.length ≤ lim then Ev.cond (clsNames.contains cls) fun h1 => Ev.sure (gloK K cls) fun h2 => by
      obtain ⟨rfl, h3⟩ := h
      exact .raise h1 h2 h3
    else none
  | _ => none
mutual
noncomputable def chkS (G : List String) (n : Nat) (K : Kn) : (x : S) → (s : Stmt) → Ev (TrS G K x s)
  | .asg x a, s => (match s with
    | .Assign [.Name m _] e _ => if h : m = nm x then Ev.cond (stoK (K.lookup (nm x))) fun h1 => if hc : isComp e = false then (chkE G n K a e).via fun h2 => h ▸ .asg h1 hc h2 else (chkL (fun K x e => chkE G n K x e) a e).via fun h2 => h ▸ .asgC h1 h2 else none
    | _ => none)
  | .asgT xs a, s => (match s with
    | .Assign [.Tuple es _ _] e _ => (chkNames K xs es).next fun h1 => if h : isTupE e = false then (chkE G n K a e).via fun h2 => .asgT h1 h h2 else none
    | _ => none)
  | .asgI a b d, s => (match s with
    | .Assign [.Subscript o i _] e _ => (chkE G n K a o).next fun h1 => (chkE G n K b i).next fun h2 => (chkE G n K d e).via fun h3 => .asgI h1 h2 h3
    | _ => none)
  | .ex a, s => (match s with
    | .Expr e _ => if h : isComp e = false then (chkE G n K a e).via fun h2 => .ex h h2 else none
    | _ => none)
  | .ifs a t u, s => (match s with
    | .If e t' u' _ => (chkE G n K a e).next fun h1 => (chkSs G n K t t').next fun h2 => (chkSs G n K u u').via fun h3 => .ifs h1 h2 h3
    | _ => none)
  | .for tgt isT sk a t, s => (match s with
    | .For te it t' [] _ => (match chkSrc K sk it with
      | some ⟨src, ⟨hs⟩⟩ => (chkE G n K a src).next fun h1 => (chkTgt K tgt isT te).next fun h2 => (chkSs G n K t t').via fun h3 => .for h1 hs h2 h3
      | none => none)
    | _ => none)
  | .whl .., _ => none
  | .ret a, s => (match s with
    | .Return (some e) _ => (chkE G n K a e).via .ret
    | _ => none)
  | .pass, s => (match s with
    | .Pass _ => some ⟨.pass⟩
    | _ => none)
  | .raise cls, s => chkRaise G K cls s
  | .tryS body c1 as1 h1 c2 h2, s => chkTry G n K body c1 as1 h1 c2 h2 s
noncomputable def chkSs (G : List String) (n : Nat) (K : Kn) : (xs : List S) → (s : List Stmt) → Ev (TrSs G K xs s)
  | [], sts => (match sts with
    | [] => some ⟨.nil⟩
    | _ :: _ => none)
  | x :: xs, sts => (match sts with
    | e :: es => (chkS G n K x e).next fun h1 => (chkSs G n K xs es).via fun h2 => .cons h1 h2
    | [] => none)
end

noncomputable def chkF (G : List String) (n : Nat) (ps : List String) (body : List S) (params : Arguments) (stmts : List Stmt) (scope : Scope) : Bool :=
  params.posonlyargs.isEmpty && params.vararg.isNone && params.kwonlyargs.isEmpty && params.kw_defaults.isEmpty && params.kwarg.isNone && params.defaults.isEmpty && decide (params.args.map (·.arg) = ps.map nm) && decide ps.Nodup &&
  (ps.all fun p => scope.names.lookup (nm p) == some .local || scope.names.lookup (nm p) == some .cell) && (scope.names.all fun y => y.2 != .free) && scope.kind == .function && !scope.isCoroutine && !scope.isGenerator && (chkSs G n scope.names body stmts).isSome
theorem chkF_ok {G : List String} {n : Nat} {ps : List String} {body : List S} {params : Arguments} {stmts : List Stmt} {scope : Scope} (h : chkF G n ps body params stmts scope = true) : FnTr G ps body params stmts scope := by
  unfold chkF at h
  simp only [Bool.and_eq_true, decide_eq_true_eq, Bool.not_eq_true', beq_iff_eq] at h
  obtain ⟨⟨⟨⟨⟨⟨⟨⟨⟨⟨⟨⟨⟨h1, h2⟩, h3⟩, h4⟩, h5⟩, h6⟩, h7⟩, h8⟩, h9⟩, h10⟩, h11⟩, h12⟩, h13⟩, h14⟩ := h
  refine ⟨⟨params.args, ?_, h7⟩, h8, h9, h10, h11, h12, h13, (Option.get _ h14).down⟩
  obtain ⟨a, b, v, kw, kd, ka, df⟩ := params
  simp only [List.isEmpty_iff, Option.isNone_iff_eq_none] at h1 h2 h3 h4 h5 h6
  subst h1 h2 h3 h4 h5 h6
  rfl
end Mini

end
section
set_option autoImplicit false
set_option linter.unusedVariables false
set_option linter.unusedSectionVars false
set_option maxRecDepth 100000
namespace Mini
open PySem

noncomputable def D0 (s : Shared) : OM := fun a => s.heap.get? a
theorem rel0 {c : Cx} (hc : c.fr = []) : Rel c (D0 c.s0) (fun _ => none) (fun _ => none) (fun _ => none) c.s0 :=
  ⟨fun _ _ h => h, fun _ _ h => h, fun _ _ h => (by cases h), fun _ _ h => (by cases h), fun _ _ h => (by cases h), fun _ h => (by rcases h with ⟨_, h⟩ | ⟨_, h⟩ <;> cases h), rfl, rfl, fun e he => by rw [hc] at he; cases he⟩

theorem law_call {prog : Program} {w : World} {s₁ : Shared} {mg mb : Str → Option Value} {tab : Tab} {G : List String} {fa l : Addr} {vs : List Value} {ns : List Int} {n : Nat}
    (hst : ∃ o, s₁.heap.get? cStatics = some o) (hg : s₁.heap.Ns mainGlobals mg) (hb : s₁.heap.Ns builtinsNs mb) (hbb : ∀ x : Str, x ≠ "__name__" → mb x = bootBuiltins x) (hbl : ∀ x, x ∈ bNames → mg (nm x) = none) (hnl : s₁.heap.NoLimit) (hcl : ClsAll s₁.heap mg)
    (hfn : ∀ f, G.contains f = true → ∃ a o fd, mg (nm f) = some (.ref a) ∧ s₁.heap.get? a = some o ∧ o.data = .func fd)
    (htab : TabOK ⟨prog, w, s₁, hst, []⟩ mg G tab) (hfa : mg (nm "law") = some (.ref fa)) (hl : s₁.heap.get? l = some (listObj vs 0)) (hi : PyProof.Rows.IntsAre vs ns) (hlen : ns.length ≤ 63) (hn : n + 1 ≤ 500)
    (h : CallN tab (n + 1) "law" [.fl (ns.map .int)] (fun v _ => v = .bool true) ZF (fun _ => none)) :
    codeAny (model prog w) callerA (.call (.ref fa) ⟨[.ref l], []⟩) (fun r s' => r = .ok (.ret (.bool true)) ∧ (∀ b o, s₁.heap.get? b = some o → s'.heap.get? b = some o) ∧ s'.os = s₁.os ∧ s'.gens = s₁.gens) s₁ := by
  have gl : Gl ⟨prog, w, s₁, hst, []⟩ mg G := ⟨hg, ⟨mb, hb, hbb⟩, hbl, hnl, hcl, hfn⟩
  obtain ⟨ps, body, e, ll, w'⟩ := (h : ∃ ps body, tab.lookup "law" = some (ps, body) ∧ ps.length = [V.fl (ns.map .int)].length ∧ wpSs (CallN tab n) body (bindE ps [V.fl (ns.map .int)]) (fun _ H' => V.none = .bool true) (fun v _ => v = .bool true) ZF (fun _ => none))
  obtain ⟨a', o, params, stmts, scope, pm, code, doc, h1, h2, h3, h4, t⟩ := htab "law" ps body e
  rw [h1] at hfa
  cases hfa
  have har : ∀ env, AR (callerA.deeper env) n := fun env => ⟨rfl, by show 4 + 3 + 3 * n + 200 < cLine; unfold cLine; (first | lia | omega), by show 1 + claimMargin + 1 + n < recursionLimit; unfold claimMargin recursionLimit; (first | lia | omega)⟩
  have hvr : VRs (D0 s₁) vs (ns.map .int) := VRs_of_ints hi
  have hv : VRs (D0 s₁) [.ref l] [.fl (ns.map .int)] := .cons (.fl (o := listObj vs 0) (cs := vs) hl ⟨0, rfl⟩ (by simp; unfold lim; (first | lia | omega)) hvr.1 hvr.2) .nil
  refine codeAny_mono (call_code (c := ⟨prog, w, s₁, hst, []⟩) (Q := fun v _ => v = .bool true) (Z := ZF) gl (fun l A M => pf_all (gl.at l) A M) (CallN_mono tab n) rfl (fun env => calls_ok gl htab n _ [env] rfl (har env)) (fun env => (har env).ok) (by show 1 + claimMargin < recursionLimit; unfold claimMargin recursionLimit; (first | lia | omega)) h2 h3 h4 t ll w' hv (rel0 rfl)) fun r s' hr => ?_
  cases r with
  | error e => exact (EX.no hr).elim
  | ok fl =>
    cases fl with
    | ret v =>
      obtain ⟨D', v', H', k, hv', R', rfl⟩ := hr
      obtain rfl := hv'.bool_inv
      exact ⟨rfl, fun b o e => R'.dat _ _ (R'.base _ _ e), R'.os, R'.gens⟩
    | next => exact hr.elim
    | brk => exact hr.elim
    | cont => exact hr.elim
end Mini

end
section
set_option autoImplicit false
set_option linter.unusedVariables false
set_option maxRecDepth 100000
namespace Mini
open PySem PyProof.Rows PySem.W

noncomputable def freeChk (p : Program) (loose : List Str) (x : String) : Bool := !startupNames.contains (nm x) && !loose.contains (nm x) && !((recsOf p).map (·.name)).contains (nm x) && !((litsOf p).map (·.1)).contains (nm x) && !((clssOf p loose).map (·.name)).contains (nm x)
noncomputable def fnChk (p : Program) (G : List String) (e : String × List String × List S) : Bool := (recsOf p).any fun d => d.name == nm e.1 && chkF G 60 e.2.1 e.2.2 d.params d.body d.scope

theorem tab_ok {prog : Program} {w : World} {s₁ : Shared} {mg mb : Str → Option Value} {p : Program} {loose : List Str} {mean : ExcName → Option Value} {tab : Tab} {G : List String} (hst : ∃ o, s₁.heap.get? cStatics = some o) (T : Top p loose mean mg mb s₁.heap) (hc : ∀ e ∈ tab, fnChk p G e = true) :
    TabOK ⟨prog, w, s₁, hst, []⟩ mg G tab := fun f ps body e => by
  have hm : (f, ps, body) ∈ tab := by
    clear hc
    induction tab with
    | nil => cases e
    | cons x r ih =>
      obtain ⟨k, v⟩ := x
      rw [List.lookup_cons] at e
      cases hb : f == k with
      | true => rw [hb] at e; cases e; rw [beq_iff_eq.mp hb]; exact .head _
      | false => rw [hb] at e; exact .tail _ (ih e)
  obtain ⟨d, hd, hq⟩ := List.any_eq_true.mp (hc _ hm)
  rw [Bool.and_eq_true, beq_iff_eq] at hq
  obtain ⟨hn, hk⟩ := hq
  obtain ⟨a, o, pm, code, doc, h1, h2, h3, h4⟩ := T.fn d hd
  rw [hn] at h1 h3 h4
  exact ⟨a, o, d.params, d.body, d.scope, pm, code, doc, h1, h2, h3, h4, chkF_ok hk⟩

theorem law_top {prog : Program} {w : World} {s₁ : Shared} {mg mb : Str → Option Value} {p : Program} {loose : List Str} {mean : ExcName → Option Value} {tab : Tab} {fa l : Addr} {vs : List Value} {ns : List Int} {n : Nat} {P : Params} {cl : ClaimW} {cla : Str → Option Addr} {mean' : ExcName → Option Value} {args : List WData} {xs : List WData}
    (T : Top p loose mean mg mb s₁.heap) (hbl : bNames.all (freeChk p loose) = true) {X : List String} (hX : X.all (fun x => (recsOf p).any fun d => d.name == nm x) = true) (hc : ∀ e ∈ tab, fnChk p (tab.map (·.1) ++ X) e = true) (hfa : mg (nm "law") = some (.ref fa)) (hw : Well P s₁.heap (.ref l) (.list xs)) (hL : s₁.heap.IsList l vs.toArray) (hi : IntsAre vs ns) (hlen : ns.length ≤ 63) (hn : n + 1 ≤ 500)
    (hcl : ClsAll s₁.heap mg) (hgens : s₁.gens = #[]) (hpost : cl.post args (.bool true) args = true) (hra : ∀ k, cl.raises args k = false)
    (h : CallN tab (n + 1) "law" [.fl (ns.map .int)] (fun v _ => v = .bool true) ZF (fun _ => none)) :
    codeAny (model prog w) callerA (.call (.ref fa) ⟨[.ref l], []⟩) (GoodW cl cla mean' args s₁) s₁ := by
  have hst : ∃ o, s₁.heap.get? cStatics = some o := by
    obtain ⟨mc, ⟨o, _, _, e, _⟩, _⟩ := T.nodigits
    exact ⟨o, e⟩
  have tk := tab_ok (prog := prog) (w := w) hst T hc
  have hfn : ∀ f, (tab.map (·.1) ++ X).contains f = true → ∃ a o fd, mg (nm f) = some (.ref a) ∧ s₁.heap.get? a = some o ∧ o.data = .func fd := fun f hf => by
    obtain ⟨d, hd, hq⟩ : ∃ d, d ∈ recsOf p ∧ d.name = nm f := by
      rcases List.mem_append.mp (List.contains_iff_mem.mp hf) with hf' | hf'
      · obtain ⟨e, he, rfl⟩ := List.mem_map.mp hf'
        obtain ⟨d, hd, hq⟩ := List.any_eq_true.mp (hc e he)
        rw [Bool.and_eq_true, beq_iff_eq] at hq
        exact ⟨d, hd, hq.1⟩
      · obtain ⟨d, hd, hq⟩ := List.any_eq_true.mp (List.all_eq_true.mp hX f hf')
        exact ⟨d, hd, beq_iff_eq.mp hq⟩
    obtain ⟨a, o, pm, code, doc, h1, h2, h3, h4⟩ := T.fn d hd
    rw [hq] at h1
    exact ⟨a, o, _, h1, h2, h3⟩
  have hbl' : ∀ x, x ∈ bNames → mg (nm x) = none := fun x hx => by
    have := List.all_eq_true.mp hbl x hx
    unfold freeChk at this
    simp only [Bool.and_eq_true, Bool.not_eq_true', List.contains_eq_mem, decide_eq_false_iff_not] at this
    obtain ⟨⟨⟨⟨q1, q2⟩, q3⟩, q4⟩, q5⟩ := this
    exact T.free _ q1 q2 q3 q4 q5
  have hex : s₁.heap.get? l = some (listObj vs 0) := by
    cases hw with
    | list e _ =>
      obtain ⟨o, ho, hc, m, hd⟩ := hL
      rw [e] at ho
      cases ho
      cases hd
      exact e
  refine codeAny_mono (law_call hst T.g T.b T.builtins hbl' T.nolimit hcl hfn tk hfa hex hi hlen hn h) fun r s' hr => ?_
  obtain ⟨rfl, k, o1, o2⟩ := hr
  exact ⟨.inl ⟨.bool true, .bool true, [], rfl, hra, .bool true, hpost, fun _ => ⟨.nil, fun _ hm => nomatch hm⟩⟩, k, o1, o2.trans hgens⟩
end Mini

end
section
set_option autoImplicit false
set_option linter.unusedVariables false
set_option maxRecDepth 100000
namespace Mini
open PySem PyProof.Rows PySem.W

noncomputable def chainOf (x : String) : List Str := if x == "SayError" then [] else ["SayError"]
noncomputable def quietC (h : Heap) (name : Str) : Bool := match h.clsAt mainGlobals name with
  | some (_, _, cd) => qn.all fun n => (h.nsMap cd.ns n).isNone
  | none => false
noncomputable def exOne (h : Heap) (x : String) : Bool := h.ownExcOk (nm x) (chainOf x) mroVE "ValueError.__new__" && quietC h (nm x)
noncomputable def exChk (h : Heap) : Bool := clsNames.all fun x => exOne h x && clsNames.all fun y => ((h.nsMap mainGlobals (nm x)).getD .none :: ((chainOf x).map fun n => (h.nsMap mainGlobals n).getD .none) ++ mroVE).contains ((h.nsMap mainGlobals (nm y)).getD .none) == exSub x y
theorem exOne_of {h : Heap} {x : String} (e : exOne h x = true) : ∃ C N n q bs hdct sn sub ab col dd k0 k1 k2 k3 k5, h.nsMap mainGlobals (nm x) = some (.ref C) ∧
      h.get? C = some (excClassObj n q C N bs (((chainOf x).map fun n => (h.nsMap mainGlobals n).getD .none) ++ mroVE) hdct sn sub ab col dd k0 k1 k2 k3 k5 "ValueError.__new__") ∧ h.Ns N (h.nsMap N) ∧ ∀ n ∈ qn, h.nsMap N n = none := by
  obtain ⟨e1, e2⟩ := Bool.and_eq_true_iff.mp e
  obtain ⟨C, N, n, q, bs, hdct, sn, sub, ab, col, dd, k0, k1, k2, k3, k5, hb, hC, hN, _⟩ := Heap.ownExc_of_ok e1
  refine ⟨C, N, n, q, bs, hdct, sn, sub, ab, col, dd, k0, k1, k2, k3, k5, hb, hC, hN, fun y hy => ?_⟩
  unfold quietC at e2
  cases hf : h.clsAt mainGlobals (nm x) with
  | none => rw [hf] at e2; cases e2
  | some z =>
    obtain ⟨C', o', cd'⟩ := z
    rw [hf] at e2
    obtain ⟨hn', ho', hd'⟩ := Heap.clsAt_spec hf
    rw [hb] at hn'
    obtain rfl : C = C' := by injection hn' with q1; injection q1
    rw [hC] at ho'
    obtain rfl := Option.some.inj ho'
    obtain rfl : _ = cd' := by injection hd'
    exact Option.isNone_iff_eq_none.mp (List.all_eq_true.mp e2 y hy)
theorem cls_of {h : Heap} (e : exChk h = true) : ClsAll h (h.nsMap mainGlobals) := fun x hx => by
  have e1 : ∀ y ∈ clsNames, exOne h y = true := fun y hy => (Bool.and_eq_true_iff.mp (List.all_eq_true.mp e y hy)).1
  have e2 := (Bool.and_eq_true_iff.mp (List.all_eq_true.mp e x hx)).2
  obtain ⟨C, N, n, q, bs, hdct, sn, sub, ab, col, dd, k0, k1, k2, k3, k5, hb, hC, hN, hq⟩ := exOne_of (e1 x hx)
  refine ⟨C, _, hb, ⟨N, n, q, bs, hdct, sn, sub, ab, col, dd, k0, k1, k2, k3, k5, _, hC, hN, hq, ?_⟩, fun y hy C' hC' => ?_⟩
  · unfold chainOf
    split
    · exact .base
    · obtain ⟨C2, N2, n2, q2, bs2, hdct2, sn2, sub2, ab2, col2, dd2, j0, j1, j2, j3, j5, hb2, hC2, hN2, hq2⟩ := exOne_of (e1 "SayError" (.head _))
      show OwnT h mroVE ((h.nsMap mainGlobals "SayError").getD .none :: mroVE)
      rw [hb2]
      exact .own hC2 hN2 hq2 .base
  · have := List.all_eq_true.mp e2 y hy
    rw [hb, hC'] at this
    simpa using this
theorem ClsAll.keeps {h h' : Heap} {mg : Str → Option Value} (k : ClsAll h mg) (hk : ∀ b o, h.get? b = some o → h'.get? b = some o) : ClsAll h' mg := fun x hx => by
  obtain ⟨C, bm, cf⟩ := k x hx
  obtain ⟨N', n, q, bs, hdct, sn, sub, ab, col, dd, k0, k1, k2, k3, k5, mN, hC, hN, hni, T'⟩ := cf.obj
  exact ⟨C, bm, cf.bound, ⟨N', n, q, bs, hdct, sn, sub, ab, col, dd, k0, k1, k2, k3, k5, mN, hk _ _ hC, hN.keeps hk, hni, T'.keeps hk⟩, cf.rel⟩
end Mini

end
namespace Mini
open PySem
noncomputable def b_need : List S :=
  [.ex (.call "looked_at" [.var "saying", .var "letters", .prim .dict0 []])]
noncomputable def b_need_name : List S :=
  [.ifs (.prim .ne [.meth .get (.var "told") [.var "name"], .var "sort"])
    [.raise "NoName"]
    []]
noncomputable def b_with_name : List S :=
  [.asg "more" (.prim .dictOf [.var "told"]),
  .asgI (.var "more") (.var "name") (.var "value"),
  .ret (.var "more")]
noncomputable def b_looked_at : List S :=
  [.asg "kind" (.prim .idx [.var "saying", .cst (.int 0)]),
  .ifs (.prim .eq [.var "kind", .cst (.str "letter")])
    [.ex (.call "need_name" [.prim .idx [.var "saying", .cst (.int 1)], .cst (.str "place"), .var "told"]),
     .ifs (.prim .notin [.prim .idx [.var "saying", .cst (.int 2)], .var "letters"])
       [.raise "NoLetter"]
       []]
    [.ifs (.or (.prim .eq [.var "kind", .cst (.str "ahead")]) (.prim .eq [.var "kind", .cst (.str "same")]))
       [.ex (.call "need_name" [.prim .idx [.var "saying", .cst (.int 1)], .cst (.str "place"), .var "told"]),
        .ex (.call "need_name" [.prim .idx [.var "saying", .cst (.int 2)], .cst (.str "place"), .var "told"])]
       [.ifs (.prim .eq [.var "kind", .cst (.str "within")])
          [.ex (.call "need_name" [.prim .idx [.var "saying", .cst (.int 1)], .cst (.str "place"), .var "told"]),
           .ex (.call "need_name" [.prim .idx [.var "saying", .cst (.int 2)], .cst (.str "set"), .var "told"])]
          [.ifs (.prim .eq [.var "kind", .cst (.str "not")])
             [.ex (.call "looked_at" [.prim .idx [.var "saying", .cst (.int 1)], .var "letters", .var "told"])]
             [.ifs (.or (.prim .eq [.var "kind", .cst (.str "and")]) (.prim .eq [.var "kind", .cst (.str "or")]))
                [.ex (.call "looked_at" [.prim .idx [.var "saying", .cst (.int 1)], .var "letters", .var "told"]),
                 .ex (.call "looked_at" [.prim .idx [.var "saying", .cst (.int 2)], .var "letters", .var "told"])]
                [.ex (.call "looked_at" [.prim .idx [.var "saying", .cst (.int 2)], .var "letters", .call "with_name" [.var "told", .prim .idx [.var "saying", .cst (.int 1)], .var "kind"]])]]]]]]
noncomputable def b_machine_of : List S :=
  [.ex (.call "need" [.var "saying", .var "letters"]),
  .asg "found" (.call "built" [.var "saying", .prim .list [], .var "letters"]),
  .ret (.prim .tuple [.prim .tupleOf [.var "letters"], .prim .idx [.var "found", .cst (.int 1)], .prim .idx [.var "found", .cst (.int 2)]])]
noncomputable def b_fails : List S :=
  [.asg "found" (.call "sought" [.call "turned" [.call "machine_of" [.var "saying", .var "letters"]]]),
  .ifs (.prim .eq [.prim .idx [.var "found", .cst (.int 0)], .cst (.str "none")])
    [.ret (.cst .none)]
    [],
  .ret (.meth .join (.cst (.str "")) [.prim .idx [.var "found", .cst (.int 1)]])]
noncomputable def b_told_apart : List S :=
  [.ex (.call "need" [.var "one", .var "letters"]),
  .ex (.call "need" [.var "other", .var "letters"]),
  .asg "found" (.call "apart" [.call "machine_of" [.var "one", .var "letters"], .call "machine_of" [.var "other", .var "letters"]]),
  .ifs (.prim .isNone [.var "found"])
    [.ret (.cst .none)]
    [],
  .ret (.meth .join (.cst (.str "")) [.var "found"])]
noncomputable def b_l_draw : List S :=
  [.asgI (.var "_law_tape") (.cst (.int 0)) (.prim .add [.prim .idx [.var "_law_tape", .cst (.int 0)], .cst (.int 1)]),
  .ifs (.prim .le [.prim .idx [.var "_law_tape", .cst (.int 0)], .prim .len [.var "_law_script"]])
    [.ret (.prim .mod [.prim .idx [.var "_law_script", .prim .sub [.prim .idx [.var "_law_tape", .cst (.int 0)], .cst (.int 1)]], .var "_law_many"])]
    [],
  .asg "_law_seed" (.prim .len [.var "_law_script"]),
  .for ["_law_cell"] false .plain (.prim .sliceTo [.var "_law_script", .cst (.int 4)])
    [.asg "_law_seed" (.prim .mod [.prim .add [.prim .mul [.var "_law_seed", .cst (.int 131)], .var "_law_cell"], .cst (.int 1000003)])],
  .ret (.prim .mod [.prim .mod [.prim .mul [.prim .add [.var "_law_seed", .cst (.int 7)], .prim .add [.prim .mul [.prim .idx [.var "_law_tape", .cst (.int 0)], .prim .idx [.var "_law_tape", .cst (.int 0)]], .cst (.int 48271)]], .cst (.int 1000003)], .var "_law_many"])]
noncomputable def b_l_marks : List S :=
  [.asg "_law_signs" (.cst (.str "0123456789abcdefghijklmnopqrstuvwxyzABCDEFGHIJKLMNOPQRSTUVWXYZ")),
  .asg "_law_signs" (.prim .add [.var "_law_signs", .cst (.str "#$&'()*+,-./:;<=>?\x40[]^_{|}~! \"\\`")]),
  .asg "_law_at" (.call "_law_draw" [.var "_law_script", .var "_law_tape", .cst (.int 94)]),
  .asg "_law_step" (.prim .add [.cst (.int 1), .call "_law_draw" [.var "_law_script", .var "_law_tape", .cst (.int 23)]]),
  .ret (.comp (.prim .idx [.var "_law_signs", .prim .mod [.prim .add [.var "_law_at", .prim .mul [.var "_law_step", .var "_law_k"]], .cst (.int 94)]]) ["_law_k"] false .range (.var "_law_many"))]
noncomputable def b_l_world : List S :=
  [.asg "_law_many" (.prim .add [.cst (.int 1), .call "_law_draw" [.var "_law_script", .var "_law_tape", .cst (.int 2)]]),
  .ifs (.prim .eq [.call "_law_draw" [.var "_law_script", .var "_law_tape", .cst (.int 6)], .cst (.int 1)])
    [.asg "_law_many" (.prim .add [.cst (.int 3), .call "_law_draw" [.var "_law_script", .var "_law_tape", .cst (.int 2)]])]
    [],
  .asg "_law_signs" (.call "_law_marks" [.var "_law_script", .var "_law_tape", .cst (.int 4)]),
  .asg "_law_begin" (.meth .join (.cst (.str "")) [.comp (.prim .idx [.var "_law_signs", .prim .mod [.var "_law_k", .cst (.int 4)]]) ["_law_k"] false .range (.prim .idx [.prim .list [.cst (.int 0), .cst (.int 1), .cst (.int 30)], .call "_law_draw" [.var "_law_script", .var "_law_tape", .cst (.int 3)]])]),
  .asg "_law_names" (.comp (.prim .add [.var "_law_begin", .var "_law_name"]) ["_law_name"] false .plain (.prim .list [.cst (.str "p"), .prim .add [.prim .idx [.var "_law_signs", .cst (.int 3)], .cst (.str "Q")], .cst (.str "s")])),
  .asg "_law_way" (.call "_law_draw" [.var "_law_script", .var "_law_tape", .cst (.int 4)]),
  .ifs (.prim .lt [.var "_law_way", .cst (.int 2)])
    [.asg "_law_names" (.comp (.prim .add [.prim .add [.var "_law_begin", .var "_law_name"], .var "_law_begin"]) ["_law_name"] false .plain (.prim .list [.cst (.str "p"), .cst (.str "Q"), .cst (.str "s")]))]
    [],
  .ifs (.prim .eq [.var "_law_way", .cst (.int 2)])
    [.asg "_law_names" (.prim .list [.prim .add [.prim .add [.var "_law_begin", .prim .idx [.var "_law_signs", .cst (.int 0)]], .prim .idx [.var "_law_signs", .cst (.int 1)]], .prim .add [.prim .add [.var "_law_begin", .prim .idx [.var "_law_signs", .cst (.int 1)]], .prim .idx [.var "_law_signs", .cst (.int 0)]], .prim .add [.prim .add [.var "_law_begin", .prim .idx [.var "_law_signs", .cst (.int 0)]], .prim .idx [.var "_law_signs", .cst (.int 0)]]])]
    [],
  .ret (.prim .tuple [.meth .join (.cst (.str "")) [.prim .sliceTo [.var "_law_signs", .var "_law_many"]], .var "_law_names"])]
noncomputable def b_l_loose : List S :=
  [.asgT ["_law_letters", "_law_names"] (.var "_law_world_here"),
  .asg "_law_way" (.call "_law_draw" [.var "_law_script", .var "_law_tape", .cst (.int 12)]),
  .asg "_law_name" (.prim .idx [.var "_law_names", .call "_law_draw" [.var "_law_script", .var "_law_tape", .cst (.int 3)]]),
  .asg "_law_other" (.prim .idx [.var "_law_names", .call "_law_draw" [.var "_law_script", .var "_law_tape", .cst (.int 3)]]),
  .ifs (.or (.prim .eq [.var "_law_deep", .cst (.int 0)]) (.prim .lt [.var "_law_way", .cst (.int 2)]))
    [.asg "_law_sign" (.prim .idx [.var "_law_letters", .prim .mod [.call "_law_draw" [.var "_law_script", .var "_law_tape", .cst (.int 12)], .prim .len [.var "_law_letters"]]]),
     .ifs (.prim .eq [.call "_law_draw" [.var "_law_script", .var "_law_tape", .cst (.int 8)], .cst (.int 1)])
       [.asg "_law_sign" (.prim .idx [.compIf (.var "_law_one") ["_law_one"] false .plain (.cst (.str "VWXYZ")) (.prim .notin [.var "_law_one", .var "_law_letters"]), .cst (.int 0)])]
       [],
     .asg "_law_some" (.prim .list [.prim .tuple [.cst (.str "letter"), .var "_law_name", .var "_law_sign"], .prim .tuple [.cst (.str "letter"), .var "_law_name", .var "_law_sign"], .prim .tuple [.cst (.str "ahead"), .var "_law_name", .var "_law_other"], .prim .tuple [.cst (.str "same"), .var "_law_name", .var "_law_other"]]),
     .asg "_law_some" (.prim .add [.var "_law_some", .prim .list [.prim .tuple [.cst (.str "within"), .var "_law_name", .var "_law_other"]]]),
     .ret (.prim .idx [.var "_law_some", .call "_law_draw" [.var "_law_script", .var "_law_tape", .cst (.int 5)]])]
    [],
  .asg "_law_one" (.call "_law_loose" [.var "_law_script", .var "_law_tape", .var "_law_world_here", .prim .sub [.var "_law_deep", .cst (.int 1)]]),
  .ifs (.prim .eq [.var "_law_way", .cst (.int 2)])
    [.ret (.prim .tuple [.cst (.str "not"), .var "_law_one"])]
    [],
  .ifs (.prim .lt [.var "_law_way", .cst (.int 5)])
    [.ret (.prim .tuple [.prim .idx [.prim .list [.cst (.str "and"), .cst (.str "or")], .prim .sub [.var "_law_way", .cst (.int 3)]], .var "_law_one", .call "_law_loose" [.var "_law_script", .var "_law_tape", .var "_law_world_here", .prim .sub [.var "_law_deep", .cst (.int 1)]]])]
    [],
  .ret (.prim .tuple [.prim .idx [.prim .list [.cst (.str "place"), .cst (.str "place"), .cst (.str "place"), .cst (.str "set")], .prim .mod [.var "_law_way", .cst (.int 4)]], .var "_law_name", .var "_law_one"])]
noncomputable def b_l_teller : List S :=
  [.asg "_law_told_here" (.compIf (.var "_law_kind") ["_law_one", "_law_kind"] true .plain (.var "_law_scope") (.prim .eq [.var "_law_one", .var "_law_name"])),
  .ifs (.or (.prim .eq [.var "_law_told_here", .prim .list []]) (.prim .ne [.prim .idx [.var "_law_told_here", .prim .neg [.cst (.int 1)]], .var "_law_sort"]))
    [.ret (.cst (.str "name"))]
    [],
  .ret (.cst (.str ""))]
noncomputable def b_l_wrong : List S :=
  [.ifs (.or (.prim .eq [.prim .idx [.var "_law_saying", .cst (.int 0)], .cst (.str "place")]) (.prim .eq [.prim .idx [.var "_law_saying", .cst (.int 0)], .cst (.str "set")]))
    [.ret (.call "_law_wrong" [.prim .idx [.var "_law_saying", .cst (.int 2)], .var "_law_letters", .prim .add [.var "_law_scope", .prim .list [.prim .tuple [.prim .idx [.var "_law_saying", .cst (.int 1)], .prim .idx [.var "_law_saying", .cst (.int 0)]]]]])]
    [],
  .ifs (.prim .isin [.prim .idx [.var "_law_saying", .cst (.int 0)], .prim .tuple [.cst (.str "not"), .cst (.str "and"), .cst (.str "or")]])
    [.asg "_law_told_here" (.comp (.call "_law_wrong" [.var "_law_part", .var "_law_letters", .var "_law_scope"]) ["_law_part"] false .plain (.prim .sliceFrom [.var "_law_saying", .cst (.int 1)])),
     .ret (.prim .idx [.prim .add [.compIf (.var "_law_word") ["_law_word"] false .plain (.var "_law_told_here") (.prim .ne [.var "_law_word", .cst (.str "")]), .prim .list [.cst (.str "")]], .cst (.int 0)])]
    [],
  .asg "_law_word" (.call "_law_teller" [.var "_law_scope", .prim .idx [.var "_law_saying", .cst (.int 1)], .cst (.str "place")]),
  .ifs (.prim .ne [.var "_law_word", .cst (.str "")])
    [.ret (.var "_law_word")]
    [],
  .ifs (.prim .eq [.prim .idx [.var "_law_saying", .cst (.int 0)], .cst (.str "letter")])
    [.ret (.prim .idx [.prim .list [.cst (.str "letter"), .cst (.str "")], .prim .toInt [.prim .isin [.prim .idx [.var "_law_saying", .cst (.int 2)], .var "_law_letters"]]])]
    [],
  .ret (.call "_law_teller" [.var "_law_scope", .prim .idx [.var "_law_saying", .cst (.int 2)], .prim .idx [.prim .list [.cst (.str "place"), .cst (.str "set")], .prim .toInt [.prim .eq [.prim .idx [.var "_law_saying", .cst (.int 0)], .cst (.str "within")]]]])]
noncomputable def b_l_told : List S :=
  [.asg "_law_good" (.prim .tuple [.cst (.str "place"), .cst (.str "x"), .prim .tuple [.cst (.str "same"), .cst (.str "x"), .cst (.str "x")]]),
  .tryS [.ifs (.prim .eq [.var "_law_way", .cst (.int 0)])
       [.ex (.call "need" [.var "_law_saying", .var "_law_letters"])]
       [.ifs (.prim .eq [.var "_law_way", .cst (.int 1)])
          [.ex (.call "machine_of" [.var "_law_saying", .var "_law_letters"])]
          [.ifs (.prim .eq [.var "_law_way", .cst (.int 2)])
             [.ex (.call "fails" [.var "_law_saying", .var "_law_letters"])]
             [.ifs (.prim .eq [.var "_law_way", .cst (.int 3)])
                [.ex (.call "told_apart" [.var "_law_saying", .var "_law_good", .var "_law_letters"])]
                [.ex (.call "told_apart" [.var "_law_good", .var "_law_saying", .var "_law_letters"])]]]]]
    "NoName" none
    [.ret (.cst (.str "name"))]
    "NoLetter"
    [.ret (.cst (.str "letter"))],
  .ret (.cst (.str ""))]
noncomputable def b_l_both : List S :=
  [.asg "_law_other" (.call "_law_loose" [.var "_law_script", .var "_law_tape", .var "_law_world_here", .cst (.int 2)]),
  .asg "_law_sign" (.prim .idx [.compIf (.var "_law_one") ["_law_one"] false .plain (.cst (.str "VWXYZ")) (.prim .notin [.var "_law_one", .prim .idx [.var "_law_world_here", .cst (.int 0)]]), .cst (.int 0)]),
  .ifs (.prim .eq [.var "_law_word", .cst (.str "name")])
    [.asg "_law_other" (.prim .tuple [.cst (.str "place"), .cst (.str "x"), .prim .tuple [.cst (.str "letter"), .cst (.str "x"), .var "_law_sign"]])]
    [],
  .tryS [.ex (.call "told_apart" [.var "_law_saying", .var "_law_other", .prim .idx [.var "_law_world_here", .cst (.int 0)]])]
    "NoName" none
    [.ret (.prim .eq [.var "_law_word", .cst (.str "name")])]
    "NoLetter"
    [.ret (.prim .eq [.var "_law_word", .cst (.str "letter")])],
  .ret (.cst (.bool false))]
noncomputable def b_l_any : List S :=
  [.tryS [.ex (.call "need" [.var "_law_saying", .var "_law_letters"])]
    "SayError" (some "e")
    [.asg "_law_sorts" (.prim .list [.prim (.isx "NoName") [.var "e"], .prim (.isx "NoLetter") [.var "e"], .prim (.isx "OtherMarks") [.var "e"]]),
     .ret (.and (.prim (.isx "ValueError") [.var "e"]) (.prim .eq [.meth .count (.var "_law_sorts") [.cst (.bool true)], .cst (.int 1)]))]
    ""
    [],
  .ret (.cst (.bool false))]
noncomputable def b_law_08 : List S :=
  [.asg "_law_tape" (.prim .list [.cst (.int 0)]),
  .asg "_law_way" (.call "_law_draw" [.var "_law_script", .var "_law_tape", .cst (.int 5)]),
  .asg "_law_world_here" (.call "_law_world" [.var "_law_script", .var "_law_tape"]),
  .asg "_law_saying" (.call "_law_loose" [.var "_law_script", .var "_law_tape", .var "_law_world_here", .cst (.int 3)]),
  .asg "_law_word" (.call "_law_wrong" [.var "_law_saying", .prim .idx [.var "_law_world_here", .cst (.int 0)], .prim .list []]),
  .ifs (.prim .eq [.var "_law_word", .cst (.str "")])
    [.ret (.prim .isNone [.call "need" [.var "_law_saying", .prim .idx [.var "_law_world_here", .cst (.int 0)]]])]
    [],
  .ifs (.or (.prim .ne [.call "_law_told" [.cst (.int 0), .var "_law_saying", .prim .idx [.var "_law_world_here", .cst (.int 0)]], .var "_law_word"]) (.prim .not [.call "_law_any" [.var "_law_saying", .prim .idx [.var "_law_world_here", .cst (.int 0)]]]))
    [.ret (.cst (.bool false))]
    [],
  .ret (.and (.prim .eq [.call "_law_told" [.var "_law_way", .var "_law_saying", .prim .idx [.var "_law_world_here", .cst (.int 0)]], .var "_law_word"]) (.call "_law_both" [.var "_law_script", .var "_law_tape", .var "_law_world_here", .var "_law_saying", .var "_law_word"]))]
noncomputable def tab_08 : Tab :=
  [("need", ["saying", "letters"], b_need),
   ("need_name", ["name", "sort", "told"], b_need_name),
   ("with_name", ["told", "name", "value"], b_with_name),
   ("looked_at", ["saying", "letters", "told"], b_looked_at),
   ("machine_of", ["saying", "letters"], b_machine_of),
   ("fails", ["saying", "letters"], b_fails),
   ("told_apart", ["one", "other", "letters"], b_told_apart),
   ("_law_draw", ["_law_script", "_law_tape", "_law_many"], b_l_draw),
   ("_law_marks", ["_law_script", "_law_tape", "_law_many"], b_l_marks),
   ("_law_world", ["_law_script", "_law_tape"], b_l_world),
   ("_law_loose", ["_law_script", "_law_tape", "_law_world_here", "_law_deep"], b_l_loose),
   ("_law_teller", ["_law_scope", "_law_name", "_law_sort"], b_l_teller),
   ("_law_wrong", ["_law_saying", "_law_letters", "_law_scope"], b_l_wrong),
   ("_law_told", ["_law_way", "_law_saying", "_law_letters"], b_l_told),
   ("_law_both", ["_law_script", "_law_tape", "_law_world_here", "_law_saying", "_law_word"], b_l_both),
   ("_law_any", ["_law_saying", "_law_letters"], b_l_any),
   ("law", ["_law_script"], b_law_08)]


end Mini
section
set_option autoImplicit false
namespace Mini
open PySem

noncomputable def Ext (H H' : MH) : Prop := ∀ a o, H a = some o → H' a = some o
theorem Ext.refl (H : MH) : Ext H H := fun _ _ h => h
theorem Ext.trans {H1 H2 H3 : MH} (h : Ext H1 H2) (k : Ext H2 H3) : Ext H1 H3 := fun a o e => k a o (h a o e)
theorem Ext.new {H : MH} {a : Addr} {o : Ob} (h : H a = none) : Ext H (hupd H a o) := fun b x e => by
  unfold hupd; split
  · rename_i q; rw [q, h] at e; cases e
  · exact e
@[simp] theorem hupd_eq (H : MH) (a : Addr) (o : Ob) : hupd H a o a = some o := by simp [hupd]
theorem hupd_ne {H : MH} {a b : Addr} {o : Ob} (h : b ≠ a) : hupd H a o b = H b := by simp [hupd, h]
@[simp] theorem hupd_twice (H : MH) (a : Addr) (o p : Ob) : hupd (hupd H a o) a p = hupd H a p := by funext b; unfold hupd; split <;> rfl
@[simp] theorem upd_same (ρ : Env) (x : String) (v : V) : upd ρ x v x = some v := by simp [upd]
@[simp] theorem upd_ne {ρ : Env} {x y : String} {v : V} (h : y ≠ x) : upd ρ x v y = ρ y := by simp [upd, h]

section
variable (C : CallSem) (ρ : Env) (Q : V → MH → Prop) (Z : Z0) (H : MH) (N : Env → MH → Prop) (R : V → MH → Prop)
@[simp] theorem w_cst (c : V) : wpE C (.cst c) ρ Q Z H = Q c H := by kernel_rfl
@[simp] theorem w_var (x : String) : wpE C (.var x) ρ Q Z H = ∃ v, ρ x = some v ∧ Q v H := by kernel_rfl
@[simp] theorem w_prim (p : Prim) (args : List X) : wpE C (.prim p args) ρ Q Z H = wpL C args ρ (fun vs H' => ∃ r, primOp p H' vs = some r ∧ fin Q H' r) Z H := by kernel_rfl
@[simp] theorem w_and (l r : X) : wpE C (.and l r) ρ Q Z H = wpE C l ρ (asB fun b H' => (b = true → wpE C r ρ Q Z H') ∧ (b = false → Q (.bool false) H')) Z H := by kernel_rfl
@[simp] theorem w_or (l r : X) : wpE C (.or l r) ρ Q Z H = wpE C l ρ (asB fun b H' => (b = false → wpE C r ρ Q Z H') ∧ (b = true → Q (.bool true) H')) Z H := by kernel_rfl
@[simp] theorem w_call (f : String) (args : List X) : wpE C (.call f args) ρ Q Z H = wpL C args ρ (fun vs H' => C f vs Q Z H') Z H := by kernel_rfl
@[simp] theorem w_meth (p : Prim) (o : X) (args : List X) : wpE C (.meth p o args) ρ Q Z H = wpE C o ρ (fun ov H1 => (methT p H1 ov).isSome = true ∧ wpL C args ρ (fun vs H2 => ∃ r, primOp p H2 (ov :: vs) = some r ∧ fin Q H2 r) Z H1) Z H := by kernel_rfl
theorem w_comp (elt : X) (tgt : List String) (isT : Bool) (sk : SK) (src : X) : wpE C (.comp elt tgt isT sk src) ρ Q Z H = wpE C src ρ (fun sv H1 => ∃ vs w, srcItems sk H1 sv = some (vs, w) ∧
      iterC (watch w) (fun v acc k H2 => ∃ ρ1, bindT isT tgt v ρ = some ρ1 ∧ wpE C elt ρ1 (fun ev H3 => k (acc ++ [ev]) H3) ZF H2) vs [] (doneC Q) H1) Z H := by kernel_rfl
theorem w_compIf (elt : X) (tgt : List String) (isT : Bool) (sk : SK) (src cond : X) : wpE C (.compIf elt tgt isT sk src cond) ρ Q Z H = wpE C src ρ (fun sv H1 => ∃ vs w, srcItems sk H1 sv = some (vs, w) ∧
      iterC (watch w) (fun v acc k H2 => ∃ ρ1, bindT isT tgt v ρ = some ρ1 ∧ wpE C cond ρ1 (asB fun b H3 =>
        (b = true → wpE C elt ρ1 (fun ev H4 => k (acc ++ [ev]) H4) ZF H3) ∧ (b = false → k acc H3)) ZF H2) vs [] (doneC Q) H1) Z H := by kernel_rfl
@[simp] theorem w_nil (Q : List V → MH → Prop) : wpL C [] ρ Q Z H = Q [] H := by kernel_rfl
@[simp] theorem w_cons (e : X) (r : List X) (Q : List V → MH → Prop) : wpL C (e :: r) ρ Q Z H = wpE C e ρ (fun v H' => wpL C r ρ (fun vs H'' => Q (v :: vs) H'') Z H') Z H := by kernel_rfl
@[simp] theorem s_nil : wpSs C [] ρ N R Z H = N ρ H := by kernel_rfl
theorem s_cons (s : S) (r : List S) : wpSs C (s :: r) ρ N R Z H = wpS C s ρ (fun ρ' H' => wpSs C r ρ' N R Z H') R Z H := by kernel_rfl
@[simp] theorem s_asg (x : String) (e : X) : wpS C (.asg x e) ρ N R Z H = wpE C e ρ (fun v H' => N (upd ρ x v) H') Z H := by kernel_rfl
@[simp] theorem s_asgT (xs : List String) (e : X) : wpS C (.asgT xs e) ρ N R Z H = wpE C e ρ (fun v H' => ∃ ρ1, bindT true xs v ρ = some ρ1 ∧ N ρ1 H') Z H := by kernel_rfl
@[simp] theorem s_asgI (o i e : X) : wpS C (.asgI o i e) ρ N R Z H = wpE C e ρ (fun v H1 => wpE C o ρ (fun ov H2 => wpE C i ρ (fun iv H3 => ∃ r, setOp H3 ov iv v = some r ∧ fin (fun _ H4 => N ρ H4) H3 r) Z H2) Z H1) Z H := by kernel_rfl
@[simp] theorem s_ex (e : X) : wpS C (.ex e) ρ N R Z H = wpE C e ρ (fun v H' => isPlain v = true ∧ N ρ H') Z H := by kernel_rfl
@[simp] theorem s_ret (e : X) : wpS C (.ret e) ρ N R Z H = wpE C e ρ R Z H := by kernel_rfl
@[simp] theorem s_ifs (c : X) (t e : List S) : wpS C (.ifs c t e) ρ N R Z H = wpE C c ρ (asB fun b H' => (b = true → wpSs C t ρ N R Z H') ∧ (b = false → wpSs C e ρ N R Z H')) Z H := by kernel_rfl
theorem s_for (tgt : List String) (isT : Bool) (sk : SK) (src : X) (body : List S) : wpS C (.for tgt isT sk src body) ρ N R Z H = wpE C src ρ (fun sv H1 => ∃ vs w, srcItems sk H1 sv = some (vs, w) ∧
      iterF (watch w) (fun v ρ' k H2 => ∃ ρ1, bindT isT tgt v ρ' = some ρ1 ∧ wpSs C body ρ1 k R ZF H2) vs ρ N H1) Z H := by kernel_rfl
@[simp] theorem s_pass : wpS C .pass ρ N R Z H = N ρ H := by kernel_rfl
@[simp] theorem asB_bool (K : Bool → MH → Prop) (b : Bool) : asB K (.bool b) H = K b H := by simp [asB]
@[simp] theorem fin_val (v : V) : fin Q H (.val v) = Q v H := rfl
@[simp] theorem fin_new (o : Ob) : fin Q H (.new o) = ∀ a, H a = none → Q (.ref a) (hupd H a o) := rfl
@[simp] theorem fin_upd (a : Addr) (o : Ob) (v : V) : fin Q H (.upd a o v) = Q v (hupd H a o) := rfl
end

section
variable (H : MH) (a b : V) (i j : Int) (x y : Bool)
@[simp] theorem p_add : primOp .add H [.int i, .int j] = some (.val (.int (i + j))) := rfl
@[simp] theorem p_sub : primOp .sub H [.int i, .int j] = some (.val (.int (i - j))) := rfl
theorem p_mul (h : small i = true) (h' : small j = true) : primOp .mul H [.int i, .int j] = some (.val (.int (i * j))) := by
  show (if small i && small j then _ else _) = _; rw [h, h']; rfl
theorem p_mod (h : 0 < j) : primOp .mod H [.int i, .int j] = some (.val (.int (i % j))) := if_pos h
@[simp] theorem p_lt : primOp .lt H [.int i, .int j] = some (.val (.bool (decide (i < j)))) := rfl
@[simp] theorem p_le : primOp .le H [.int i, .int j] = some (.val (.bool (decide (i ≤ j)))) := rfl
@[simp] theorem p_gt : primOp .gt H [.int i, .int j] = some (.val (.bool (decide (j < i)))) := rfl
@[simp] theorem p_ge : primOp .ge H [.int i, .int j] = some (.val (.bool (decide (j ≤ i)))) := rfl
@[simp] theorem p_not : primOp .not H [.bool x] = some (.val (.bool (!x))) := rfl
@[simp] theorem p_idx : primOp .idx H [a, b] = (idxOp H a b).map .val := rfl
end
theorem call_of {tab : Tab} {n : Nat} {f : String} {ps : List String} {body : List S} {args : List V} {Q : V → MH → Prop} {Z : Z0} {H : MH} (h : tab.lookup f = some (ps, body)) (l : ps.length = args.length) (w : wpSs (CallN tab n) body (bindE ps args) (fun _ H' => Q .none H') Q Z H) :
    CallN tab (n + 1) f args Q Z H := ⟨ps, body, h, l, w⟩

noncomputable def ExtT (t : Addr) (H H' : MH) : Prop := ∀ a o, a ≠ t → H a = some o → H' a = some o
theorem ExtT.trans {t : Addr} {H1 H2 H3 : MH} (h : ExtT t H1 H2) (k : ExtT t H2 H3) : ExtT t H1 H3 := fun a o n e => k a o n (h a o n e)
theorem ExtT.upd {t : Addr} {H : MH} {o : Ob} : ExtT t H (hupd H t o) := fun b x n e => by simpa [hupd, n] using e
theorem ExtT.new {t : Addr} {H : MH} {a : Addr} {o : Ob} (h : H a = none) : ExtT t H (hupd H a o) := fun b x _ e => Ext.new h b x e
theorem Ext.toT {t : Addr} {H H' : MH} (h : Ext H H') : ExtT t H H' := fun a o _ e => h a o e
theorem ne_of_some {H : MH} {a b : Addr} {o : Ob} (ha : H a = none) (hb : H b = some o) : b ≠ a := fun e => by rw [e, ha] at hb; cases hb
theorem new_other {H : MH} {a b : Addr} {o o' : Ob} (ha : H a = none) (hb : H b = some o) : hupd H a o' b = some o := by rw [hupd_ne (ne_of_some ha hb)]; exact hb

theorem idx_list {H : MH} {a : Addr} {vs : List V} {k : Int} {j : Nat} {v : V} (h : H a = some (.list vs)) (e : pyIdx vs.length k = some j) (hv : vs[j]? = some v) : idxOp H (.ref a) (.int k) = some v := by
  simp only [idxOp, h, e, Option.bind_some, hv]
theorem pyIdx_nat {n j : Nat} (h : j < n) : pyIdx n (j : Int) = some j := by
  unfold pyIdx; rw [if_pos (by (first | lia | omega)), if_pos (by (first | lia | omega))]; simp
theorem pyIdx_pos {n : Nat} {k : Int} (h : 0 ≤ k) (h' : k < n) : pyIdx n k = some k.toNat := by
  unfold pyIdx; rw [if_pos h, if_pos h']
theorem src_list {H : MH} {a : Addr} {vs : List V} (h : H a = some (.list vs)) : srcItems .plain H (.ref a) = some (vs, some (a, vs)) := by
  show (match H a with
    | some (.list vs) => some (vs, some (a, vs))
    | _ => none) = _
  rw [h]
theorem src_range (H : MH) {m : Nat} (h : m ≤ lim) : srcItems .range H (.int m) = some ((List.range m).map (fun (i : Nat) => V.int i), none) := by
  show (if (decide (0 ≤ (m : Int)) && decide ((m : Int) ≤ lim)) = true then some ((List.range (m : Int).toNat).map (fun (i : Nat) => V.int i), none) else none) = _
  rw [if_pos, Int.toNat_natCast]
  rw [Bool.and_eq_true, decide_eq_true_eq, decide_eq_true_eq]
  exact ⟨Int.natCast_nonneg m, by (first | lia | omega)⟩
theorem iterF_all {w : MH → Prop} {st : V → Env → (Env → MH → Prop) → MH → Prop} {N : Env → MH → Prop} (I : List V → Env → MH → Prop) (hw : ∀ vs ρ H, I vs ρ H → w H) (hs : ∀ v vs ρ H, I (v :: vs) ρ H → st v ρ (fun ρ' H' => I vs ρ' H') H)
    (hm : ∀ v ρ k k' H, (∀ a H, k a H → k' a H) → st v ρ k H → st v ρ k' H) (hN : ∀ ρ H, I [] ρ H → N ρ H) : ∀ (vs : List V) (ρ : Env) (H : MH), I vs ρ H → iterF w st vs ρ N H
  | [], ρ, H, h => ⟨hw _ _ _ h, hN _ _ h⟩
  | v :: vs, ρ, H, h => ⟨hw _ _ _ h, hm v ρ _ _ H (fun ρ' H' h' => iterF_all I hw hs hm hN vs ρ' H' h') (hs v vs ρ H h)⟩
theorem iterC_all {w : MH → Prop} {st : V → List V → (List V → MH → Prop) → MH → Prop} {K : List V → MH → Prop} (I : List V → List V → MH → Prop) (hw : ∀ vs acc H, I vs acc H → w H) (hs : ∀ v vs acc H, I (v :: vs) acc H → st v acc (fun acc' H' => I vs acc' H') H)
    (hm : ∀ v acc k k' H, (∀ a H, k a H → k' a H) → st v acc k H → st v acc k' H) (hN : ∀ acc H, I [] acc H → K acc H) : ∀ (vs acc : List V) (H : MH), I vs acc H → iterC w st vs acc K H
  | [], acc, H, h => ⟨hw _ _ _ h, hN _ _ h⟩
  | v :: vs, acc, H, h => ⟨hw _ _ _ h, hm v acc _ _ H (fun acc' H' h' => iterC_all I hw hs hm hN vs acc' H' h') (hs v vs acc H h)⟩

noncomputable def valOf : Option Res → Option V
  | some (.val v) => some v
  | _ => none
mutual
noncomputable def pev (H : MH) (ρ : Env) : X → Option V
  | .cst c => some c
  | .var x => ρ x
  | .prim p args => (pevs H ρ args).bind fun vs => valOf (primOp p H vs)
  | .and l r => (match pev H ρ l with
    | some (.bool true) => pev H ρ r
    | some (.bool false) => some (.bool false)
    | _ => none)
  | .or l r => (match pev H ρ l with
    | some (.bool false) => pev H ρ r
    | some (.bool true) => some (.bool true)
    | _ => none)
  | .meth p o args => (match pev H ρ o with
    | some ov => if (methT p H ov).isSome then (pevs H ρ args).bind fun vs => valOf (primOp p H (ov :: vs)) else none
    | none => none)
  | _ => none
noncomputable def pevs (H : MH) (ρ : Env) : List X → Option (List V)
  | [] => some []
  | e :: r => (pev H ρ e).bind fun v => (pevs H ρ r).map fun vs => v :: vs
end
@[simp] theorem pev_cst (H : MH) (ρ : Env) (c : V) : pev H ρ (.cst c) = some c := by kernel_rfl
@[simp] theorem pev_var (H : MH) (ρ : Env) (x : String) : pev H ρ (.var x) = ρ x := by kernel_rfl
@[simp] theorem pev_prim (H : MH) (ρ : Env) (p : Prim) (as : List X) : pev H ρ (.prim p as) = (pevs H ρ as).bind fun vs => valOf (primOp p H vs) := by kernel_rfl
theorem pev_meth0 (H : MH) (ρ : Env) (p : Prim) (o : X) (as : List X) : pev H ρ (.meth p o as) = (match pev H ρ o with
    | some ov => if (methT p H ov).isSome then (pevs H ρ as).bind fun vs => valOf (primOp p H (ov :: vs)) else none
    | none => none) := by kernel_rfl
theorem pev_meth {H : MH} {ρ : Env} {p : Prim} {o : X} {as : List X} {ov : V} {vs : List V} (ho : pev H ρ o = some ov) (hm : (methT p H ov).isSome = true) (ha : pevs H ρ as = some vs) : pev H ρ (.meth p o as) = valOf (primOp p H (ov :: vs)) := by
  rw [pev_meth0, ho]
  show (if (methT p H ov).isSome then (pevs H ρ as).bind fun vs => valOf (primOp p H (ov :: vs)) else none) = _
  rw [hm, ha]; rfl
theorem pev_and (H : MH) (ρ : Env) (l r : X) : pev H ρ (.and l r) = (match pev H ρ l with
    | some (.bool true) => pev H ρ r
    | some (.bool false) => some (.bool false)
    | _ => none) := by kernel_rfl
theorem pev_or (H : MH) (ρ : Env) (l r : X) : pev H ρ (.or l r) = (match pev H ρ l with
    | some (.bool false) => pev H ρ r
    | some (.bool true) => some (.bool true)
    | _ => none) := by kernel_rfl
@[simp] theorem pevs_nil (H : MH) (ρ : Env) : pevs H ρ [] = some [] := by kernel_rfl
@[simp] theorem pevs_cons (H : MH) (ρ : Env) (e : X) (r : List X) : pevs H ρ (e :: r) = (pev H ρ e).bind fun v => (pevs H ρ r).map fun vs => v :: vs := by kernel_rfl
mutual
theorem pev_ok {C : CallSem} {ρ : Env} {Z : Z0} {H : MH} : ∀ (e : X) (v : V) (Q : V → MH → Prop), pev H ρ e = some v → Q v H → wpE C e ρ Q Z H
  | .cst c, v, Q, h, q => by rw [w_cst]; rw [pev_cst] at h; cases h; exact q
  | .var x, v, Q, h, q => by rw [w_var]; rw [pev_var] at h; exact ⟨v, h, q⟩
  | .prim p args, v, Q, h, q => by
    rw [w_prim]
    rw [pev_prim] at h
    obtain ⟨vs, e1, e2⟩ := Option.bind_eq_some_iff.mp h
    refine pevs_ok args vs _ e1 ?_
    unfold valOf at e2
    split at e2
    · rename_i u e3; cases e2; exact ⟨_, e3, q⟩
    · cases e2
  | .and l r, v, Q, h, q => by
    rw [w_and]
    rw [pev_and] at h
    split at h
    · rename_i e1; exact pev_ok l _ _ e1 (by rw [asB_bool]; exact ⟨fun _ => pev_ok r v Q h q, fun e => by cases e⟩)
    · rename_i e1; cases h; exact pev_ok l _ _ e1 (by rw [asB_bool]; exact ⟨fun e => by (cases e), fun _ => q⟩)
    · cases h
  | .or l r, v, Q, h, q => by
    rw [w_or]
    rw [pev_or] at h
    split at h
    · rename_i e1; exact pev_ok l _ _ e1 (by rw [asB_bool]; exact ⟨fun _ => pev_ok r v Q h q, fun e => by cases e⟩)
    · rename_i e1; cases h; exact pev_ok l _ _ e1 (by rw [asB_bool]; exact ⟨fun e => by (cases e), fun _ => q⟩)
    · cases h
  | .call _ _, v, Q, h, q => by cases h
  | .meth p o args, v, Q, h, q => by
    rw [w_meth]
    rw [pev_meth0] at h
    split at h
    · rename_i ov e0
      split at h
      · rename_i hm
        obtain ⟨vs, e1, e2⟩ := Option.bind_eq_some_iff.mp h
        refine pev_ok o _ _ e0 ⟨hm, pevs_ok args vs _ e1 ?_⟩
        unfold valOf at e2
        split at e2
        · rename_i u e3; cases e2; exact ⟨_, e3, q⟩
        · cases e2
      · cases h
    · cases h
  | .comp _ _ _ _ _, v, Q, h, q => by cases h
  | .compIf _ _ _ _ _ _, v, Q, h, q => by cases h
theorem pevs_ok {C : CallSem} {ρ : Env} {Z : Z0} {H : MH} : ∀ (es : List X) (vs : List V) (Q : List V → MH → Prop), pevs H ρ es = some vs → Q vs H → wpL C es ρ Q Z H
  | [], vs, Q, h, q => by rw [w_nil]; rw [pevs_nil] at h; cases h; exact q
  | e :: r, vs, Q, h, q => by
    rw [w_cons]
    rw [pevs_cons] at h
    obtain ⟨v, e1, e2⟩ := Option.bind_eq_some_iff.mp h
    obtain ⟨ws, e3, rfl⟩ := Option.map_eq_some_iff.mp e2
    exact pev_ok e v _ e1 (pevs_ok r ws _ e3 q)
end
section
variable {C : CallSem} {ρ : Env} {Q : V → MH → Prop} {Z : Z0} {H : MH} {N : Env → MH → Prop} {R : V → MH → Prop} {r : List S} {e : X} {v : V}
theorem st_set {x : String} (h : pev H ρ e = some v) (k : wpSs C r (upd ρ x v) N R Z H) : wpSs C (.asg x e :: r) ρ N R Z H := by
  rw [s_cons, s_asg]; exact pev_ok e v _ h k
theorem st_setC {x f : String} {as : List X} {vs : List V} (h : pevs H ρ as = some vs) (k : C f vs (fun v H' => wpSs C r (upd ρ x v) N R Z H') Z H) : wpSs C (.asg x (.call f as) :: r) ρ N R Z H := by
  rw [s_cons, s_asg, w_call]; exact pevs_ok as vs _ h k
theorem st_back (h : pev H ρ e = some v) (k : R v H) : wpSs C (.ret e :: r) ρ N R Z H := by
  rw [s_cons, s_ret]; exact pev_ok e v _ h k
theorem st_if {b : Bool} {t u : List S} (h : pev H ρ e = some (.bool b)) (kt : b = true → wpSs C t ρ (fun ρ' H' => wpSs C r ρ' N R Z H') R Z H) (kf : b = false → wpSs C u ρ (fun ρ' H' => wpSs C r ρ' N R Z H') R Z H) : wpSs C (.ifs e t u :: r) ρ N R Z H := by
  rw [s_cons, s_ifs]; exact pev_ok e _ _ h (by rw [asB_bool]; exact ⟨kt, kf⟩)
theorem l_pure {es : List X} {K : List V → MH → Prop} (h : pev H ρ e = some v) (k : wpL C es ρ (fun vs H' => K (v :: vs) H') Z H) : wpL C (e :: es) ρ K Z H := by
  rw [w_cons]; exact pev_ok e v _ h k
theorem l_call {f : String} {as : List X} {vs : List V} {es : List X} {K : List V → MH → Prop} (h : pevs H ρ as = some vs) (k : C f vs (fun v H' => wpL C es ρ (fun ws H'' => K (v :: ws) H'') Z H') Z H) : wpL C (.call f as :: es) ρ K Z H := by
  rw [w_cons, w_call]; exact pevs_ok as vs _ h k
theorem i_call {f : String} {as : List X} {vs : List V} (h : pevs H ρ as = some vs) (k : C f vs Q Z H) : wpE C (.call f as) ρ Q Z H := by
  rw [w_call]; exact pevs_ok as vs _ h k
end
@[simp] theorem valOf_val (v : V) : valOf (some (.val v)) = some v := rfl
@[simp] theorem valOf_map (o : Option V) : valOf (o.map .val) = o := by cases o <;> rfl
@[simp] theorem valOf_rb (o : Option Bool) : valOf (rb o) = o.map .bool := by cases o <;> rfl
@[simp] theorem p_eq (H : MH) (a b : V) : primOp .eq H [a, b] = rb (eqOp H a b) := rfl
@[simp] theorem p_ne (H : MH) (a b : V) : primOp .ne H [a, b] = rb ((eqOp H a b).map (!·)) := rfl
@[simp] theorem p_isin (H : MH) (a b : V) : primOp .isin H [a, b] = rb (inOp H a b) := rfl
@[simp] theorem p_notin (H : MH) (a b : V) : primOp .notin H [a, b] = rb ((inOp H a b).map (!·)) := rfl
@[simp] theorem p_neg (H : MH) (i : Int) : primOp .neg H [.int i] = some (.val (.int (-i))) := rfl
@[simp] theorem p_lenS (H : MH) (x : Str) : primOp .len H [.str x] = some (.val (.int x.length)) := rfl
@[simp] theorem p_lenT (H : MH) (vs : List V) : primOp .len H [.tup vs] = some (.val (.int vs.length)) := rfl
@[simp] theorem p_lenF (H : MH) (vs : List V) : primOp .len H [.fl vs] = some (.val (.int vs.length)) := rfl
@[simp] theorem p_tuple (H : MH) (vs : List V) : primOp .tuple H vs = valT vs := by cases vs <;> rfl
@[simp] theorem p_list (H : MH) (vs : List V) : primOp .list H vs = newL vs := by cases vs <;> rfl
@[simp] theorem p_isi (H : MH) (t : Ty) (a : V) : primOp (.isi t) H [a] = rb (isiOf H t a) := rfl
@[simp] theorem p_addS (H : MH) (x y : Str) : primOp .add H [.str x, .str y] = valS (x ++ y) := rfl
@[simp] theorem idx_tup (H : MH) (vs : List V) (k : Int) : idxOp H (.tup vs) (.int k) = (pyIdx vs.length k).bind (vs[·]?) := rfl
@[simp] theorem idx_fl (H : MH) (vs : List V) (k : Int) : idxOp H (.fl vs) (.int k) = (pyIdx vs.length k).bind (vs[·]?) := rfl
section
variable {C : CallSem} {ρ : Env} {Q : V → MH → Prop} {Z : Z0} {H : MH} {N : Env → MH → Prop} {R : V → MH → Prop} {r : List S}
theorem st_forG (hC : MonoC C) {tgt : List String} {isT : Bool} {sk : SK} {src : X} {body : List S}
    (h : wpE C src ρ (fun sv H1 => ∃ vs w, srcItems sk H1 sv = some (vs, w) ∧ ∃ I : List V → Env → MH → Prop, I vs ρ H1 ∧ (∀ vs ρ' H', I vs ρ' H' → watch w H') ∧
      (∀ v vs ρ' H', I (v :: vs) ρ' H' → ∃ ρ1, bindT isT tgt v ρ' = some ρ1 ∧ wpSs C body ρ1 (fun ρ2 H2 => I vs ρ2 H2) R ZF H') ∧ ∀ ρ' H', I [] ρ' H' → wpSs C r ρ' N R Z H') Z H) : wpSs C (.for tgt isT sk src body :: r) ρ N R Z H := by
  rw [s_cons, s_for]
  refine wpE_mono hC h (fun sv H1 hh => ?_) fun _ _ z => z
  obtain ⟨vs, w, e, I, h0, hw, hs, hN⟩ := hh
  exact ⟨vs, w, e, iterF_all I hw hs (fun v ρ' k k' H' kk hh => let ⟨ρ1, e, x⟩ := hh; ⟨ρ1, e, wpSs_mono hC x kk (fun _ _ z => z) fun _ _ z => z⟩) hN vs ρ H1 h0⟩
theorem i_compG (hC : MonoC C) {elt : X} {tgt : List String} {isT : Bool} {sk : SK} {src : X}
    (h : wpE C src ρ (fun sv H1 => ∃ vs w, srcItems sk H1 sv = some (vs, w) ∧ ∃ I : List V → List V → MH → Prop, I vs [] H1 ∧ (∀ vs acc H', I vs acc H' → watch w H') ∧
      (∀ v vs acc H', I (v :: vs) acc H' → ∃ ρ1, bindT isT tgt v ρ = some ρ1 ∧ wpE C elt ρ1 (fun ev H2 => I vs (acc ++ [ev]) H2) ZF H') ∧ ∀ acc H', I [] acc H' → doneC Q acc H') Z H) : wpE C (.comp elt tgt isT sk src) ρ Q Z H := by
  rw [w_comp]
  refine wpE_mono hC h (fun sv H1 hh => ?_) fun _ _ z => z
  obtain ⟨vs, w, e, I, h0, hw, hs, hN⟩ := hh
  exact ⟨vs, w, e, iterC_all I hw hs (fun v acc k k' H' kk hh => let ⟨ρ1, e, x⟩ := hh; ⟨ρ1, e, wpE_mono hC x (fun _ _ z => kk _ _ z) fun _ _ z => z⟩) hN vs [] H1 h0⟩
theorem i_compIfG (hC : MonoC C) {elt cond : X} {tgt : List String} {isT : Bool} {sk : SK} {src : X}
    (h : wpE C src ρ (fun sv H1 => ∃ vs w, srcItems sk H1 sv = some (vs, w) ∧ ∃ I : List V → List V → MH → Prop, I vs [] H1 ∧ (∀ vs acc H', I vs acc H' → watch w H') ∧
      (∀ v vs acc H', I (v :: vs) acc H' → ∃ ρ1, bindT isT tgt v ρ = some ρ1 ∧ wpE C cond ρ1 (asB fun b H2 => (b = true → wpE C elt ρ1 (fun ev H3 => I vs (acc ++ [ev]) H3) ZF H2) ∧ (b = false → I vs acc H2)) ZF H') ∧ ∀ acc H', I [] acc H' → doneC Q acc H') Z H) :
    wpE C (.compIf elt tgt isT sk src cond) ρ Q Z H := by
  rw [w_compIf]
  refine wpE_mono hC h (fun sv H1 hh => ?_) fun _ _ z => z
  obtain ⟨vs, w, e, I, h0, hw, hs, hN⟩ := hh
  exact ⟨vs, w, e, iterC_all I hw hs (fun v acc k k' H' kk hh => let ⟨ρ1, e, x⟩ := hh; ⟨ρ1, e, wpE_mono hC x (fun _ _ z => asB_mono z fun b H2 y => ⟨fun e => wpE_mono hC (y.1 e) (fun _ _ z => kk _ _ z) (fun _ _ z => z), fun e => kk _ _ (y.2 e)⟩) fun _ _ z => z⟩) hN vs [] H1 h0⟩
end
end Mini

end
section
set_option autoImplicit false
set_option linter.unusedVariables false
set_option linter.unusedSimpArgs false
set_option maxRecDepth 100000
namespace Mini
open PySem

theorem small_of {i : Int} (h : i.natAbs < 1000000000000000000) : small i = true := decide_eq_true h
theorem small_le {i : Int} (h1 : -1000000000000000 ≤ i) (h2 : i ≤ 1000000000000000) : small i = true := small_of (by (first | lia | omega))

theorem draw_spec {tab : Tab} {n : Nat} (hd : tab.lookup "_law_draw" = some (["_law_script", "_law_tape", "_law_many"], b_l_draw)) {ns : List Int} {t : Addr} {m k : Int} {Q : V → MH → Prop} {Z : Z0} {H : MH} (hk : H t = some (.list [.int k])) (h0 : 0 ≤ k) (hb : k < 1000000) (hm : 0 < m) (hn : ns.length ≤ 63)
    (hQ : ∀ r H', 0 ≤ r → r < m → ExtT t H H' → H' t = some (.list [.int (k + 1)]) → Q (.int r) H') : CallN tab (n + 1) "_law_draw" [.fl (ns.map .int), .ref t, .int m] Q Z H := by
  refine call_of hd rfl ?_
  have hC := CallN_mono tab n
  generalize CallN tab n = C at hC
  have tp : ∀ {H1 : MH} {j : Int}, H1 t = some (.list [.int j]) → idxOp H1 (.ref t) (.int 0) = some (.int j) := fun h => idx_list h (pyIdx_nat (j := 0) (by simp)) rfl
  unfold b_l_draw
  rw [s_cons, s_asgI]
  refine pev_ok _ (.int (k + 1)) _ (by simp [bindE, List.lookup, tp hk]) ?_
  refine pev_ok _ (.ref t) _ (by simp [bindE, List.lookup]) (pev_ok _ (.int 0) _ rfl ?_)
  refine ⟨_, by simp only [setOp, hk]; rfl, ?_⟩
  rw [fin_upd]
  generalize hH1 : hupd H t (.list ([V.int k].set (Int.toNat 0) (.int (k + 1)))) = H1
  have hk1 : H1 t = some (.list [.int (k + 1)]) := by rw [← hH1]; simp
  have e1 : ExtT t H H1 := by rw [← hH1]; exact .upd
  clear hH1
  refine st_if (b := decide (k + 1 ≤ (ns.length : Int))) (by simp [bindE, List.lookup, tp hk1]) (fun hle => ?_) fun hgt => ?_
  · have hle' : k + 1 ≤ (ns.length : Int) := by simpa using hle
    have hkl : k.toNat < ns.length := by (first | lia | omega)
    refine st_back (v := .int (ns[k.toNat] % m)) ?_ ?_
    · have e : k + 1 - 1 = k := by (first | lia | omega)
      simp [bindE, List.lookup, tp hk1, e, pyIdx_pos h0 (by simp; (first | lia | omega) : k < ((ns.map V.int).length : Int)), pyIdx_pos h0 (by (first | lia | omega) : k < (ns.length : Int)), hkl, p_mod _ _ _ hm]
    · exact hQ _ _ (Int.emod_nonneg _ (by (first | lia | omega))) (Int.emod_lt_of_pos _ hm) e1 hk1
  rw [s_nil]
  refine st_set (v := .int ns.length) (by simp [bindE, List.lookup]) ?_
  refine st_forG hC ?_
  rw [w_prim]
  refine pevs_ok _ [.fl (ns.map .int), .int 4] _ (by simp [bindE, List.lookup, upd]) ?_
  refine ⟨.new (.list ((ns.map V.int).take 4)), ?_, ?_⟩
  · show newL ((ns.map V.int).take (cutTo (ns.map V.int).length 4)) = _
    have : cutTo (ns.map V.int).length 4 = 4 := by unfold cutTo; rw [if_pos (by (first | lia | omega))]; rfl
    rw [this]
    unfold newL
    rw [if_pos]; simp; unfold lim; (first | lia | omega)
  rw [fin_new]
  intro b hb1
  have hk2 : hupd H1 b (.list ((ns.map V.int).take 4)) t = some (.list [.int (k + 1)]) := new_other hb1 hk1
  have hb2 : hupd H1 b (.list ((ns.map V.int).take 4)) b = some (.list ((ns.map V.int).take 4)) := hupd_eq ..
  have e2 : ExtT t H (hupd H1 b (.list ((ns.map V.int).take 4))) := e1.trans (.new hb1)
  refine ⟨(ns.map V.int).take 4, some (b, (ns.map V.int).take 4), src_list (hupd_eq ..), ?_⟩
  generalize hupd H1 b (.list ((ns.map V.int).take 4)) = H2 at hk2 hb2 e2
  refine ⟨fun vs ρ H' => H' = H2 ∧ (∀ v ∈ vs, ∃ i, v = .int i) ∧ ρ "_law_tape" = some (.ref t) ∧ ρ "_law_many" = some (.int m) ∧ ∃ sd : Int, 0 ≤ sd ∧ sd < 1000003 ∧ ρ "_law_seed" = some (.int sd), ?_, ?_, ?_, ?_⟩
  · refine ⟨rfl, fun v hv => ?_, by simp [bindE, List.lookup, upd], by simp [bindE, List.lookup, upd], ns.length, by (first | lia | omega), by (first | lia | omega), by simp [upd]⟩
    obtain ⟨i, _, e⟩ := List.mem_map.mp (List.mem_of_mem_take hv); exact ⟨i, e.symm⟩
  · rintro vs ρ H' ⟨rfl, _⟩; exact hb2
  · rintro v vs ρ H' ⟨rfl, hv, r1, r2, sd, s1, s2, s3⟩
    obtain ⟨i, rfl⟩ := hv v (.head _)
    refine ⟨_, rfl, ?_⟩
    refine st_set (v := .int ((sd * 131 + i) % 1000003)) ?_ ?_
    · simp [upd, s3, p_mul _ _ _ (small_le (i := sd) (by (first | lia | omega)) (by (first | lia | omega))) (by decide : small 131 = true), p_mod]
    · rw [s_nil]
      exact ⟨rfl, fun v hv' => hv v (.tail _ hv'), by simp [upd, r1], by simp [upd, r2], (sd * 131 + i) % 1000003, Int.emod_nonneg _ (by decide), Int.emod_lt_of_pos _ (by decide), by simp [upd]⟩
  · rintro ρ H' ⟨rfl, _, r1, r2, sd, s1, s2, s3⟩
    have hq : 0 ≤ (k + 1) * (k + 1) ∧ (k + 1) * (k + 1) ≤ 1000000000000 := by
      constructor
      · exact Int.mul_nonneg (by (first | lia | omega)) (by (first | lia | omega))
      · have := Int.mul_le_mul (show k + 1 ≤ 1000000 by (first | lia | omega)) (show k + 1 ≤ 1000000 by (first | lia | omega)) (by (first | lia | omega)) (by decide)
        (first | lia | omega)
    refine st_back (v := .int ((sd + 7) * ((k + 1) * (k + 1) + 48271) % 1000003 % m)) ?_ ?_
    · simp [r1, r2, s3, tp hk2, p_mul _ _ _ (small_le (i := k + 1) (by (first | lia | omega)) (by (first | lia | omega))) (small_le (i := k + 1) (by (first | lia | omega)) (by (first | lia | omega))), p_mul _ _ _ (small_le (i := sd + 7) (by (first | lia | omega)) (by (first | lia | omega))) (small_le (i := (k + 1) * (k + 1) + 48271) (by (first | lia | omega)) (by (first | lia | omega))), p_mod _ _ _ hm, p_mod]
    · exact hQ _ _ (Int.emod_nonneg _ (by (first | lia | omega))) (Int.emod_lt_of_pos _ hm) e2 hk2
end Mini

end
section
set_option autoImplicit false
set_option linter.unusedVariables false
set_option linter.unusedSimpArgs false
set_option maxRecDepth 100000
namespace Mini
open PySem

abbrev okS (x : Str) : Prop := PyData.strOk x = true
theorem toD_str {H : MH} {a : Str} (h : okS a) : toD lineD H (.str a) = some (.str a) := by
  have e : toD lineD H (.str a) = if PyData.strOk a then some (.str a) else Option.none := by kernel_rfl
  rw [e, if_pos h]
theorem eqv_str (a b : Str) : PyData.eqv (.str a) (.str b) = (a == b) := by kernel_rfl
theorem eqOp_of {H : MH} {a b : V} {x y : PyData} (h : toD lineD H a = some x) (k : toD lineD H b = some y) : eqOp H a b = some (PyData.eqv x y) := by
  unfold eqOp; rw [h, k]
theorem eq_str {H : MH} {a b : Str} (ha : okS a) (hb : okS b) : eqOp H (.str a) (.str b) = some (a == b) := (eqOp_of (toD_str ha) (toD_str hb)).trans (by rw [eqv_str])
theorem eq_int {H : MH} {a b : Int} : eqOp H (.int a) (.int b) = some (a == b) := by kernel_rfl
theorem dfind_dput (kvs : List (V × V)) (k v k' : V) : dfind (dput kvs k v) k' = if k' = k then some v else dfind kvs k' := by
  induction kvs with
  | nil => by_cases h : k' = k <;> simp [dput, dfind, h, List.find?]; intro e; exact absurd e.symm h
  | cons p r ih =>
    obtain ⟨a, b⟩ := p
    unfold dput
    by_cases h : a = k
    · subst h
      by_cases h2 : k' = a
      · subst h2; simp [dfind]
      · have hb : (a == k') = false := by simp; exact fun e => h2 e.symm
        simp [dfind, List.find?, h2, hb]
    · rw [if_neg h]
      by_cases h2 : a = k'
      · subst h2; simp [dfind, h]
      · have hb : (a == k') = false := by simp [h2]
        have e1 : dfind ((a, b) :: dput r k v) k' = dfind (dput r k v) k' := by simp [dfind, List.find?, hb]
        have e2 : dfind ((a, b) :: r) k' = dfind r k' := by simp [dfind, List.find?, hb]
        rw [e1, e2, ih]
noncomputable def StrKeys (kvs : List (V × V)) : Prop := ∀ p ∈ kvs, ∃ y, p.1 = .str y
theorem StrKeys.ok {kvs : List (V × V)} (h : StrKeys kvs) (x : Str) : dOK kvs (.str x) = true := by
  unfold dOK
  simp only [Bool.and_eq_true, List.all_eq_true]
  refine ⟨by simp [kk], fun p hp => ?_⟩
  obtain ⟨y, e⟩ := h p hp
  simp [e, kk]
theorem StrKeys.put {kvs : List (V × V)} (h : StrKeys kvs) (x : Str) (v : V) : StrKeys (dput kvs (.str x) v) := by
  induction kvs with
  | nil => intro p hp; simp [dput] at hp; exact ⟨x, by rw [hp]⟩
  | cons q r ih =>
    obtain ⟨a, b⟩ := q
    intro p hp
    unfold dput at hp
    split at hp
    · rcases List.mem_cons.mp hp with rfl | hp
      · exact h (a, b) (.head _)
      · exact h p (.tail _ hp)
    · rcases List.mem_cons.mp hp with rfl | hp
      · exact h (a, b) (.head _)
      · exact ih (fun q hq => h q (.tail _ hq)) p hp
theorem dput_len (kvs : List (V × V)) (k v : V) : (dput kvs k v).length ≤ kvs.length + 1 := by
  induction kvs with
  | nil => simp [dput]
  | cons p r ih => unfold dput; split <;> simp <;> (first | lia | omega)

theorem with_name_spec {tab : Tab} {n : Nat} (hd : tab.lookup "with_name" = some (["told", "name", "value"], b_with_name)) {d : Addr} {x : Str} {v : V} {kvs : List (V × V)} {Q : V → MH → Prop} {Z : Z0} {H : MH} (h : H d = some (.dict kvs)) (hk : StrKeys kvs) (hl : kvs.length < lim)
    (hQ : ∀ d' H', Ext H H' → H' d' = some (.dict (dput kvs (.str x) v)) → Q (.ref d') H') : CallN tab (n + 1) "with_name" [.ref d, .str x, v] Q Z H := by
  refine call_of hd rfl ?_
  generalize CallN tab n = C
  unfold b_with_name
  rw [s_cons, s_asg, w_prim]
  refine pevs_ok _ [.ref d] _ (by kernel_rfl) ?_
  refine ⟨.new (.dict kvs), ?_, ?_⟩
  · show (match H d with
      | some (.dict kvs) => if kvs.all (fun p => kk p.1 != 2) then some (Res.new (.dict kvs)) else none
      | _ => none) = _
    rw [h]
    simp only
    rw [if_pos]
    rw [List.all_eq_true]
    intro p hp
    obtain ⟨y, e⟩ := hk p hp
    simp [e, kk]
  rw [fin_new]
  intro a ha
  rw [s_cons, s_asgI]
  refine pev_ok _ v _ (by kernel_rfl) (pev_ok _ (.ref a) _ (by kernel_rfl) (pev_ok _ (.str x) _ (by kernel_rfl) ?_))
  refine ⟨.upd a (.dict (dput kvs (.str x) v)) .none, ?_, ?_⟩
  · simp only [setOp, hupd_eq]
    rw [if_pos]
    rw [Bool.and_eq_true, decide_eq_true_eq]
    exact ⟨hk.ok x, hl⟩
  rw [fin_upd, hupd_twice]
  refine st_back (v := .ref a) (by kernel_rfl) (hQ a _ (.new ha) (by simp))

theorem add_lists {H : MH} {a b : Addr} {x y : List V} (ha : H a = some (.list x)) (hb : H b = some (.list y)) (hl : (x ++ y).length ≤ lim) : primOp .add H [.ref a, .ref b] = some (.new (.list (x ++ y))) := by
  show (match H a, H b with
    | some (.list x), some (.list y) => newL (x ++ y)
    | _, _ => none) = _
  rw [ha, hb]
  simp only [newL]
  rw [if_pos hl]
theorem newL_ok {vs : List V} (h : vs.length ≤ lim) : newL vs = some (.new (.list vs)) := if_pos h
theorem valT_ok {vs : List V} (h : vs.length ≤ lim) : valT vs = some (.val (.tup vs)) := if_pos h
theorem valS_ok {x : Str} (h : x.length ≤ lim) : valS x = some (.val (.str x)) := if_pos h

end Mini

end
section
set_option autoImplicit false
set_option linter.unusedVariables false
set_option linter.unusedSimpArgs false
set_option maxRecDepth 100000
namespace Mini
open PySem

inductive Say where
  | letter (x c : Str)
  | ahead (x y : Str)
  | same (x y : Str)
  | within (x y : Str)
  | not (s : Say)
  | and (s t : Say)
  | or (s t : Say)
  | place (x : Str) (s : Say)
  | set (x : Str) (s : Say)
noncomputable def enc : Say → V
  | .letter x c => .tup [.str "letter", .str x, .str c]
  | .ahead x y => .tup [.str "ahead", .str x, .str y]
  | .same x y => .tup [.str "same", .str x, .str y]
  | .within x y => .tup [.str "within", .str x, .str y]
  | .not s => .tup [.str "not", enc s]
  | .and s t => .tup [.str "and", enc s, enc t]
  | .or s t => .tup [.str "or", enc s, enc t]
  | .place x s => .tup [.str "place", .str x, enc s]
  | .set x s => .tup [.str "set", .str x, enc s]
noncomputable def Say.h : Say → Nat
  | .not s => s.h + 1
  | .and s t => max s.h t.h + 1
  | .or s t => max s.h t.h + 1
  | .place _ s => s.h + 1
  | .set _ s => s.h + 1
  | _ => 0
abbrev KE := List (Str × Bool)
section
variable {C : CallSem} {ρ : Env} {Q : V → MH → Prop} {Z : Z0} {H : MH} {N : Env → MH → Prop} {R : V → MH → Prop} {r t : List S} {e : X}
theorem st_skip (h : pev H ρ e = some (.bool false)) (k : wpSs C r ρ N R Z H) : wpSs C (.ifs e t [] :: r) ρ N R Z H := st_if h (fun e => by cases e) fun _ => by rw [s_nil]; exact k
theorem st_take {u : List S} (h : pev H ρ e = some (.bool true)) (k : wpSs C t ρ (fun ρ' H' => wpSs C r ρ' N R Z H') R Z H) : wpSs C (.ifs e t u :: r) ρ N R Z H := st_if h (fun _ => k) fun e => by cases e
end

theorem idx_str {H : MH} {w : Str} {i : Nat} (h : i < w.length) : idxOp H (.str w) (.int i) = some (.str ⟨#[w.cps[i]'h]⟩) := by
  have h' : i < w.cps.size := h
  simp only [idxOp, pyIdx_nat h, Option.bind_some, Array.getElem?_eq_getElem h', Option.map_some]
  rfl
end Mini

end
section
set_option autoImplicit false
set_option linter.unusedVariables false
set_option linter.unusedSimpArgs false
set_option maxRecDepth 100000
namespace Mini
open PySem

noncomputable def kstr (b : Bool) : Str := if b then "place" else "set"
theorem kstr_ok (b : Bool) : okS (kstr b) := by cases b <;> decide +kernel
theorem kstr_eq (a b : Bool) : (kstr a == kstr b) = (a == b) := by cases a <;> cases b <;> decide +kernel
noncomputable def sv (p : Str × Bool) : V := .tup [.str p.1, .str (kstr p.2)]
end Mini

end
section
set_option autoImplicit false
set_option linter.unusedVariables false
set_option linter.unusedSimpArgs false
set_option maxRecDepth 100000
namespace Mini
open PySem

abbrev DrawTab (tab : Tab) : Prop := tab.lookup "_law_draw" = some (["_law_script", "_law_tape", "_law_many"], b_l_draw)
structure Tape (t : Addr) (k : Int) (H : MH) : Prop where
  at' : H t = some (.list [.int k])
  lo : 0 ≤ k
  hi : k < 1000000

theorem draw_e {tab : Tab} {n : Nat} (hd : DrawTab tab) {ns : List Int} (hn : ns.length ≤ 63) {ρ : Env} {t : Addr} {m k : Int} {Q : V → MH → Prop} {Z : Z0} {H : MH} (rs : ρ "_law_script" = some (.fl (ns.map .int))) (rt : ρ "_law_tape" = some (.ref t)) (ht : Tape t k H) (hm : 0 < m)
    (hQ : ∀ r H', 0 ≤ r → r < m → ExtT t H H' → H' t = some (.list [.int (k + 1)]) → Q (.int r) H') : wpE (CallN tab (n + 1)) (.call "_law_draw" [.var "_law_script", .var "_law_tape", .cst (.int m)]) ρ Q Z H :=
  i_call (vs := [.fl (ns.map .int), .ref t, .int m]) (by simp [rs, rt]) (draw_spec hd ht.at' ht.lo ht.hi hm hn hQ)

theorem pickS {tab : Tab} {n : Nat} (hd : DrawTab tab) {ns : List Int} (hn : ns.length ≤ 63) {ρ : Env} {t : Addr} {m k : Int} {L : String} {x : Str} {Q : V → MH → Prop} {Z : Z0} {H : MH} (rs : ρ "_law_script" = some (.fl (ns.map .int))) (rt : ρ "_law_tape" = some (.ref t)) (ra : ρ L = some (.str x)) (ht : Tape t k H) (hm : 0 < m)
    (h0 : 0 < x.length) (hQ : ∀ c H', c ∈ x.cps.toList → ExtT t H H' → H' t = some (.list [.int (k + 1)]) → Q (.str ⟨#[c]⟩) H') :
    wpE (CallN tab (n + 1)) (.prim .idx [.var L, .prim .mod [.call "_law_draw" [.var "_law_script", .var "_law_tape", .cst (.int m)], .prim .len [.var L]]]) ρ Q Z H := by
  rw [w_prim]
  refine l_pure (v := .str x) (by simp [ra]) ?_
  rw [w_cons, w_prim, w_cons]
  refine draw_e hd hn rs rt ht hm fun r H' r0 r1 xx e => ?_
  refine l_pure (v := .int x.length) (by simp [ra]) ?_
  rw [w_nil]
  refine ⟨_, p_mod _ _ _ (by (first | lia | omega)), ?_⟩
  rw [fin_val, w_nil]
  have b1 := Int.emod_nonneg r (b := (x.length : Int)) (by (first | lia | omega))
  have b2 := Int.emod_lt_of_pos r (b := (x.length : Int)) (by (first | lia | omega))
  have b3 : (r % (x.length : Int)).toNat < x.length := by (first | lia | omega)
  have e3 : (((r % (x.length : Int)).toNat : Nat) : Int) = r % (x.length : Int) := by (first | lia | omega)
  refine ⟨.val (.str ⟨#[x.cps[(r % (x.length : Int)).toNat]'b3]⟩), ?_, hQ _ H' (Array.mem_toList_iff.mpr (Array.getElem_mem b3)) xx e⟩
  have e4 := idx_str (H := H') b3
  rw [e3] at e4
  rw [p_idx, e4]; rfl

theorem Tape.next {t : Addr} {k : Int} {H H' : MH} (h : Tape t k H) (e : H' t = some (.list [.int (k + 1)])) (hb : k + 1 < 1000000) : Tape t (k + 1) H' := ⟨e, by have := h.lo; (first | lia | omega), hb⟩
structure Letters (x : Str) : Prop where
  pos : 0 < x.length
  ok : ∀ c ∈ x.cps.toList, okS ⟨#[c]⟩
end Mini

end
section
set_option autoImplicit false
set_option linter.unusedVariables false
set_option linter.unusedSimpArgs false
set_option maxRecDepth 100000
namespace Mini
open PySem

structure WorldAt (t : Addr) (ls : Str) (na : Addr) (H : MH) : Prop where
  ls : Letters ls
  ne : na ≠ t
  at' : ∃ p q r, H na = some (.list [.str p, .str q, .str r]) ∧ okS p ∧ okS q ∧ okS r
theorem WorldAt.extT {t na : Addr} {l : Str} {H H' : MH} (h : WorldAt t l na H) (x : ExtT t H H') : WorldAt t l na H' := ⟨h.ls, h.ne, let ⟨p, q, r, e, o⟩ := h.at'; ⟨p, q, r, x _ _ h.ne e, o⟩⟩

end Mini

end
section
set_option autoImplicit false
set_option linter.unusedVariables false
set_option linter.unusedSimpArgs false
set_option maxRecDepth 100000
namespace Mini
open PySem

theorem okS_append {a b : Str} (ha : okS a) (hb : okS b) : okS (a ++ b) := by
  have e : (a ++ b).cps = a.cps ++ b.cps := rfl
  unfold okS PyData.strOk at *
  rw [e, Array.all_append, ha, hb]; rfl
theorem okS_char {x : Str} (h : okS x) : ∀ c ∈ x.cps.toList, okS ⟨#[c]⟩ := fun c hc => by
  unfold okS PyData.strOk at *
  rw [Array.all_eq_true_iff_forall_mem] at h
  have := h c (Array.mem_toList_iff.mp hc)
  simpa using this
theorem join_ok1 : ∀ (ss : List Str), (∀ x ∈ ss, okS x) → okS (Str.join "" ss)
  | [], _ => by decide +kernel
  | [x], h => h x (.head _)
  | x :: y :: r, h => okS_append (okS_append (h x (.head _)) (by decide +kernel)) (join_ok1 (y :: r) fun z hz => h z (.tail _ hz))
theorem slen (a b : Str) : (a ++ b).length = a.length + b.length := Array.size_append
theorem join_len1 : ∀ (ss : List Str), (∀ x ∈ ss, x.length = 1) → (Str.join "" ss).length = ss.length
  | [], _ => by decide +kernel
  | [x], h => h x (.head _)
  | x :: y :: r, h => by
    show (x ++ "" ++ Str.join "" (y :: r)).length = _
    rw [slen, slen, h x (.head _), join_len1 (y :: r) fun z hz => h z (.tail _ hz)]
    have : ("" : Str).length = 0 := by decide +kernel
    rw [this]; simp; (first | lia | omega)
theorem strs_ok : ∀ (ss : List Str), strs? (ss.map .str) = some ss
  | [] => rfl
  | x :: r => by have := strs_ok r; simp [strs?, mapO] at this ⊢; rw [this]
theorem join_prim {H : MH} {a : Addr} {ss : List Str} (h : H a = some (.list (ss.map .str))) (hl : (Str.join "" ss).length ≤ lim) : primOp .join H [.str "", .ref a] = some (.val (.str (Str.join "" ss))) := by
  show (match (items H (.ref a)).bind strs? with
    | some ss => if ("" : Str).length = 0 then valS (Str.join "" ss) else none
    | none => none) = _
  have e : (items H (.ref a)).bind strs? = some ss := by simp [items, h, strs_ok]
  rw [e]
  simp only
  rw [if_pos (by decide +kernel)]
  exact valS_ok hl

noncomputable def sgn : Str := ("0123456789abcdefghijklmnopqrstuvwxyzABCDEFGHIJKLMNOPQRSTUVWXYZ" : Str) ++ ("#$&'()*+,-./:;<=>?\x40[]^_{|}~! \"\\`" : Str)
theorem sgn_len : sgn.length = 94 := by decide +kernel
theorem sgn_ok : okS sgn := by decide +kernel
abbrev MarksTab (tab : Tab) : Prop := tab.lookup "_law_marks" = some (["_law_script", "_law_tape", "_law_many"], b_l_marks)
noncomputable def Signs (ms : List Str) : Prop := ∀ x ∈ ms, okS x ∧ x.length = 1

theorem marks_spec {tab : Tab} (hm : MarksTab tab) (hd : DrawTab tab) {n : Nat} {ns : List Int} (hn : ns.length ≤ 63) {t : Addr} {k : Int} {many : Nat} (hmany : many ≤ 100) {Q : V → MH → Prop} {Z : Z0} {H : MH} (ht : H t = some (.list [.int k])) (k0 : 0 ≤ k) (k1 : k + 2 < 1000000)
    (hQ : ∀ a ms H', ExtT t H H' → H' t = some (.list [.int (k + 2)]) → H' a = some (.list (ms.map .str)) → ms.length = many → Signs ms → a ≠ t → H a = none → Q (.ref a) H') : CallN tab (n + 2) "_law_marks" [.fl (ns.map .int), .ref t, .int many] Q Z H := by
  refine call_of hm rfl ?_
  have hC := CallN_mono tab (n + 1)
  unfold b_l_marks
  refine st_set (v := .str "0123456789abcdefghijklmnopqrstuvwxyzABCDEFGHIJKLMNOPQRSTUVWXYZ") rfl ?_
  refine st_set (v := .str sgn) ?_ ?_
  · have : valS sgn = some (.val (.str sgn)) := valS_ok (by rw [sgn_len]; decide)
    simp only [pev_prim, pevs_cons, pevs_nil, pev_var, pev_cst, upd, reduceIte, String.reduceEq, Option.bind_some, Option.map_some, p_addS]
    exact congrArg valOf this
  have tp : Tape t k H := ⟨ht, k0, by (first | lia | omega)⟩
  rw [s_cons, s_asg]
  refine draw_e hd hn (by kernel_rfl) (by kernel_rfl) tp (by decide) fun at' H1 a0 a1 x1 e1 => ?_
  rw [s_cons, s_asg, w_prim]
  refine l_pure (v := .int 1) rfl ?_
  rw [w_cons]
  refine draw_e hd hn (by kernel_rfl) (by kernel_rfl) (tp.next e1 (by (first | lia | omega))) (by decide) fun st H2 s0 s1 x2 e2 => ?_
  rw [w_nil]
  refine ⟨_, p_add _ _ _, ?_⟩
  rw [fin_val]
  have x12 := x1.trans x2
  have e2' : H2 t = some (.list [.int (k + 2)]) := by rw [e2]; congr 4; (first | lia | omega)
  rw [s_cons, s_ret]
  refine i_compG hC (pev_ok _ (.int many) _ (by kernel_rfl) ?_)
  refine ⟨(List.range many).map (fun (i : Nat) => V.int i), none, ?_, ?_⟩
  · exact src_range _ (by unfold lim; (first | lia | omega))
  refine ⟨fun vs acc H' => H' = H2 ∧ ∃ j ms, j ≤ many ∧ vs = ((List.range many).map (fun (i : Nat) => V.int i)).drop j ∧ acc = ms.map .str ∧ ms.length = j ∧ Signs ms, ?_, fun _ _ _ _ => trivial, ?_, ?_⟩
  · exact ⟨rfl, 0, [], Nat.zero_le _, by simp, rfl, rfl, fun x hx => by cases hx⟩
  · rintro v vs acc H' ⟨rfl, j, ms, hj, hv, rfl, hl, hsg⟩
    have hjk : j < many := by
      rcases Nat.lt_or_ge j many with h | h
      · exact h
      · rw [List.drop_of_length_le (by simp; (first | lia | omega))] at hv; cases hv
    rw [List.drop_eq_getElem_cons (by simp; (first | lia | omega))] at hv
    obtain ⟨rfl, rfl⟩ := List.cons.inj hv
    refine ⟨_, rfl, ?_⟩
    have b1 := Int.emod_nonneg (at' + (1 + st) * (j : Int)) (b := 94) (by decide)
    have b2 := Int.emod_lt_of_pos (at' + (1 + st) * (j : Int)) (b := 94) (by decide)
    have b3 : ((at' + (1 + st) * (j : Int)) % 94).toNat < sgn.length := by rw [sgn_len]; (first | lia | omega)
    have e3 : ((((at' + (1 + st) * (j : Int)) % 94).toNat : Nat) : Int) = (at' + (1 + st) * (j : Int)) % 94 := by (first | lia | omega)
    have e4 := idx_str (H := H') b3
    rw [e3] at e4
    refine pev_ok _ (.str ⟨#[sgn.cps[((at' + (1 + st) * (j : Int)) % 94).toNat]'b3]⟩) _ ?_ ?_
    · have ej : ((List.range many).map (fun (i : Nat) => V.int i))[j]'(by simp; (first | lia | omega)) = V.int j := by simp
      simp only [pev_prim, pevs_cons, pevs_nil, pev_var, pev_cst, upd, reduceIte, String.reduceEq, Option.bind_some, Option.map_some, ej, p_mul H' _ _ (small_le (i := 1 + st) (by (first | lia | omega)) (by (first | lia | omega))) (small_le (i := (j : Int)) (by (first | lia | omega)) (by (first | lia | omega))), valOf_val, p_add, p_mod _ _ _ (show (0 : Int) < 94 by decide), p_idx, e4, valOf_map]
    · refine ⟨rfl, j + 1, ms ++ [⟨#[sgn.cps[((at' + (1 + st) * (j : Int)) % 94).toNat]'b3]⟩], hjk, rfl, by simp, by simp [hl], fun x hx => ?_⟩
      rcases List.mem_append.mp hx with h | h
      · exact hsg x h
      · simp at h
        rw [h]
        exact ⟨okS_char sgn_ok _ (Array.mem_toList_iff.mpr (Array.getElem_mem b3)), rfl⟩
  · rintro acc H' ⟨rfl, j, ms, hj, hv, rfl, hl, hsg⟩
    have hjk : j = many := by
      rcases Nat.lt_or_ge j many with h | h
      · rw [List.drop_eq_getElem_cons (by simp; (first | lia | omega))] at hv; cases hv
      · (first | lia | omega)
    subst hjk
    refine ⟨by simp; unfold lim; (first | lia | omega), fun a ha => ?_⟩
    have hat : a ≠ t := fun e => by rw [e, e2'] at ha; cases ha
    have hHa : H a = none := by
      cases q : H a with
      | none => rfl
      | some o => rw [x12 _ _ hat q] at ha; cases ha
    exact hQ a ms _ (x12.trans (.new ha)) (new_other ha e2') (hupd_eq ..) hl hsg hat hHa

end Mini

end
section
set_option autoImplicit false
set_option linter.unusedVariables false
set_option linter.unusedSimpArgs false
set_option maxRecDepth 100000
namespace Mini
open PySem

theorem addS {H : MH} {ρ : Env} {e f : X} {a b : Str} (he : pev H ρ e = some (.str a)) (hf : pev H ρ f = some (.str b)) (hl : (a ++ b).length ≤ lim) : pev H ρ (.prim .add [e, f]) = some (.str (a ++ b)) := by
  rw [pev_prim, pevs_cons, he, pevs_cons, hf, pevs_nil]
  simp only [Option.bind_some, Option.map_some, p_addS, valS_ok hl, valOf_val]

theorem names_comp {C : CallSem} (hC : MonoC C) {ρ : Env} {elt : X} {es : List X} {ps : List Str} {f : Str → Str} {Q : V → MH → Prop} {Z : Z0} {H : MH} (he : pevs H ρ es = some (ps.map .str)) (hp3 : ps.length ≤ 10)
    (helt : ∀ H' p, p ∈ ps → pev H' (upd ρ "_law_name" (.str p)) elt = some (.str (f p))) (hQ : ∀ a H', Ext H H' → H' a = some (.list ((ps.map f).map .str)) → H a = none → Q (.ref a) H') :
    wpE C (.comp elt ["_law_name"] false .plain (.prim .list es)) ρ Q Z H := by
  refine i_compG hC ?_
  rw [w_prim]
  refine pevs_ok _ _ _ he ⟨_, by rw [p_list]; exact newL_ok (by simp; unfold lim; (first | lia | omega)), ?_⟩
  rw [fin_new]
  intro a ha
  refine ⟨ps.map .str, some (a, ps.map .str), src_list (hupd_eq ..), fun vs acc H' => H' = hupd H a (.list (ps.map .str)) ∧ ∃ j : Nat, j ≤ ps.length ∧ vs = (ps.map V.str).drop j ∧ acc = ((ps.take j).map f).map .str, ?_, ?_, ?_, ?_⟩
  · exact ⟨rfl, 0, Nat.zero_le _, by simp, by simp⟩
  · rintro vs acc H' ⟨rfl, _⟩; exact hupd_eq ..
  · rintro v vs acc H' ⟨rfl, j, hj, hv, rfl⟩
    have hjk : j < ps.length := by
      rcases Nat.lt_or_ge j ps.length with h | h
      · exact h
      · rw [List.drop_of_length_le (by simp; (first | lia | omega))] at hv; cases hv
    rw [List.drop_eq_getElem_cons (by simp; (first | lia | omega))] at hv
    obtain ⟨rfl, rfl⟩ := List.cons.inj hv
    refine ⟨_, rfl, ?_⟩
    have ej : (ps.map V.str)[j]'(by simp; (first | lia | omega)) = .str ps[j] := by simp
    rw [ej]
    refine pev_ok _ (.str (f ps[j])) _ (helt _ _ (List.getElem_mem _)) ⟨rfl, j + 1, hjk, rfl, ?_⟩
    rw [List.take_add_one, List.getElem?_eq_getElem hjk, List.map_append, List.map_append]; rfl
  · rintro acc H' ⟨rfl, j, hj, hv, rfl⟩
    have hjk : j = ps.length := by
      rcases Nat.lt_or_ge j ps.length with h | h
      · rw [List.drop_eq_getElem_cons (by simp; (first | lia | omega))] at hv; cases hv
      · (first | lia | omega)
    rw [hjk, List.take_length]
    refine ⟨by simp; unfold lim; (first | lia | omega), fun b hb => ?_⟩
    have hHb : H b = none := by
      cases q : H b with
      | none => rfl
      | some o => rw [(Ext.new ha) _ _ q] at hb; cases hb
    exact hQ b _ ((Ext.new ha).trans (.new hb)) (hupd_eq ..) hHb

structure WorldTab (tab : Tab) : Prop where
  dr : DrawTab tab
  ma : MarksTab tab
  wo : tab.lookup "_law_world" = some (["_law_script", "_law_tape"], b_l_world)

theorem world_tail {tab : Tab} (T : WorldTab tab) {n : Nat} {ns : List Int} (hn : ns.length ≤ 63) (hC : MonoC (CallN tab (n + 2))) {t sa : Addr} {k k7 : Int} {many : Nat} {B s0 s1 s2 s3 : Str} {ρ : Env} {Q : V → MH → Prop} {Z : Z0} {H H7 : MH} (m1 : 1 ≤ many) (m4 : many ≤ 4)
    (rs : ρ "_law_script" = some (.fl (ns.map .int))) (rt : ρ "_law_tape" = some (.ref t)) (rm : ρ "_law_many" = some (.int many)) (rsg : ρ "_law_signs" = some (.ref sa)) (rb : ρ "_law_begin" = some (.str B)) (okb : okS B) (hBl : B.length ≤ 30) (x7 : ExtT t H H7) (e7 : H7 t = some (.list [.int (k7 + 2 + 1)])) (k0 : 0 ≤ k7) (k1 : k ≤ k7) (k2 : k7 ≤ k + 3 ∧ k + 7 < 1000000)
    (es : H7 sa = some (.list ([s0, s1, s2, s3].map .str))) (hst : sa ≠ t) (g0 : okS s0 ∧ s0.length = 1) (g1 : okS s1 ∧ s1.length = 1) (g2 : okS s2 ∧ s2.length = 1) (g3 : okS s3 ∧ s3.length = 1)
    (hQ : ∀ ls na k' H', ExtT t H H' → H' t = some (.list [.int k']) → k ≤ k' → k' ≤ k + 7 → WorldAt t ls na H' → ls.length ≤ 4 → okS ls → Q (.tup [.str ls, .ref na]) H') :
    wpSs (CallN tab (n + 2)) (b_l_world.drop 4) ρ (fun _ H' => Q .none H') Q Z H7 := by
  have lp : ("p" : Str).length = 1 ∧ ("Q" : Str).length = 1 ∧ ("s" : Str).length = 1 := by decide +kernel
  have op : okS "p" ∧ okS "Q" ∧ okS "s" := by decide +kernel
  have lm : ∀ {x : Str}, x.length ≤ 100 → x.length ≤ lim := fun h => Nat.le_trans h (by decide)
  have ix0 : ∀ {H' : MH}, H' sa = some (.list ([s0, s1, s2, s3].map .str)) → idxOp H' (.ref sa) (.int 0) = some (.str s0) := fun h => idx_list h (pyIdx_nat (j := 0) (by simp)) rfl
  have ix1 : ∀ {H' : MH}, H' sa = some (.list ([s0, s1, s2, s3].map .str)) → idxOp H' (.ref sa) (.int 1) = some (.str s1) := fun h => idx_list h (pyIdx_nat (j := 1) (by simp)) rfl
  have ix3 : ∀ {H' : MH}, H' sa = some (.list ([s0, s1, s2, s3].map .str)) → idxOp H' (.ref sa) (.int 3) = some (.str s3) := fun h => idx_list h (pyIdx_nat (j := 3) (by simp)) rfl
  -- the end, for any three names
  have fin : ∀ (na : Addr) (p q r : Str) (ρ' : Env) (H8 : MH) (k8 : Int), ρ' "_law_signs" = some (.ref sa) → ρ' "_law_many" = some (.int many) → ρ' "_law_names" = some (.ref na) → ExtT t H H8 → H8 t = some (.list [.int k8]) → k ≤ k8 → k8 ≤ k + 7 → H8 sa = some (.list ([s0, s1, s2, s3].map .str)) → na ≠ t → H8 na = some (.list [.str p, .str q, .str r]) → okS p → okS q → okS r →
      wpSs (CallN tab (n + 2)) (b_l_world.drop 8) ρ' (fun _ H' => Q .none H') Q Z H8 := by
    intro na p q r ρ' H8 k8 r1 r2 r3 x8 e8 kl ku es8 hna en o1 o2 o3
    show wpSs _ (_ :: _) _ _ _ _ _
    rw [s_cons, s_ret, w_prim, w_cons, w_meth]
    refine pev_ok _ (.str "") _ rfl ⟨rfl, ?_⟩
    rw [w_cons, w_prim]
    refine pevs_ok _ [.ref sa, .int many] _ (by simp [r1, r2]) ?_
    have hct : cutTo ([s0, s1, s2, s3].map V.str).length many = many := by unfold cutTo; rw [if_pos (by (first | lia | omega))]; simp
    refine ⟨.new (.list (([s0, s1, s2, s3].take many).map .str)), ?_, ?_⟩
    · show (match H8 sa with
        | some (.list vs) => newL (vs.take (cutTo vs.length many))
        | _ => none) = _
      rw [es8]
      simp only
      rw [hct, newL_ok (by simp; unfold lim; (first | lia | omega)), List.map_take]
    rw [fin_new]
    intro c hc
    rw [w_nil]
    have hsg : ∀ x ∈ [s0, s1, s2, s3].take many, okS x ∧ x.length = 1 := fun x hx => by
      have := List.mem_of_mem_take hx
      simp at this
      rcases this with rfl | rfl | rfl | rfl <;> assumption
    have hjl : (Str.join "" ([s0, s1, s2, s3].take many)).length = many := by rw [join_len1 _ fun x hx => (hsg x hx).2]; simp; (first | lia | omega)
    have okl : okS (Str.join "" ([s0, s1, s2, s3].take many)) := join_ok1 _ fun x hx => (hsg x hx).1
    refine ⟨_, join_prim (hupd_eq ..) (lm (by (first | lia | omega))), ?_⟩
    rw [fin_val]
    refine l_pure (v := .ref na) (Eq.trans (by kernel_rfl) r3) ?_
    rw [w_nil]
    refine ⟨_, by rw [p_tuple]; exact valT_ok (by simp; decide), ?_⟩
    rw [fin_val]
    exact hQ _ na k8 _ (x8.trans (.new hc)) (new_other hc e8) kl ku ⟨⟨by (first | lia | omega), okS_char okl⟩, hna, p, q, r, new_other hc en, o1, o2, o3⟩ (by (first | lia | omega)) okl
  show wpSs _ (_ :: _) _ _ _ _ _
  rw [s_cons, s_asg]
  have l3Q : (s3 ++ ("Q" : Str)).length = 2 := by rw [slen, g3.2, lp.2.1]
  refine names_comp hC (ps := ["p", s3 ++ "Q", "s"]) (f := fun p => B ++ p) ?_ (by simp) (fun H' p hp => ?_) fun n1 H8 x8 en1 nn1 => ?_
  · have h1 : pev H7 ρ (.prim .add [.prim .idx [.var "_law_signs", .cst (.int 3)], .cst (.str "Q")]) = some (.str (s3 ++ "Q")) := addS (by simp [rsg, ix3 es]) rfl (lm (by (first | lia | omega)))
    rw [pevs_cons, pevs_cons, h1, pevs_cons, pevs_nil]; rfl
  · refine addS (Eq.trans (by kernel_rfl) rb) (by kernel_rfl) (lm ?_)
    rw [slen]
    simp at hp
    rcases hp with rfl | rfl | rfl <;> simp only [lp.1, lp.2.2, l3Q] <;> (first | lia | omega)
  have hn1 : n1 ≠ t := fun e => by rw [e, e7] at nn1; cases nn1
  have e8 := x8 _ _ e7
  have es8 := x8 _ _ es
  have x08 := x7.trans x8.toT
  rw [s_cons, s_asg]
  refine draw_e T.dr hn (Eq.trans (by kernel_rfl) rs) (Eq.trans (by kernel_rfl) rt) ⟨e8, by (first | lia | omega), by (first | lia | omega)⟩ (by decide) fun w H9 w0 w1 x9 e9 => ?_
  have es9 := x9 _ _ hst es8
  have en9 := x9 _ _ hn1 en1
  have x09 := x08.trans x9
  -- after the first choice
  have mid : ∀ (na : Addr) (p q r : Str) (ρ' : Env) (HA : MH), ρ' "_law_signs" = some (.ref sa) → ρ' "_law_many" = some (.int many) → ρ' "_law_names" = some (.ref na) → ρ' "_law_begin" = some (.str B) → ρ' "_law_way" = some (.int w) → ExtT t H HA → HA t = some (.list [.int (k7 + 2 + 1 + 1)]) → HA sa = some (.list ([s0, s1, s2, s3].map .str)) → na ≠ t → HA na = some (.list [.str p, .str q, .str r]) → okS p → okS q → okS r →
      wpSs (CallN tab (n + 2)) (b_l_world.drop 7) ρ' (fun _ H' => Q .none H') Q Z HA := by
    intro na p q r ρ' HA r1 r2 r3 r4 r5 xA eA esA hna enA o1 o2 o3
    show wpSs _ (_ :: _) _ _ _ _ _
    refine st_if (b := w == 2) (by simp [r5, eq_int]) (fun _ => ?_) fun _ => ?_
    · rw [s_cons, s_asg, w_prim]
      have c1 : ∀ {a b : Str}, a.length = 1 → b.length = 1 → (B ++ a ++ b).length ≤ lim := fun h1 h2 => lm (by rw [slen, slen, h1, h2]; (first | lia | omega))
      have c0 : ∀ {a : Str}, a.length = 1 → (B ++ a).length ≤ lim := fun h1 => lm (by rw [slen, h1]; (first | lia | omega))
      have p0 : pev HA ρ' (.prim .idx [.var "_law_signs", .cst (.int 0)]) = some (.str s0) := by simp [r1, ix0 esA]
      have p1 : pev HA ρ' (.prim .idx [.var "_law_signs", .cst (.int 1)]) = some (.str s1) := by simp [r1, ix1 esA]
      have pb : pev HA ρ' (.var "_law_begin") = some (.str B) := by simp [r4]
      have q1 := addS (addS pb p0 (c0 g0.2)) p1 (c1 g0.2 g1.2)
      have q2 := addS (addS pb p1 (c0 g1.2)) p0 (c1 g1.2 g0.2)
      have q3 := addS (addS pb p0 (c0 g0.2)) p0 (c1 g0.2 g0.2)
      refine pevs_ok _ [.str (B ++ s0 ++ s1), .str (B ++ s1 ++ s0), .str (B ++ s0 ++ s0)] _ (by rw [pevs_cons, q1, pevs_cons, q2, pevs_cons, q3, pevs_nil]; rfl) ⟨_, by rw [p_list]; exact newL_ok (by simp; decide), ?_⟩
      rw [fin_new]
      intro c hc
      rw [s_nil]
      have hct : c ≠ t := fun e => by rw [e, eA] at hc; cases hc
      exact fin c _ _ _ _ _ _ (Eq.trans (by kernel_rfl) r1) (Eq.trans (by kernel_rfl) r2) (by kernel_rfl) (xA.trans (.new hc)) (new_other hc eA) (by (first | lia | omega)) (by (first | lia | omega)) (new_other hc esA) hct (hupd_eq ..) (okS_append (okS_append okb g0.1) g1.1) (okS_append (okS_append okb g1.1) g0.1) (okS_append (okS_append okb g0.1) g0.1)
    · rw [s_nil]
      exact fin na p q r _ _ _ r1 r2 r3 xA eA (by (first | lia | omega)) (by (first | lia | omega)) esA hna enA o1 o2 o3
  refine st_if (b := decide (w < 2)) (by kernel_rfl) (fun _ => ?_) fun _ => ?_
  · rw [s_cons, s_asg]
    refine names_comp hC (ps := ["p", "Q", "s"]) (f := fun p => B ++ p ++ B) (by simp) (by simp) (fun H' p hp => ?_) fun n2 HA xA en2 nn2 => ?_
    · have hl : p.length = 1 := by
        simp at hp
        rcases hp with rfl | rfl | rfl
        · exact lp.1
        · exact lp.2.1
        · exact lp.2.2
      exact addS (addS (Eq.trans (by kernel_rfl) rb) (by kernel_rfl) (lm (by rw [slen, hl]; (first | lia | omega)))) (Eq.trans (by kernel_rfl) rb) (lm (by rw [slen, slen, hl]; (first | lia | omega)))
    rw [s_nil]
    have hn2 : n2 ≠ t := fun e => by rw [e, e9] at nn2; cases nn2
    exact mid n2 _ _ _ _ HA (Eq.trans (by kernel_rfl) rsg) (Eq.trans (by kernel_rfl) rm) (by kernel_rfl) (Eq.trans (by kernel_rfl) rb) (by kernel_rfl) (x09.trans xA.toT) (xA _ _ e9) (xA _ _ es9) hn2 en2 (okS_append (okS_append okb op.1) okb) (okS_append (okS_append okb op.2.1) okb) (okS_append (okS_append okb op.2.2) okb)
  · rw [s_nil]
    exact mid n1 _ _ _ _ H9 (Eq.trans (by kernel_rfl) rsg) (Eq.trans (by kernel_rfl) rm) (by kernel_rfl) (Eq.trans (by kernel_rfl) rb) (by kernel_rfl) x09 e9 es9 hn1 en9 (okS_append okb op.1) (okS_append okb (okS_append g3.1 op.2.1)) (okS_append okb op.2.2)
theorem world_spec {tab : Tab} (T : WorldTab tab) {n : Nat} {ns : List Int} (hn : ns.length ≤ 63) {t : Addr} {k : Int} {Q : V → MH → Prop} {Z : Z0} {H : MH} (ht : H t = some (.list [.int k])) (k0 : 0 ≤ k) (k1 : k + 7 < 1000000)
    (hQ : ∀ ls na k' H', ExtT t H H' → H' t = some (.list [.int k']) → k ≤ k' → k' ≤ k + 7 → WorldAt t ls na H' → ls.length ≤ 4 → okS ls → Q (.tup [.str ls, .ref na]) H') : CallN tab (n + 3) "_law_world" [.fl (ns.map .int), .ref t] Q Z H := by
  refine call_of T.wo rfl ?_
  have hC := CallN_mono tab (n + 2)
  unfold b_l_world
  have tp : Tape t k H := ⟨ht, k0, by (first | lia | omega)⟩
  rw [s_cons, s_asg, w_prim]
  refine l_pure (v := .int 1) rfl ?_
  rw [w_cons]
  refine draw_e T.dr hn (by kernel_rfl) (by kernel_rfl) tp (by decide) fun m0 H1 a0 a1 x1 e1 => ?_
  rw [w_nil]
  refine ⟨_, p_add _ _ _, ?_⟩
  rw [fin_val, s_cons, s_ifs, w_prim, w_cons]
  refine draw_e T.dr hn (by kernel_rfl) (by kernel_rfl) (tp.next e1 (by (first | lia | omega))) (by decide) fun c6 H2 b0 b1 x2 e2 => ?_
  refine l_pure (v := .int 1) rfl ?_
  rw [w_nil]
  refine ⟨.val (.bool (c6 == 1)), by rw [p_eq, eq_int]; rfl, ?_⟩
  rw [fin_val, asB_bool]
  have x12 := x1.trans x2
  have tp2 : Tape t (k + 1 + 1) H2 := ⟨e2, by (first | lia | omega), by (first | lia | omega)⟩
  -- the rest, for any number of letters
  have rest : ∀ (many : Nat) (ρ : Env) (H3 : MH) (k3 : Int), 1 ≤ many → many ≤ 4 → ρ "_law_script" = some (.fl (ns.map .int)) → ρ "_law_tape" = some (.ref t) → ρ "_law_many" = some (.int many) → ExtT t H H3 → H3 t = some (.list [.int k3]) → k ≤ k3 → k3 ≤ k + 3 →
      wpSs (CallN tab (n + 2)) (b_l_world.drop 2) ρ (fun _ H' => Q .none H') Q Z H3 := by
    intro many ρ H3 k3 m1 m4 rs rt rm x3 e3 kl ku
    show wpSs _ (_ :: _) _ _ _ _ _
    refine st_setC (vs := [.fl (ns.map .int), .ref t, .int 4]) (by simp [rs, rt]) ?_
    refine marks_spec (many := 4) T.ma T.dr hn (by decide) e3 (by (first | lia | omega)) (by (first | lia | omega)) fun sa ms H4 x4 e4 es hl hsg hst _ => ?_
    obtain ⟨s0, s1, s2, s3, rfl⟩ : ∃ s0 s1 s2 s3, ms = [s0, s1, s2, s3] := by
      match ms, hl with
      | [a, b, c, d], _ => exact ⟨a, b, c, d, rfl⟩
    have g0 := hsg s0 (by simp)
    have g1 := hsg s1 (by simp)
    have g2 := hsg s2 (by simp)
    have g3 := hsg s3 (by simp)
    have ix : ∀ {H' : MH} (j : Nat) (hj : j < 4), H' sa = some (.list ([s0, s1, s2, s3].map .str)) → ∃ y, okS y ∧ y.length = 1 ∧ idxOp H' (.ref sa) (.int j) = some (.str y) := fun {H'} j hj h => by
      have : j = 0 ∨ j = 1 ∨ j = 2 ∨ j = 3 := by (first | lia | omega)
      rcases this with rfl | rfl | rfl | rfl
      · exact ⟨s0, g0.1, g0.2, idx_list h (pyIdx_nat (j := 0) (by simp)) rfl⟩
      · exact ⟨s1, g1.1, g1.2, idx_list h (pyIdx_nat (j := 1) (by simp)) rfl⟩
      · exact ⟨s2, g2.1, g2.2, idx_list h (pyIdx_nat (j := 2) (by simp)) rfl⟩
      · exact ⟨s3, g3.1, g3.2, idx_list h (pyIdx_nat (j := 3) (by simp)) rfl⟩
    have tp4 : Tape t (k3 + 2) H4 := ⟨e4, by (first | lia | omega), by (first | lia | omega)⟩
    rw [s_cons, s_asg, w_meth]
    refine pev_ok _ (.str "") _ rfl ⟨rfl, ?_⟩
    rw [w_cons]
    refine i_compG hC ?_
    rw [w_prim, w_cons, w_prim]
    refine pevs_ok _ [.int 0, .int 1, .int 30] _ (by simp) ⟨_, by rw [p_list]; exact newL_ok (by simp; decide), ?_⟩
    rw [fin_new]
    intro q hq
    have hqt : q ≠ t := fun e => by rw [e, e4] at hq; cases hq
    have x5 : ExtT t H4 (hupd H4 q (.list [.int 0, .int 1, .int 30])) := .new hq
    have e5 : hupd H4 q (.list [.int 0, .int 1, .int 30]) t = some (.list [.int (k3 + 2)]) := new_other hq e4
    have q5 : hupd H4 q (.list [.int 0, .int 1, .int 30]) q = some (.list [.int 0, .int 1, .int 30]) := hupd_eq ..
    generalize hupd H4 q (.list [.int 0, .int 1, .int 30]) = H5 at x5 e5 q5
    rw [w_cons]
    refine draw_e T.dr hn (Eq.trans (by kernel_rfl) rs) (Eq.trans (by kernel_rfl) rt) ⟨e5, by (first | lia | omega), by (first | lia | omega)⟩ (by decide) fun c H6 c0 c1 x6 e6 => ?_
    rw [w_nil]
    have q6 := x6 _ _ hqt q5
    have hidx : ∃ cn : Nat, cn ≤ 30 ∧ idxOp H6 (.ref q) (.int c) = some (.int cn) := by
      have : c = 0 ∨ c = 1 ∨ c = 2 := by (first | lia | omega)
      rcases this with rfl | rfl | rfl
      · exact ⟨0, by (first | lia | omega), idx_list q6 (pyIdx_nat (j := 0) (by simp)) rfl⟩
      · exact ⟨1, by (first | lia | omega), idx_list q6 (pyIdx_nat (j := 1) (by simp)) rfl⟩
      · exact ⟨30, by (first | lia | omega), idx_list q6 (pyIdx_nat (j := 2) (by simp)) rfl⟩
    obtain ⟨cn, hcn, hci⟩ := hidx
    refine ⟨.val (.int cn), by rw [p_idx, hci]; rfl, ?_⟩
    rw [fin_val]
    have x46 := x5.trans x6
    have es6 : H6 sa = some (.list ([s0, s1, s2, s3].map .str)) := x46 _ _ hst es
    refine ⟨(List.range cn).map (fun (i : Nat) => V.int i), none, src_range _ (by unfold lim; (first | lia | omega)), ?_⟩
    refine ⟨fun vs acc H' => H' = H6 ∧ ∃ (j : Nat) (ss : List Str), j ≤ cn ∧ vs = ((List.range cn).map (fun (i : Nat) => V.int i)).drop j ∧ acc = ss.map .str ∧ ss.length = j ∧ Signs ss, ?_, fun _ _ _ _ => trivial, ?_, ?_⟩
    · exact ⟨rfl, 0, [], Nat.zero_le _, by simp, rfl, rfl, fun x hx => by cases hx⟩
    · rintro v vs acc H' ⟨rfl, j, ss, hj, hv, rfl, hl, hsg'⟩
      have hjk : j < cn := by
        rcases Nat.lt_or_ge j cn with h | h
        · exact h
        · rw [List.drop_of_length_le (by simp; (first | lia | omega))] at hv; cases hv
      rw [List.drop_eq_getElem_cons (by simp; (first | lia | omega))] at hv
      obtain ⟨rfl, rfl⟩ := List.cons.inj hv
      refine ⟨_, rfl, ?_⟩
      obtain ⟨y, y1, y2, y3⟩ := ix (j % 4) (Nat.mod_lt _ (by decide)) es6
      refine pev_ok _ (.str y) _ ?_ ⟨rfl, j + 1, ss ++ [y], hjk, rfl, by simp, by simp [hl], fun x hx => ?_⟩
      · have ej : ((List.range cn).map (fun (i : Nat) => V.int i))[j]'(by simp; (first | lia | omega)) = V.int j := by simp
        have em : ((j : Int) % 4) = ((j % 4 : Nat) : Int) := by (first | lia | omega)
        simp only [pev_prim, pevs_cons, pevs_nil, pev_var, pev_cst, upd, reduceIte, String.reduceEq, Option.bind_some, Option.map_some, ej, p_mod _ _ _ (show (0 : Int) < 4 by decide), valOf_val, em, p_idx, y3, valOf_map]
      · rcases List.mem_append.mp hx with h | h
        · exact hsg' x h
        · simp at h; rw [h]; exact ⟨y1, y2⟩
    · rintro acc H' ⟨rfl, j, ss, hj, hv, rfl, hl, hsg'⟩
      refine ⟨by simp; unfold lim; (first | lia | omega), fun b hb => ?_⟩
      dsimp only
      rw [w_nil]
      have hjl : (Str.join "" ss).length = ss.length := join_len1 ss fun x hx => (hsg' x hx).2
      have okb : okS (Str.join "" ss) := join_ok1 ss fun x hx => (hsg' x hx).1
      refine ⟨_, join_prim (hupd_eq ..) (by rw [hjl]; unfold lim; (first | lia | omega)), ?_⟩
      rw [fin_val]
      have x7 : ExtT t H' (hupd H' b (.list (ss.map .str))) := .new hb
      have e7 : hupd H' b (.list (ss.map .str)) t = some (.list [.int (k3 + 2 + 1)]) := new_other hb e6
      have es7 : hupd H' b (.list (ss.map .str)) sa = some (.list ([s0, s1, s2, s3].map .str)) := new_other hb es6
      generalize hupd H' b (.list (ss.map .str)) = H7 at x7 e7 es7
      have hBl : (Str.join "" ss).length ≤ 30 := by rw [hjl]; (first | lia | omega)
      generalize Str.join "" ss = B at okb hBl
      have x37 := ((x3.trans x4).trans x46).trans x7
      exact world_tail T hn hC m1 m4 (Eq.trans (by kernel_rfl) rs) (Eq.trans (by kernel_rfl) rt) (Eq.trans (by kernel_rfl) rm) (by kernel_rfl) (by kernel_rfl) okb hBl x37 e7 (by (first | lia | omega)) (by (first | lia | omega)) (by (first | lia | omega)) es7 hst g0 g1 g2 g3 hQ
  refine ⟨fun _ => ?_, fun _ => ?_⟩
  · rw [s_cons, s_asg, w_prim]
    refine l_pure (v := .int 3) rfl ?_
    rw [w_cons]
    refine draw_e T.dr hn (by kernel_rfl) (by kernel_rfl) tp2 (by decide) fun m2 H3 c0 c1 x3 e3 => ?_
    rw [w_nil]
    refine ⟨_, p_add _ _ _, ?_⟩
    rw [fin_val, s_nil]
    refine rest (3 + m2.toNat) _ H3 (k + 1 + 1 + 1) (by (first | lia | omega)) (by (first | lia | omega)) (by kernel_rfl) (by kernel_rfl) ?_ (x12.trans x3) e3 (by (first | lia | omega)) (by (first | lia | omega))
    have : ((3 + m2.toNat : Nat) : Int) = 3 + m2 := by (first | lia | omega)
    rw [this]; simp [upd]
  · rw [s_nil]
    refine rest (1 + m0.toNat) _ H2 (k + 1 + 1) (by (first | lia | omega)) (by (first | lia | omega)) (by kernel_rfl) (by kernel_rfl) ?_ x12 e2 (by (first | lia | omega)) (by (first | lia | omega))
    have : ((1 + m0.toNat : Nat) : Int) = 1 + m0 := by (first | lia | omega)
    rw [this]; simp [upd]
end Mini

end
section
set_option autoImplicit false
set_option linter.unusedVariables false
set_option linter.unusedSimpArgs false
set_option maxRecDepth 100000
namespace Mini
open PySem

section
variable {C : CallSem} {ρ : Env} {Q : V → MH → Prop} {Z : Z0} {H : MH} {N : Env → MH → Prop} {R : V → MH → Prop} {r : List S}
theorem drop_cons {vs us : List V} {u : V} {i : Nat} (h : u :: us = vs.drop i) : ∃ hi : i < vs.length, u = vs[i] ∧ us = vs.drop (i + 1) := by
  rcases Nat.lt_or_ge i vs.length with hi | hi
  · rw [List.drop_eq_getElem_cons hi] at h
    obtain ⟨a, b⟩ := List.cons.inj h
    exact ⟨hi, a, b⟩
  · rw [List.drop_of_length_le hi] at h; cases h
theorem drop_nil {vs : List V} {i : Nat} (h : [] = vs.drop i) (hi : i ≤ vs.length) : i = vs.length := by
  rcases Nat.lt_or_ge i vs.length with hi | hi
  · rw [List.drop_eq_getElem_cons hi] at h; cases h
  · (first | lia | omega)
theorem i_compI (hC : MonoC C) {x : String} {sk : SK} {src elt : X} {sv : V} {vs : List V} {w : Option (Addr × List V)} (hs : pev H ρ src = some sv) (hi : srcItems sk H sv = some (vs, w)) (I : Nat → List V → MH → Prop) (h0 : I 0 [] H) (hw : ∀ i acc H', I i acc H' → watch w H')
    (hb : ∀ i (h : i < vs.length) acc H', I i acc H' → wpE C elt (upd ρ x vs[i]) (fun ev H2 => I (i + 1) (acc ++ [ev]) H2) ZF H') (hN : ∀ acc H', I vs.length acc H' → doneC Q acc H') : wpE C (.comp elt [x] false sk src) ρ Q Z H := by
  refine i_compG hC (pev_ok _ sv _ hs ⟨vs, w, hi, fun us acc H' => ∃ i, i ≤ vs.length ∧ us = vs.drop i ∧ I i acc H', ⟨0, Nat.zero_le _, by simp, h0⟩, ?_, ?_, ?_⟩)
  · rintro us ρ' H' ⟨i, _, _, h⟩; exact hw i ρ' H' h
  · rintro u us ρ' H' ⟨i, hl, hu, h⟩
    obtain ⟨hi, rfl, rfl⟩ := drop_cons hu
    exact ⟨_, rfl, wpE_mono hC (hb i hi ρ' H' h) (fun ρ2 H2 k => ⟨i + 1, hi, rfl, k⟩) (fun _ _ z => z)⟩
  · rintro ρ' H' ⟨i, hl, hu, h⟩
    have := drop_nil hu hl
    subst this
    exact hN ρ' H' h
theorem i_compIfI (hC : MonoC C) {x : String} {sk : SK} {src elt cond : X} {sv : V} {vs : List V} {w : Option (Addr × List V)} (hs : pev H ρ src = some sv) (hi : srcItems sk H sv = some (vs, w)) (I : Nat → List V → MH → Prop) (h0 : I 0 [] H) (hw : ∀ i acc H', I i acc H' → watch w H')
    (hb : ∀ i (h : i < vs.length) acc H', I i acc H' → ∃ b, pev H' (upd ρ x vs[i]) cond = some (.bool b) ∧ (b = true → wpE C elt (upd ρ x vs[i]) (fun ev H2 => I (i + 1) (acc ++ [ev]) H2) ZF H') ∧ (b = false → I (i + 1) acc H')) (hN : ∀ acc H', I vs.length acc H' → doneC Q acc H') : wpE C (.compIf elt [x] false sk src cond) ρ Q Z H := by
  refine i_compIfG hC (pev_ok _ sv _ hs ⟨vs, w, hi, fun us acc H' => ∃ i, i ≤ vs.length ∧ us = vs.drop i ∧ I i acc H', ⟨0, Nat.zero_le _, by simp, h0⟩, ?_, ?_, ?_⟩)
  · rintro us ρ' H' ⟨i, _, _, h⟩; exact hw i ρ' H' h
  · rintro u us acc H' ⟨i, hl, hu, h⟩
    obtain ⟨hi, rfl, rfl⟩ := drop_cons hu
    obtain ⟨b, e, ht, hf⟩ := hb i hi acc H' h
    refine ⟨_, rfl, pev_ok _ _ _ e ?_⟩
    rw [asB_bool]
    exact ⟨fun hb => wpE_mono hC (ht hb) (fun ρ2 H2 k => ⟨i + 1, hi, rfl, k⟩) (fun _ _ z => z), fun hb => ⟨i + 1, hi, rfl, hf hb⟩⟩
  · rintro ρ' H' ⟨i, hl, hu, h⟩
    have := drop_nil hu hl
    subst this
    exact hN ρ' H' h
theorem i_compIfP (hC : MonoC C) {α : Type} {x : String} {sk : SK} {src elt cond : X} {sv : V} {l : List α} {g f : α → V} {p : α → Bool} {w : Option (Addr × List V)} (hs : pev H ρ src = some sv) (hi : srcItems sk H sv = some (l.map g, w)) (hw : watch w H) (hc : ∀ a ∈ l, pev H (upd ρ x (g a)) cond = some (.bool (p a))) (hb : ∀ a ∈ l, pev H (upd ρ x (g a)) elt = some (f a)) (hl : l.length ≤ lim) (hQ : ∀ a, H a = none → Q (.ref a) (hupd H a (.list ((l.filter p).map f)))) :
    wpE C (.compIf elt [x] false sk src cond) ρ Q Z H := by
  refine i_compIfI hC hs hi (fun i acc H' => H' = H ∧ acc = ((l.take i).filter p).map f) ⟨rfl, by simp⟩ (fun i acc H' h => by rw [h.1]; exact hw) ?_ ?_
  · rintro i h acc H' ⟨rfl, rfl⟩
    have hi' : i < l.length := by simpa using h
    have hm := List.getElem_mem hi'
    refine ⟨p l[i], by rw [List.getElem_map]; exact hc _ hm, fun e => pev_ok _ (f l[i]) _ (by rw [List.getElem_map]; exact hb _ hm) ⟨rfl, ?_⟩, fun e => ⟨rfl, ?_⟩⟩
    · rw [List.take_succ_eq_append_getElem hi', List.filter_append, List.map_append]; simp [e]
    · rw [List.take_succ_eq_append_getElem hi', List.filter_append, List.map_append]; simp [e]
  · rintro acc H' ⟨rfl, rfl⟩
    rw [List.length_map, List.take_length]
    exact ⟨by rw [List.length_map]; exact Nat.le_trans (List.length_filter_le ..) hl, hQ⟩
theorem i_compE (hC : MonoC C) {α : Type} {x : String} {sk : SK} {src elt : X} {sv : V} {l : List α} {g f : α → V} {w : Option (Addr × List V)} (hs : pev H ρ src = some sv) (hi : srcItems sk H sv = some (l.map g, w)) (hw : ∀ H', Ext H H' → watch w H') (hb : ∀ a ∈ l, ∀ H', Ext H H' → wpE C elt (upd ρ x (g a)) (fun ev H2 => ev = f a ∧ Ext H' H2) ZF H') (hl : l.length ≤ lim) (hQ : ∀ a H', Ext H H' → H' a = none → Q (.ref a) (hupd H' a (.list (l.map f)))) :
    wpE C (.comp elt [x] false sk src) ρ Q Z H := by
  refine i_compI hC hs hi (fun i acc H' => Ext H H' ∧ acc = (l.take i).map f) ⟨.refl _, by simp⟩ (fun i acc H' h => hw _ h.1) ?_ ?_
  · rintro i h acc H' ⟨e, rfl⟩
    have hi' : i < l.length := by simpa using h
    have hm := List.getElem_mem hi'
    have hx : (l.map g)[i] = g l[i] := by simp
    rw [hx]
    refine wpE_mono hC (hb _ hm H' e) (fun v H2 k => ⟨e.trans k.2, ?_⟩) fun _ _ z => z
    rw [k.1, List.take_succ_eq_append_getElem hi', List.map_append]; rfl
  · rintro acc H' ⟨e, rfl⟩
    rw [List.length_map, List.take_length]
    exact ⟨by rw [List.length_map]; exact hl, fun a ha => hQ a H' e ha⟩
theorem st_new {x : String} {es : List X} {vs : List V} (h : pevs H ρ es = some vs) (hl : vs.length ≤ lim) (hk : ∀ a, H a = none → wpSs C r (upd ρ x (.ref a)) N R Z (hupd H a (.list vs))) : wpSs C (.asg x (.prim .list es) :: r) ρ N R Z H := by
  rw [s_cons, s_asg, w_prim]
  refine pevs_ok _ vs _ h ⟨_, by rw [p_list]; exact newL_ok hl, ?_⟩
  rw [fin_new]; exact hk
end
section
variable {ρ : Env} {H : MH} {x : String} {v a b : V} {e e1 e2 : X} {p : Prim}
theorem pva (h : ρ x = some v) : pev H ρ (.var x) = some v := Eq.trans (by kernel_rfl) h
theorem pc : pev H ρ (.cst v) = some v := by kernel_rfl
theorem p1 (h1 : pev H ρ e = some a) (h : primOp p H [a] = some (.val v)) : pev H ρ (.prim p [e]) = some v := by
  rw [pev_prim, pevs_cons, h1, pevs_nil]; show valOf (primOp p H [a]) = _; rw [h]; rfl
theorem p2 (h1 : pev H ρ e1 = some a) (h2 : pev H ρ e2 = some b) (h : primOp p H [a, b] = some (.val v)) : pev H ρ (.prim p [e1, e2]) = some v := by
  rw [pev_prim, pevs_cons, h1, pevs_cons, h2, pevs_nil]; show valOf (primOp p H [a, b]) = _; rw [h]; rfl
theorem pix (h1 : pev H ρ e1 = some a) (h2 : pev H ρ e2 = some b) (h : idxOp H a b = some v) : pev H ρ (.prim .idx [e1, e2]) = some v := p2 h1 h2 (by rw [p_idx, h]; rfl)
theorem pni {c : Bool} (h1 : pev H ρ e1 = some a) (h2 : pev H ρ e2 = some b) (h : inOp H a b = some c) : pev H ρ (.prim .notin [e1, e2]) = some (.bool (!c)) := p2 h1 h2 (by rw [p_notin, h]; rfl)
theorem pin {c : Bool} (h1 : pev H ρ e1 = some a) (h2 : pev H ρ e2 = some b) (h : inOp H a b = some c) : pev H ρ (.prim .isin [e1, e2]) = some (.bool c) := p2 h1 h2 (by rw [p_isin, h]; rfl)
theorem peq {c : Bool} (h1 : pev H ρ e1 = some a) (h2 : pev H ρ e2 = some b) (h : eqOp H a b = some c) : pev H ρ (.prim .eq [e1, e2]) = some (.bool c) := p2 h1 h2 (by rw [p_eq, h]; rfl)
theorem pne {c : Bool} (h1 : pev H ρ e1 = some a) (h2 : pev H ρ e2 = some b) (h : eqOp H a b = some c) : pev H ρ (.prim .ne [e1, e2]) = some (.bool (!c)) := p2 h1 h2 (by rw [p_ne, h]; rfl)
theorem psn : pevs H ρ [] = some [] := by kernel_rfl
theorem psc {es : List X} {vs : List V} (h : pev H ρ e = some v) (k : pevs H ρ es = some vs) : pevs H ρ (e :: es) = some (v :: vs) := by rw [pevs_cons, h, k]; rfl
theorem ps1 (h : pev H ρ e = some v) : pevs H ρ [e] = some [v] := psc h psn
theorem ps2 (h1 : pev H ρ e1 = some a) (h2 : pev H ρ e2 = some b) : pevs H ρ [e1, e2] = some [a, b] := psc h1 (ps1 h2)
end
end Mini

end
section
set_option autoImplicit false
set_option linter.unusedVariables false
set_option linter.unusedSimpArgs false
set_option maxRecDepth 100000
namespace Mini
open PySem

theorem mapO_map {α β γ : Type} {f : α → Option β} {g : γ → α} {h : γ → β} : ∀ (l : List γ), (∀ a ∈ l, f (g a) = some (h a)) → mapO f (l.map g) = some (l.map h)
  | [], _ => rfl
  | a :: l, k => by
    simp only [List.map_cons, mapO, k a (.head _), mapO_map l fun b hb => k b (.tail _ hb)]
theorem toD_strK {k : Nat} {H : MH} {a : Str} (h : okS a) : toD k H (.str a) = some (.str a) := by
  have e : toD k H (.str a) = if PyData.strOk a then some (.str a) else Option.none := by cases k <;> kernel_rfl
  rw [e, if_pos h]
end Mini

end
section
set_option autoImplicit false
set_option linter.unusedVariables false
set_option linter.unusedSimpArgs false
set_option maxRecDepth 100000
namespace Mini
open PySem

theorem nodup_le {α : Type} [DecidableEq α] : ∀ {l L : List α}, l.Nodup → (∀ x ∈ l, x ∈ L) → l.length ≤ L.length
  | [], L, _, _ => Nat.zero_le _
  | a :: l, L, h, hs => by
    obtain ⟨h1, h2⟩ := List.nodup_cons.mp h
    have ha := hs a (.head _)
    have := nodup_le (l := l) (L := L.erase a) h2 fun x hx => (List.mem_erase_of_ne (fun e : x = a => h1 (e ▸ hx))).mpr (hs x (.tail _ hx))
    rw [List.length_erase_of_mem ha] at this
    have hp := List.length_pos_of_mem ha
    simp; (first | lia | omega)
end Mini

end
section
set_option autoImplicit false
set_option linter.unusedVariables false
set_option linter.unusedSimpArgs false
set_option maxRecDepth 100000
namespace Mini
open PySem

theorem eqv_list (xs ys : List PyData) : PyData.eqv (.list xs) (.list ys) = PyData.eqvAll xs ys := by kernel_rfl
theorem toD_refK {H : MH} {a : Addr} {vs : List V} (k : Nat) (h : H a = some (.list vs)) : toD (k + 1) H (.ref a) = (mapO (toD k H) vs).map .list := by
  have e : toD (k + 1) H (.ref a) = match H a with
    | some (.list vs) => (mapO (toD k H) vs).map .list
    | _ => Option.none := by kernel_rfl
  rw [e, h]
end Mini

end
section
set_option autoImplicit false
set_option linter.unusedVariables false
set_option linter.unusedSimpArgs false
set_option maxRecDepth 100000
namespace Mini
open PySem

section
variable {H : MH} {ρ : Env} {el er : X}
theorem p_and {x y : Bool} (h1 : pev H ρ el = some (.bool x)) (h2 : pev H ρ er = some (.bool y)) : pev H ρ (.and el er) = some (.bool (and x y)) := by
  rw [pev_and, h1]; cases x
  · rfl
  · exact h2
end
end Mini

end
section
set_option autoImplicit false
set_option linter.unusedVariables false
set_option linter.unusedSimpArgs false
set_option maxRecDepth 100000
namespace Mini
open PySem

section
variable {C : CallSem} {ρ : Env} {H : MH} {Z : Z0}
theorem s_try (body : List S) (c1 : String) (as1 : Option String) (h1 : List S) (c2 : String) (h2 : List S) {N : Env → MH → Prop} {R : V → MH → Prop} : wpS C (.tryS body c1 as1 h1 c2 h2) ρ N R Z H = wpSs C body ρ N R (fun c H' =>
      (exSub c c1 = true → wpSs C h1 (exBind as1 c ρ) (fun ρ2 H2 => N (exFree as1 ρ2) H2) R ZF H') ∧
      (exSub c c1 = false → exSub c c2 = true ∧ wpSs C h2 ρ N R ZF H')) H := by kernel_rfl
end
end Mini

end
section
set_option autoImplicit false
set_option linter.unusedVariables false
set_option linter.unusedSimpArgs false
set_option maxRecDepth 100000
namespace Mini
open PySem

noncomputable def hasC (ls c : Str) : Bool := ls.cps.toList.any fun ch => c == ⟨#[ch]⟩
noncomputable def fine : Say → Prop
  | .letter x c => okS x ∧ okS c ∧ c.length = 1
  | .ahead x y => okS x ∧ okS y
  | .same x y => okS x ∧ okS y
  | .within x y => okS x ∧ okS y
  | .not s => fine s
  | .and s t => fine s ∧ fine t
  | .or s t => fine s ∧ fine t
  | .place x s => okS x ∧ fine s
  | .set x s => okS x ∧ fine s
noncomputable def nmx (K : KE) (x : Str) (b : Bool) : Option Bool := if K.lookup x = some b then none else some true
noncomputable def seq2 (a b : Option Bool) : Option Bool := match a with
  | none => b
  | some e => some e
noncomputable def bad (ls : Str) : KE → Say → Option Bool
  | K, .letter x c => seq2 (nmx K x true) (if hasC ls c then none else some false)
  | K, .ahead x y => seq2 (nmx K x true) (nmx K y true)
  | K, .same x y => seq2 (nmx K x true) (nmx K y true)
  | K, .within x y => seq2 (nmx K x true) (nmx K y false)
  | K, .not s => bad ls K s
  | K, .and s t => seq2 (bad ls K s) (bad ls K t)
  | K, .or s t => seq2 (bad ls K s) (bad ls K t)
  | K, .place x s => bad ls ((x, true) :: K) s
  | K, .set x s => bad ls ((x, false) :: K) s
noncomputable def clsE (b : Bool) : String := if b then "NoName" else "NoLetter"
structure KD (kvs : List (V × V)) (K : KE) : Prop where
  k : StrKeys kvs
  l : kvs.length ≤ K.length
  f : ∀ x, dfind kvs (.str x) = (K.lookup x).map fun b => .str (kstr b)
theorem KD.nil : KD [] [] := ⟨fun p hp => (by cases hp), Nat.le_refl _, fun x => rfl⟩
theorem KD.put {kvs : List (V × V)} {K : KE} (h : KD kvs K) (x : Str) (b : Bool) : KD (dput kvs (.str x) (.str (kstr b))) ((x, b) :: K) := ⟨h.k.put x _, by have := dput_len kvs (.str x) (.str (kstr b)); have := h.l; rw [List.length_cons]; (first | lia | omega), fun y => by
  rw [dfind_dput, List.lookup_cons, h.f]
  by_cases e : y = x
  · subst e; simp
  · have : (y == x) = false := by rw [beq_eq_false_iff_ne]; exact e
    rw [this, if_neg (fun q => e (by injection q))]⟩
noncomputable def Ends (e : Option Bool) (Q : V → MH → Prop) (Z : Z0) (H : MH) : Prop := match e with
  | none => ∀ H', Ext H H' → Q .none H'
  | some b => ∀ H', Ext H H' → Z (clsE b) H'
theorem Ends.ext {e : Option Bool} {Q : V → MH → Prop} {Z : Z0} {H H' : MH} (h : Ends e Q Z H) (x : Ext H H') : Ends e Q Z H' := by
  cases e with
  | none => exact fun H2 y => h H2 (x.trans y)
  | some b => exact fun H2 y => h H2 (x.trans y)
structure NTab (tab : Tab) : Prop where
  nn : tab.lookup "need_name" = some (["name", "sort", "told"], b_need_name)
  wn : tab.lookup "with_name" = some (["told", "name", "value"], b_with_name)
  lo : tab.lookup "looked_at" = some (["saying", "letters", "told"], b_looked_at)
  ne : tab.lookup "need" = some (["saying", "letters"], b_need)
theorem eq_none_str {H : MH} {s : Str} (h : okS s) : eqOp H .none (.str s) = some false := (eqOp_of (x := .none) (by kernel_rfl) (toD_str h)).trans rfl
theorem needn_spec {tab : Tab} (T : NTab tab) {n : Nat} {d : Addr} {kvs : List (V × V)} {K : KE} {x : Str} {b : Bool} {Q : V → MH → Prop} {Z : Z0} {H : MH} (h : H d = some (.dict kvs)) (hK : KD kvs K) (hE : Ends (nmx K x b) Q Z H) : CallN tab (n + 1) "need_name" [.str x, .str (kstr b), .ref d] Q Z H := by
  refine call_of T.nn rfl ?_
  unfold b_need_name
  have hg : pev H (bindE ["name", "sort", "told"] [.str x, .str (kstr b), .ref d]) (.meth .get (.var "told") [.var "name"]) = some ((dfind kvs (.str x)).getD .none) := by
    rw [pev_meth (ov := .ref d) (vs := [.str x]) (pva (by kernel_rfl)) ?_ (ps1 (pva (by kernel_rfl)))]
    · have : primOp .get H [.ref d, .str x] = some (.val ((dfind kvs (.str x)).getD .none)) := by
        show (match H d with
          | some (.dict kvs) => if dOK kvs (.str x) && kk (.str x) != 2 then some (Res.val ((dfind kvs (.str x)).getD .none)) else none
          | _ => none) = _
        rw [h]
        exact if_pos (by rw [hK.k.ok x]; rfl)
      rw [this]; rfl
    · show (match H d with
        | some (.dict _) => some "dict"
        | _ => none).isSome = true
      rw [h]; rfl
  have hv : eqOp H ((dfind kvs (.str x)).getD .none) (.str (kstr b)) = some (decide (K.lookup x = some b)) := by
    rw [hK.f]
    cases q : K.lookup x with
    | none => exact (eq_none_str (kstr_ok b)).trans (by simp)
    | some c => exact (eq_str (kstr_ok c) (kstr_ok b)).trans (by rw [kstr_eq]; cases c <;> cases b <;> rfl)
  refine st_if (b := !decide (K.lookup x = some b)) (pne hg (pva (by kernel_rfl)) hv) (fun hb => ?_) fun hb => ?_
  · have hn : ¬ K.lookup x = some b := by rw [Bool.not_eq_true', decide_eq_false_iff_not] at hb; exact hb
    unfold nmx at hE
    rw [if_neg hn] at hE
    exact hE H (.refl _)
  · have hn : K.lookup x = some b := by rw [Bool.not_eq_false', decide_eq_true_eq] at hb; exact hb
    unfold nmx at hE
    rw [if_pos hn] at hE
    rw [s_nil, s_nil]
    exact hE H (.refl _)
theorem Ends.two {e e' : Option Bool} {Q : V → MH → Prop} {Z : Z0} {H : MH} {K : V → MH → Prop} (h : Ends (seq2 e e') Q Z H) (k : e = none → ∀ H', Ext H H' → K .none H') : Ends e K Z H := by
  cases e with
  | none => exact k rfl
  | some b => exact h
theorem Ends.snd {e e' : Option Bool} {Q : V → MH → Prop} {Z : Z0} {H H' : MH} (h : Ends (seq2 e e') Q Z H) (he : e = none) (x : Ext H H') : Ends e' Q Z H' := by
  subst he; exact Ends.ext h x
end Mini

end
section
set_option autoImplicit false
set_option linter.unusedVariables false
set_option linter.unusedSimpArgs false
set_option maxRecDepth 100000
namespace Mini
open PySem

theorem Ends.map {e : Option Bool} {Q Q' : V → MH → Prop} {Z : Z0} {H : MH} (h : Ends e Q Z H) (k : ∀ H', Ext H H' → Q .none H' → Q' .none H') : Ends e Q' Z H := by
  cases e with
  | none => exact fun H' x => k H' x (h H' x)
  | some b => exact h
theorem st_else {C : CallSem} {ρ : Env} {Z : Z0} {H : MH} {N : Env → MH → Prop} {R : V → MH → Prop} {t u r : List S} {e : X} (h : pev H ρ e = some (.bool false)) (k : wpSs C u ρ (fun ρ' H' => wpSs C r ρ' N R Z H') R Z H) : wpSs C (.ifs e t u :: r) ρ N R Z H := st_if h (fun e => by cases e) fun _ => k
theorem in_str {H : MH} {ls c : Str} (h : c.length = 1) : inOp H (.str c) (.str ls) = some (hasC ls c) := by
  show (if c.length = 1 then some (ls.cps.toList.any fun ch => c == ⟨#[ch]⟩) else none) = _
  rw [if_pos h]; rfl
theorem two_names {tab : Tab} (T : NTab tab) {n : Nat} {d : Addr} {kvs : List (V × V)} {K : KE} {x y : Str} {b c : Bool} {ρ : Env} {H : MH} {Z : Z0} {N : Env → MH → Prop} {R : V → MH → Prop} {a1 a2 : List X} (h : H d = some (.dict kvs)) (hK : KD kvs K) (h1 : ∀ H', pevs H' ρ a1 = some [.str x, .str (kstr b), .ref d]) (h2 : ∀ H', pevs H' ρ a2 = some [.str y, .str (kstr c), .ref d]) (hE : Ends (seq2 (nmx K x b) (nmx K y c)) (fun _ H' => N ρ H') Z H) :
    wpSs (CallN tab (n + 1)) [.ex (.call "need_name" a1), .ex (.call "need_name" a2)] ρ N R Z H := by
  rw [s_cons, s_ex]
  refine i_call (h1 H) ?_
  refine needn_spec T h hK (hE.two fun he H1 x1 => ⟨rfl, ?_⟩)
  rw [s_cons, s_ex]
  refine i_call (h2 H1) ?_
  refine needn_spec T (x1 _ _ h) hK ((hE.snd he x1).map fun H2 x2 q => ⟨rfl, ?_⟩)
  rw [s_nil]; exact q
theorem looked_spec {tab : Tab} (T : NTab tab) {ls : Str} : ∀ (s : Say) (n : Nat), s.h ≤ n → fine s → ∀ (K : KE) (d : Addr) (kvs : List (V × V)) (Q : V → MH → Prop) (Z : Z0) (H : MH), H d = some (.dict kvs) → KD kvs K → K.length + s.h ≤ 100 → Ends (bad ls K s) Q Z H → CallN tab (n + 2) "looked_at" [enc s, .str ls, .ref d] Q Z H
  | .letter x c, n, hn, hf, K, d, kvs, Q, Z, H, h, hK, hl, hE => by
    refine call_of T.lo rfl ?_
    unfold b_looked_at
    refine st_set (v := .str "letter") (by kernel_rfl) ?_
    refine st_take (by kernel_rfl) ?_
    rw [s_cons, s_ex]
    refine i_call (vs := [.str x, .str (kstr true), .ref d]) (by kernel_rfl) ?_
    refine needn_spec T h hK (Ends.two hE fun he H1 x1 => ⟨rfl, ?_⟩)
    have hE2 := Ends.snd hE he x1
    refine st_if (b := !hasC ls c) (pni (a := .str c) (b := .str ls) (by kernel_rfl) (by kernel_rfl) (in_str hf.2.2)) (fun hb => ?_) fun hb => ?_
    · rw [Bool.not_eq_true'] at hb
      rw [hb] at hE2
      exact hE2 H1 (.refl _)
    · rw [Bool.not_eq_false'] at hb
      rw [hb] at hE2
      rw [s_nil, s_nil, s_nil]
      exact hE2 H1 (.refl _)
  | .ahead x y, n, hn, hf, K, d, kvs, Q, Z, H, h, hK, hl, hE => by
    refine call_of T.lo rfl ?_
    unfold b_looked_at
    refine st_set (v := .str "ahead") (by kernel_rfl) ?_
    refine st_else (by kernel_rfl) (st_take (by kernel_rfl) ?_)
    exact two_names (x := x) (y := y) (b := true) (c := true) T h hK (fun _ => by kernel_rfl) (fun _ => by kernel_rfl) (Ends.map hE fun H' x q => by rw [s_nil, s_nil]; exact q)
  | .same x y, n, hn, hf, K, d, kvs, Q, Z, H, h, hK, hl, hE => by
    refine call_of T.lo rfl ?_
    unfold b_looked_at
    refine st_set (v := .str "same") (by kernel_rfl) ?_
    refine st_else (by kernel_rfl) (st_take (by kernel_rfl) ?_)
    exact two_names (x := x) (y := y) (b := true) (c := true) T h hK (fun _ => by kernel_rfl) (fun _ => by kernel_rfl) (Ends.map hE fun H' x q => by rw [s_nil, s_nil]; exact q)
  | .within x y, n, hn, hf, K, d, kvs, Q, Z, H, h, hK, hl, hE => by
    refine call_of T.lo rfl ?_
    unfold b_looked_at
    refine st_set (v := .str "within") (by kernel_rfl) ?_
    refine st_else (by kernel_rfl) (st_else (by kernel_rfl) (st_take (by kernel_rfl) ?_))
    exact two_names (x := x) (y := y) (b := true) (c := false) T h hK (fun _ => by kernel_rfl) (fun _ => by kernel_rfl) (Ends.map hE fun H' x q => by rw [s_nil, s_nil, s_nil]; exact q)
  | .not s, n, hn, hf, K, d, kvs, Q, Z, H, h, hK, hl, hE => by
    have hn : s.h + 1 ≤ n := hn
    have hl : K.length + (s.h + 1) ≤ 100 := hl
    obtain ⟨m, rfl⟩ : ∃ m, n = m + 1 := ⟨n - 1, by (first | lia | omega)⟩
    refine call_of T.lo rfl ?_
    unfold b_looked_at
    refine st_set (v := .str "not") (by kernel_rfl) ?_
    refine st_else (by kernel_rfl) (st_else (by kernel_rfl) (st_else (by kernel_rfl) (st_take (by kernel_rfl) ?_)))
    rw [s_cons, s_ex]
    refine i_call (vs := [enc s, .str ls, .ref d]) (by kernel_rfl) ?_
    exact looked_spec T s m (by (first | lia | omega)) hf K d kvs _ Z H h hK (by (first | lia | omega)) (Ends.map hE fun H' x q => ⟨rfl, by rw [s_nil, s_nil, s_nil, s_nil, s_nil]; exact q⟩)
  | .and s u, n, hn, hf, K, d, kvs, Q, Z, H, h, hK, hl, hE => by
    have hn : max s.h u.h + 1 ≤ n := hn
    have hl : K.length + (max s.h u.h + 1) ≤ 100 := hl
    obtain ⟨m, rfl⟩ : ∃ m, n = m + 1 := ⟨n - 1, by (first | lia | omega)⟩
    refine call_of T.lo rfl ?_
    unfold b_looked_at
    refine st_set (v := .str "and") (by kernel_rfl) ?_
    refine st_else (by kernel_rfl) (st_else (by kernel_rfl) (st_else (by kernel_rfl) (st_else (by kernel_rfl) (st_take (by kernel_rfl) ?_))))
    rw [s_cons, s_ex]
    refine i_call (vs := [enc s, .str ls, .ref d]) (by kernel_rfl) ?_
    refine looked_spec T s m (by (first | lia | omega)) hf.1 K d kvs _ Z H h hK (by (first | lia | omega)) (Ends.two hE fun he H1 x1 => ⟨rfl, ?_⟩)
    rw [s_cons, s_ex]
    refine i_call (vs := [enc u, .str ls, .ref d]) (by kernel_rfl) ?_
    exact looked_spec T u m (by (first | lia | omega)) hf.2 K d kvs _ Z H1 (x1 _ _ h) hK (by (first | lia | omega)) (Ends.map (Ends.snd hE he x1) fun H' x q => ⟨rfl, by rw [s_nil, s_nil, s_nil, s_nil, s_nil, s_nil]; exact q⟩)
  | .or s u, n, hn, hf, K, d, kvs, Q, Z, H, h, hK, hl, hE => by
    have hn : max s.h u.h + 1 ≤ n := hn
    have hl : K.length + (max s.h u.h + 1) ≤ 100 := hl
    obtain ⟨m, rfl⟩ : ∃ m, n = m + 1 := ⟨n - 1, by (first | lia | omega)⟩
    refine call_of T.lo rfl ?_
    unfold b_looked_at
    refine st_set (v := .str "or") (by kernel_rfl) ?_
    refine st_else (by kernel_rfl) (st_else (by kernel_rfl) (st_else (by kernel_rfl) (st_else (by kernel_rfl) (st_take (by kernel_rfl) ?_))))
    rw [s_cons, s_ex]
    refine i_call (vs := [enc s, .str ls, .ref d]) (by kernel_rfl) ?_
    refine looked_spec T s m (by (first | lia | omega)) hf.1 K d kvs _ Z H h hK (by (first | lia | omega)) (Ends.two hE fun he H1 x1 => ⟨rfl, ?_⟩)
    rw [s_cons, s_ex]
    refine i_call (vs := [enc u, .str ls, .ref d]) (by kernel_rfl) ?_
    exact looked_spec T u m (by (first | lia | omega)) hf.2 K d kvs _ Z H1 (x1 _ _ h) hK (by (first | lia | omega)) (Ends.map (Ends.snd hE he x1) fun H' x q => ⟨rfl, by rw [s_nil, s_nil, s_nil, s_nil, s_nil, s_nil]; exact q⟩)
  | .place x s, n, hn, hf, K, d, kvs, Q, Z, H, h, hK, hl, hE => by
    have hn : s.h + 1 ≤ n := hn
    have hl : K.length + (s.h + 1) ≤ 100 := hl
    have hkl := hK.l
    obtain ⟨m, rfl⟩ : ∃ m, n = m + 1 := ⟨n - 1, by (first | lia | omega)⟩
    refine call_of T.lo rfl ?_
    unfold b_looked_at
    refine st_set (v := .str "place") (by kernel_rfl) ?_
    refine st_else (by kernel_rfl) (st_else (by kernel_rfl) (st_else (by kernel_rfl) (st_else (by kernel_rfl) (st_else (by kernel_rfl) ?_))))
    rw [s_cons, s_ex, w_call]
    refine l_pure (v := enc s) (by kernel_rfl) (l_pure (v := .str ls) (by kernel_rfl) ?_)
    refine l_call (vs := [.ref d, .str x, .str (kstr true)]) (by kernel_rfl) ?_
    refine with_name_spec T.wn h hK.k (by unfold lim; (first | lia | omega)) fun d' H1 x1 e1 => ?_
    rw [w_nil]
    exact looked_spec T s m (by (first | lia | omega)) hf.2 ((x, true) :: K) d' _ _ Z H1 e1 (hK.put x true) (by rw [List.length_cons]; (first | lia | omega)) (Ends.map (Ends.ext hE x1) fun H' x q => ⟨rfl, by rw [s_nil, s_nil, s_nil, s_nil, s_nil, s_nil]; exact q⟩)
  | .set x s, n, hn, hf, K, d, kvs, Q, Z, H, h, hK, hl, hE => by
    have hn : s.h + 1 ≤ n := hn
    have hl : K.length + (s.h + 1) ≤ 100 := hl
    have hkl := hK.l
    obtain ⟨m, rfl⟩ : ∃ m, n = m + 1 := ⟨n - 1, by (first | lia | omega)⟩
    refine call_of T.lo rfl ?_
    unfold b_looked_at
    refine st_set (v := .str "set") (by kernel_rfl) ?_
    refine st_else (by kernel_rfl) (st_else (by kernel_rfl) (st_else (by kernel_rfl) (st_else (by kernel_rfl) (st_else (by kernel_rfl) ?_))))
    rw [s_cons, s_ex, w_call]
    refine l_pure (v := enc s) (by kernel_rfl) (l_pure (v := .str ls) (by kernel_rfl) ?_)
    refine l_call (vs := [.ref d, .str x, .str (kstr false)]) (by kernel_rfl) ?_
    refine with_name_spec T.wn h hK.k (by unfold lim; (first | lia | omega)) fun d' H1 x1 e1 => ?_
    rw [w_nil]
    exact looked_spec T s m (by (first | lia | omega)) hf.2 ((x, false) :: K) d' _ _ Z H1 e1 (hK.put x false) (by rw [List.length_cons]; (first | lia | omega)) (Ends.map (Ends.ext hE x1) fun H' x q => ⟨rfl, by rw [s_nil, s_nil, s_nil, s_nil, s_nil, s_nil]; exact q⟩)
theorem need_spec8 {tab : Tab} (T : NTab tab) {ls : Str} {s : Say} {n : Nat} (hs : s.h ≤ n) (hf : fine s) (hl : s.h ≤ 100) {Q : V → MH → Prop} {Z : Z0} {H : MH} (hE : Ends (bad ls [] s) Q Z H) : CallN tab (n + 3) "need" [enc s, .str ls] Q Z H := by
  refine call_of T.ne rfl ?_
  unfold b_need
  rw [s_cons, s_ex, w_call]
  refine l_pure (v := enc s) (by kernel_rfl) (l_pure (v := .str ls) (by kernel_rfl) ?_)
  rw [w_cons, w_prim, w_nil]
  refine ⟨.new (.dict []), rfl, ?_⟩
  rw [fin_new]
  intro d hd
  rw [w_nil]
  exact looked_spec T s n hs hf [] d [] _ Z _ (hupd_eq ..) .nil (by rw [List.length_nil]; (first | lia | omega)) (Ends.map (Ends.ext hE (.new hd)) fun H' x q => ⟨rfl, by rw [s_nil]; exact q⟩)
end Mini

end
section
set_option autoImplicit false
set_option linter.unusedVariables false
set_option linter.unusedSimpArgs false
set_option maxRecDepth 100000
namespace Mini
open PySem

theorem i_compIfQ {C : CallSem} {ρ : Env} {Q : V → MH → Prop} {Z : Z0} {H : MH} (hC : MonoC C) {α : Type} {tgt : List String} {isT : Bool} {sk : SK} {src elt cond : X} {sv : V} {l : List α} {g f : α → V} {p : α → Bool} {ρ1 : α → Env} {w : Option (Addr × List V)} (hs : pev H ρ src = some sv) (hi : srcItems sk H sv = some (l.map g, w)) (hw : watch w H) (hbd : ∀ a ∈ l, bindT isT tgt (g a) ρ = some (ρ1 a)) (hc : ∀ a ∈ l, pev H (ρ1 a) cond = some (.bool (p a))) (hb : ∀ a ∈ l, pev H (ρ1 a) elt = some (f a)) (hl : l.length ≤ lim) (hQ : ∀ a, H a = none → Q (.ref a) (hupd H a (.list ((l.filter p).map f)))) :
    wpE C (.compIf elt tgt isT sk src cond) ρ Q Z H := by
  refine i_compIfG hC (pev_ok _ sv _ hs ⟨_, w, hi, fun us acc H' => ∃ i, i ≤ l.length ∧ us = (l.map g).drop i ∧ H' = H ∧ acc = ((l.take i).filter p).map f, ⟨0, Nat.zero_le _, rfl, rfl, rfl⟩, ?_, ?_, ?_⟩)
  · rintro us acc H' ⟨i, _, _, rfl, _⟩; exact hw
  · rintro u us acc H' ⟨i, hil, hu, rfl, rfl⟩
    obtain ⟨hi', rfl, rfl⟩ := drop_cons hu
    have hi2 : i < l.length := by rwa [List.length_map] at hi'
    have hm := List.getElem_mem hi2
    rw [List.getElem_map]
    refine ⟨_, hbd _ hm, ?_⟩
    refine pev_ok _ _ _ (hc _ hm) ?_
    rw [asB_bool]
    refine ⟨fun e => pev_ok _ (f l[i]) _ (hb _ hm) ⟨i + 1, hi2, rfl, rfl, ?_⟩, fun e => ⟨i + 1, hi2, rfl, rfl, ?_⟩⟩
    · rw [List.take_succ_eq_append_getElem hi2, List.filter_append, List.map_append]; simp [e]
    · rw [List.take_succ_eq_append_getElem hi2, List.filter_append, List.map_append]; simp [e]
  · rintro acc H' ⟨i, hil, hu, rfl, rfl⟩
    have := drop_nil hu (by rw [List.length_map]; exact hil)
    rw [List.length_map] at this
    subst this
    rw [List.take_length]
    exact ⟨by rw [List.length_map]; exact Nat.le_trans (List.length_filter_le ..) hl, hQ⟩
noncomputable def wrd : Option Bool → Str
  | none => ""
  | some true => "name"
  | some false => "letter"
theorem wrd_ok (e : Option Bool) : okS (wrd e) := by
  cases e with
  | none => decide +kernel
  | some b => cases b <;> decide +kernel
theorem look_last (x : Str) : ∀ K : KE, K.lookup x = ((K.reverse.filter fun p => p.1 == x).getLast?).map (·.2)
  | [] => rfl
  | (y, c) :: K => by
    rw [List.lookup_cons, List.reverse_cons, List.filter_append]
    by_cases e : y = x
    · subst e; simp
    · have h1 : (x == y) = false := by rw [beq_eq_false_iff_ne]; exact Ne.symm e
      have h2 : (y == x) = false := by rw [beq_eq_false_iff_ne]; exact e
      rw [h1, look_last x K]
      simp [h2]
theorem idx_neg {H : MH} {a : Addr} {vs : List V} {v : V} (h : H a = some (.list (vs ++ [v]))) : idxOp H (.ref a) (.int (-1)) = some v := by
  refine idx_list h (j := vs.length) ?_ (by rw [List.getElem?_append_right (Nat.le_refl _), Nat.sub_self]; rfl)
  unfold pyIdx
  rw [List.length_append, if_neg (by decide), if_pos (by show -((vs.length + 1 : Nat) : Int) ≤ -1; (first | lia | omega))]
  congr 1
  show ((vs.length + 1 : Nat) + (-1) : Int).toNat = _
  (first | lia | omega)
theorem eq_strsNil {H : MH} {a b : Addr} {l : List Str} (ha : H a = some (.list (l.map .str))) (hl : ∀ x ∈ l, okS x) (hb : H b = some (.list [])) : eqOp H (.ref a) (.ref b) = some l.isEmpty := by
  have e1 : toD lineD H (.ref a) = some (.list (l.map .str)) := by
    show toD (39 + 1) H _ = _
    rw [toD_refK 39 ha, mapO_map l fun x hx => toD_strK (hl x hx)]; rfl
  have e2 : toD lineD H (.ref b) = some (.list []) := by
    show toD (39 + 1) H _ = _
    rw [toD_refK 39 hb]; rfl
  rw [eqOp_of e1 e2, eqv_list]
  cases l <;> rfl
abbrev TeTab (tab : Tab) : Prop := tab.lookup "_law_teller" = some (["_law_scope", "_law_name", "_law_sort"], b_l_teller)
theorem teller_spec {tab : Tab} (T : TeTab tab) {n : Nat} {sc : Addr} {K : KE} {x : Str} {b : Bool} {Q : V → MH → Prop} {Z : Z0} {H : MH} (h : H sc = some (.list (K.reverse.map sv))) (hok : ∀ p ∈ K, okS p.1) (hx : okS x) (hl : K.length ≤ 1000) (hQ : ∀ H', Ext H H' → Q (.str (wrd (nmx K x b))) H') : CallN tab (n + 1) "_law_teller" [.ref sc, .str x, .str (kstr b)] Q Z H := by
  refine call_of T rfl ?_
  have hC := CallN_mono tab n
  unfold b_l_teller
  rw [s_cons, s_asg]
  refine i_compIfQ hC (l := K.reverse) (g := sv) (f := fun p => .str (kstr p.2)) (p := fun p => p.1 == x) (ρ1 := fun p => upd (upd (bindE ["_law_scope", "_law_name", "_law_sort"] [.ref sc, .str x, .str (kstr b)]) "_law_one" (.str p.1)) "_law_kind" (.str (kstr p.2))) (sv := .ref sc) (by kernel_rfl) (src_list h) h (fun p _ => by kernel_rfl) (fun p hp => peq (pva (by kernel_rfl)) (pva (by kernel_rfl)) (eq_str (hok p (List.mem_reverse.mp hp)) hx)) (fun p _ => pva (by kernel_rfl)) (by rw [List.length_reverse]; unfold lim; (first | lia | omega)) fun ta hta => ?_
  have hlk := look_last x K
  have y1 : Ext H (hupd H ta (.list ((K.reverse.filter fun p => p.1 == x).map fun p => .str (kstr p.2)))) := .new hta
  have e1 : hupd H ta (.list ((K.reverse.filter fun p => p.1 == x).map fun p => .str (kstr p.2))) ta = some (.list (((K.reverse.filter fun p => p.1 == x).map fun p => kstr p.2).map .str)) := by rw [hupd_eq, List.map_map]; rfl
  generalize hupd H ta (.list ((K.reverse.filter fun p => p.1 == x).map fun p => .str (kstr p.2))) = H1 at y1 e1
  have r1 : upd (bindE ["_law_scope", "_law_name", "_law_sort"] [.ref sc, .str x, .str (kstr b)]) "_law_told_here" (.ref ta) "_law_told_here" = some (.ref ta) := by kernel_rfl
  have r2 : upd (bindE ["_law_scope", "_law_name", "_law_sort"] [.ref sc, .str x, .str (kstr b)]) "_law_told_here" (.ref ta) "_law_sort" = some (.str (kstr b)) := by kernel_rfl
  generalize upd (bindE ["_law_scope", "_law_name", "_law_sort"] [.ref sc, .str x, .str (kstr b)]) "_law_told_here" (.ref ta) = ρ1 at r1 r2
  rw [s_cons, s_ifs, w_or, w_prim]
  refine l_pure (pva r1) ?_
  rw [w_cons, w_prim, w_nil]
  refine ⟨_, by rw [p_list]; exact newL_ok (Nat.zero_le _), ?_⟩
  rw [fin_new]
  intro a ha
  rw [w_nil]
  have y2 : Ext H1 (hupd H1 a (.list [])) := .new ha
  have e2 : hupd H1 a (.list []) a = some (.list []) := hupd_eq ..
  generalize hupd H1 a (.list []) = H2 at y2 e2
  refine ⟨.val (.bool ((K.reverse.filter fun p => p.1 == x).map fun p => kstr p.2).isEmpty), by rw [p_eq, eq_strsNil (y2 _ _ e1) (fun s hs => by obtain ⟨p, _, rfl⟩ := List.mem_map.mp hs; exact kstr_ok _) e2]; rfl, ?_⟩
  rw [fin_val, asB_bool]
  have y02 := y1.trans y2
  have e12 := y2 _ _ e1
  clear e1
  rcases List.eq_nil_or_concat (K.reverse.filter fun p => p.1 == x) with q | ⟨L, p, q⟩
  · rw [q] at hlk e12 ⊢
    have hn : nmx K x b = some true := if_neg (by rw [hlk]; exact fun e => by cases e)
    rw [hn] at hQ
    refine ⟨fun e => (by cases e), fun _ => ?_⟩
    rw [asB_bool]
    exact ⟨fun _ => st_back pc (hQ H2 y02), fun e => by cases e⟩
  · rw [List.concat_eq_append] at q
    rw [q] at hlk e12 ⊢
    rw [List.getLast?_concat] at hlk
    have hie : ((L ++ [p]).map fun p => kstr p.2).isEmpty = false := by
      cases L <;> rfl
    rw [hie]
    refine ⟨fun _ => ?_, fun e => by cases e⟩
    rw [List.map_append, List.map_append] at e12
    refine pev_ok _ (.bool (!(kstr p.2 == kstr b))) _ (pne (pix (b := .int (-1)) (pva r1) (by kernel_rfl) (idx_neg e12)) (pva r2) (eq_str (kstr_ok _) (kstr_ok _))) ?_
    rw [asB_bool, kstr_eq]
    refine ⟨fun hb => ?_, fun hb => ?_⟩
    · have hn : nmx K x b = some true := if_neg (by rw [hlk]; intro e; have e : p.2 = b := Option.some.inj e; rw [e] at hb; simp at hb)
      rw [hn] at hQ
      exact st_back pc (hQ H2 y02)
    · have hn : nmx K x b = none := if_pos (by rw [hlk]; rw [Bool.not_eq_false', beq_iff_eq] at hb; rw [← hb]; rfl)
      rw [hn] at hQ
      rw [s_nil]
      exact st_back pc (hQ H2 y02)
end Mini

end
section
set_option autoImplicit false
set_option linter.unusedVariables false
set_option linter.unusedSimpArgs false
set_option maxRecDepth 100000
namespace Mini
open PySem

structure WrTab (tab : Tab) : Prop where
  te : TeTab tab
  wr : tab.lookup "_law_wrong" = some (["_law_saying", "_law_letters", "_law_scope"], b_l_wrong)
theorem two_pick {C : CallSem} {ρ : Env} {Q : V → MH → Prop} {Z : Z0} {H : MH} {s1 s2 : Str} {e : X} {b : Bool} (he : ∀ H', Ext H H' → pev H' ρ e = some (.bool b)) (hQ : ∀ H', Ext H H' → Q (.str (if b then s2 else s1)) H') : wpE C (.prim .idx [.prim .list [.cst (.str s1), .cst (.str s2)], .prim .toInt [e]]) ρ Q Z H := by
  rw [w_prim, w_cons, w_prim]
  refine pevs_ok _ [.str s1, .str s2] _ (ps2 pc pc) ⟨_, by rw [p_list]; exact newL_ok (show 2 ≤ lim by decide), ?_⟩
  rw [fin_new]
  intro a ha
  have y1 : Ext H (hupd H a (.list [.str s1, .str s2])) := .new ha
  have e1 : hupd H a (.list [.str s1, .str s2]) a = some (.list [.str s1, .str s2]) := hupd_eq ..
  generalize hupd H a (.list [.str s1, .str s2]) = H1 at y1 e1
  refine l_pure (v := .int (if b then 1 else 0)) (p1 (he H1 y1) rfl) ?_
  rw [w_nil]
  refine ⟨.val (.str (if b then s2 else s1)), ?_, ?_⟩
  · rw [p_idx]
    cases b
    · rw [show idxOp H1 (.ref a) (.int (if false then 1 else 0)) = some (.str s1) from idx_list e1 (j := 0) rfl rfl]; rfl
    · rw [show idxOp H1 (.ref a) (.int (if true then 1 else 0)) = some (.str s2) from idx_list e1 (j := 1) rfl rfl]; rfl
  rw [fin_val]; exact hQ H1 y1
theorem first_word {C : CallSem} (hC : MonoC C) {ρ : Env} {Q : V → MH → Prop} {Z : Z0} {H : MH} {ta : Addr} {es : List (Option Bool)} {e0 : Option Bool} (r1 : ρ "_law_told_here" = some (.ref ta)) (h : H ta = some (.list ((es.map wrd).map .str))) (hl : es.length ≤ 100) (h0 : (((es.map wrd).filter fun (w : Str) => !(w == "")) ++ [("" : Str)])[0]? = some (wrd e0)) (hQ : ∀ H', Ext H H' → Q (.str (wrd e0)) H') :
    wpE C (.prim .idx [.prim .add [.compIf (.var "_law_word") ["_law_word"] false .plain (.var "_law_told_here") (.prim .ne [.var "_law_word", .cst (.str "")]), .prim .list [.cst (.str "")]], .cst (.int 0)]) ρ Q Z H := by
  rw [w_prim, w_cons, w_prim, w_cons]
  refine i_compIfP hC (l := es.map wrd) (g := .str) (f := .str) (p := fun (w : Str) => !(w == "")) (sv := .ref ta) (pva r1) (src_list h) h (fun w hw => ?_) (fun w _ => pva (upd_same ..)) (by rw [List.length_map]; unfold lim; (first | lia | omega)) fun a ha => ?_
  · obtain ⟨e, _, rfl⟩ := List.mem_map.mp hw
    exact pne (pva (upd_same ..)) pc (eq_str (wrd_ok e) (wrd_ok none))
  have hfl : ((es.map wrd).filter fun (w : Str) => !(w == "")).length ≤ 100 := Nat.le_trans (List.length_filter_le ..) (by rw [List.length_map]; exact hl)
  have y1 : Ext H (hupd H a (.list (((es.map wrd).filter fun (w : Str) => !(w == "")).map .str))) := .new ha
  have e1 : hupd H a (.list (((es.map wrd).filter fun (w : Str) => !(w == "")).map .str)) a = some (.list (((es.map wrd).filter fun (w : Str) => !(w == "")).map .str)) := hupd_eq ..
  generalize hupd H a (.list (((es.map wrd).filter fun (w : Str) => !(w == "")).map .str)) = H1 at y1 e1
  generalize ((es.map wrd).filter fun (w : Str) => !(w == "")) = ws at e1 h0 hfl
  rw [w_cons, w_prim]
  refine pevs_ok _ [.str ""] _ (ps1 pc) ⟨_, by rw [p_list]; exact newL_ok (show 1 ≤ lim by decide), ?_⟩
  rw [fin_new]
  intro b hb
  rw [w_nil]
  have y2 : Ext H1 (hupd H1 b (.list [.str ""])) := .new hb
  refine ⟨_, add_lists (y2 _ _ e1) (hupd_eq ..) (by rw [List.length_append, List.length_map]; show ws.length + 1 ≤ lim; unfold lim; (first | lia | omega)), ?_⟩
  rw [fin_new]
  intro c hc
  refine l_pure pc ?_
  rw [w_nil]
  refine ⟨.val (.str (wrd e0)), ?_, ?_⟩
  · have h0' : (ws.map V.str ++ [.str ""])[0]? = some (.str (wrd e0)) := by
      have : (ws.map V.str ++ [.str ""]) = (ws ++ [("" : Str)]).map .str := by rw [List.map_append]; rfl
      rw [this, List.getElem?_map, h0]; rfl
    have hi : idxOp (hupd (hupd H1 b (.list [.str ""])) c (.list (ws.map V.str ++ [.str ""]))) (.ref c) (.int 0) = some (.str (wrd e0)) := idx_list (hupd_eq ..) (j := 0) (pyIdx_nat (j := 0) (by rw [List.length_append]; exact Nat.succ_pos _)) h0'
    rw [p_idx, hi]; rfl
  rw [fin_val]
  exact hQ _ ((y1.trans y2).trans (.new hc))
theorem wrong_spec {tab : Tab} (T : WrTab tab) {ls : Str} : ∀ (s : Say) (n : Nat), s.h ≤ n → fine s → ∀ (K : KE) (sc : Addr) (Q : V → MH → Prop) (Z : Z0) (H : MH), H sc = some (.list (K.reverse.map sv)) → (∀ p ∈ K, okS p.1) → K.length + s.h ≤ 100 → (∀ H', Ext H H' → Q (.str (wrd (bad ls K s))) H') → CallN tab (n + 2) "_law_wrong" [enc s, .str ls, .ref sc] Q Z H := by
  have plain2 : ∀ (x y : Str) (c : Bool) (s : Say) (n : Nat) (K : KE) (sc : Addr) (Q : V → MH → Prop) (Z : Z0) (H : MH), okS x → okS y → H sc = some (.list (K.reverse.map sv)) → (∀ p ∈ K, okS p.1) → K.length ≤ 100 → (∀ H', Ext H H' → Q (.str (wrd (seq2 (nmx K x true) (nmx K y c)))) H') →
      ∀ ρ : Env, ρ "_law_scope" = some (.ref sc) → (∀ H', pev H' ρ (.prim .idx [.var "_law_saying", .cst (.int 1)]) = some (.str x)) → (∀ H', pev H' ρ (.prim .idx [.var "_law_saying", .cst (.int 2)]) = some (.str y)) → (∀ w H', pev H' (upd ρ "_law_word" w) (.prim .idx [.var "_law_saying", .cst (.int 2)]) = some (.str y)) → (∀ w H', pev H' (upd ρ "_law_word" w) (.prim .eq [.prim .idx [.var "_law_saying", .cst (.int 0)], .cst (.str "letter")]) = some (.bool false)) → (∀ w H', pev H' (upd ρ "_law_word" w) (.prim .eq [.prim .idx [.var "_law_saying", .cst (.int 0)], .cst (.str "within")]) = some (.bool !c)) →
      wpSs (CallN tab (n + 1)) (b_l_wrong.drop 2) ρ (fun _ H' => Q .none H') Q Z H := by
    intro x y c s n K sc Q Z H hx hy h hok hl hQ ρ r1 i1 i2 i2' k1 k2
    show wpSs _ (_ :: _) _ _ _ _ _
    refine st_setC (vs := [.ref sc, .str x, .str (kstr true)]) (psc (pva r1) (ps2 (i1 H) (by kernel_rfl))) ?_
    refine teller_spec T.te h hok hx (by (first | lia | omega)) fun H1 x1 => ?_
    refine st_if (b := !(wrd (nmx K x true) == "")) (pne (pva (upd_same ..)) pc (eq_str (wrd_ok _) (wrd_ok none))) (fun hb => ?_) fun hb => ?_
    · refine st_back (v := .str (wrd (nmx K x true))) (pva (upd_same ..)) ?_
      cases q : nmx K x true with
      | none => rw [q] at hb; exact absurd hb (by decide +kernel)
      | some e => rw [q] at hQ; exact hQ H1 x1
    rw [s_nil]
    have q : nmx K x true = none := by
      cases q : nmx K x true with
      | none => rfl
      | some e => rw [q] at hb; cases e <;> exact absurd hb (by decide +kernel)
    rw [q] at hQ
    refine st_skip (k1 _ H1) ?_
    rw [s_cons, s_ret, w_call]
    refine l_pure (pva (by rw [upd_ne (by decide)]; exact r1)) (l_pure (i2' _ H1) ?_)
    rw [w_cons]
    refine two_pick (b := !c) (fun H2 _ => k2 _ H2) fun H2 x2 => ?_
    rw [w_nil]
    have hk : (if (!c) = true then ("set" : Str) else "place") = kstr c := by cases c <;> rfl
    rw [hk]
    exact teller_spec T.te (x2 _ _ (x1 _ _ h)) hok hy (by (first | lia | omega)) fun H3 x3 => hQ H3 ((x1.trans x2).trans x3)
  intro s
  induction s with
  | letter x c =>
    intro n hn hf K sc Q Z H h hok hl hQ
    refine call_of T.wr rfl ?_
    unfold b_l_wrong
    refine st_skip (by kernel_rfl) (st_skip (by kernel_rfl) ?_)
    refine st_setC (vs := [.ref sc, .str x, .str (kstr true)]) (by kernel_rfl) ?_
    refine teller_spec T.te h hok hf.1 (by (first | lia | omega)) fun H1 x1 => ?_
    refine st_if (b := !(wrd (nmx K x true) == "")) (pne (pva (upd_same ..)) pc (eq_str (wrd_ok _) (wrd_ok none))) (fun hb => ?_) fun hb => ?_
    · refine st_back (v := .str (wrd (nmx K x true))) (pva (upd_same ..)) ?_
      have hQ' : ∀ H', Ext H H' → Q (.str (wrd (seq2 (nmx K x true) (if hasC ls c then none else some false)))) H' := hQ
      cases q : nmx K x true with
      | none => rw [q] at hb; exact absurd hb (by decide +kernel)
      | some e => rw [q] at hQ'; exact hQ' H1 x1
    rw [s_nil]
    have q : nmx K x true = none := by
      cases q : nmx K x true with
      | none => rfl
      | some e => rw [q] at hb; cases e <;> exact absurd hb (by decide +kernel)
    have hQ' : ∀ H', Ext H H' → Q (.str (wrd (seq2 (nmx K x true) (if hasC ls c then none else some false)))) H' := hQ
    rw [q] at hQ'
    refine st_take (by kernel_rfl) ?_
    rw [s_cons, s_ret]
    refine two_pick (b := hasC ls c) (fun H2 _ => pin (a := .str c) (b := .str ls) (by kernel_rfl) (by kernel_rfl) (in_str hf.2.2)) fun H2 x2 => ?_
    have := hQ' H2 (x1.trans x2)
    cases hc : hasC ls c with
    | true => rw [hc] at this; exact this
    | false => rw [hc] at this; exact this
  | ahead x y =>
    intro n hn hf K sc Q Z H h hok hl hQ
    refine call_of T.wr rfl ?_
    show wpSs _ (_ :: _ :: _) _ _ _ _ _
    refine st_skip (by kernel_rfl) (st_skip (by kernel_rfl) ?_)
    exact plain2 x y true (.ahead x y) n K sc Q Z H hf.1 hf.2 h hok (by (first | lia | omega)) hQ _ (by kernel_rfl) (fun _ => by kernel_rfl) (fun _ => by kernel_rfl) (fun _ _ => by kernel_rfl) (fun _ _ => by kernel_rfl) (fun _ _ => by kernel_rfl)
  | same x y =>
    intro n hn hf K sc Q Z H h hok hl hQ
    refine call_of T.wr rfl ?_
    show wpSs _ (_ :: _ :: _) _ _ _ _ _
    refine st_skip (by kernel_rfl) (st_skip (by kernel_rfl) ?_)
    exact plain2 x y true (.same x y) n K sc Q Z H hf.1 hf.2 h hok (by (first | lia | omega)) hQ _ (by kernel_rfl) (fun _ => by kernel_rfl) (fun _ => by kernel_rfl) (fun _ _ => by kernel_rfl) (fun _ _ => by kernel_rfl) (fun _ _ => by kernel_rfl)
  | within x y =>
    intro n hn hf K sc Q Z H h hok hl hQ
    refine call_of T.wr rfl ?_
    show wpSs _ (_ :: _ :: _) _ _ _ _ _
    refine st_skip (by kernel_rfl) (st_skip (by kernel_rfl) ?_)
    exact plain2 x y false (.within x y) n K sc Q Z H hf.1 hf.2 h hok (by (first | lia | omega)) hQ _ (by kernel_rfl) (fun _ => by kernel_rfl) (fun _ => by kernel_rfl) (fun _ _ => by kernel_rfl) (fun _ _ => by kernel_rfl) (fun _ _ => by kernel_rfl)
  | not s ih =>
    intro n hn hf K sc Q Z H h hok hl hQ
    have hn : s.h + 1 ≤ n := hn
    have hl : K.length + (s.h + 1) ≤ 100 := hl
    obtain ⟨m, rfl⟩ : ∃ m, n = m + 1 := ⟨n - 1, by (first | lia | omega)⟩
    refine call_of T.wr rfl ?_
    have hC := CallN_mono tab (m + 1 + 1)
    unfold b_l_wrong
    refine st_skip (by kernel_rfl) (st_take (by kernel_rfl) ?_)
    rw [s_cons, s_asg]
    refine i_compE hC (l := [s]) (g := enc) (f := fun u => .str (wrd (bad ls K u))) (sv := .tup [enc s]) (w := none) (by kernel_rfl) (by kernel_rfl) (fun _ _ => trivial) (fun u hu H' e => ?_) (show 1 ≤ lim by decide) fun ta H1 x1 hta => ?_
    · rw [List.mem_singleton.mp hu]
      refine i_call (vs := [enc s, .str ls, .ref sc]) (by kernel_rfl) ?_
      exact ih m (by (first | lia | omega)) hf K sc _ _ H' (e _ _ h) hok (by (first | lia | omega)) fun H2 x2 => ⟨rfl, x2⟩
    rw [s_cons, s_ret]
    refine first_word hC (es := [bad ls K s]) (e0 := bad ls K s) (ta := ta) (by kernel_rfl) (hupd_eq ..) (Nat.le_of_ble_eq_true rfl) ?_ fun H2 x2 => hQ H2 ((x1.trans (.new hta)).trans x2)
    cases bad ls K s with
    | none => rfl
    | some e => cases e <;> rfl
  | and s u ihs ihu =>
    intro n hn hf K sc Q Z H h hok hl hQ
    have hn : max s.h u.h + 1 ≤ n := hn
    have hl : K.length + (max s.h u.h + 1) ≤ 100 := hl
    obtain ⟨m, rfl⟩ : ∃ m, n = m + 1 := ⟨n - 1, by (first | lia | omega)⟩
    refine call_of T.wr rfl ?_
    have hC := CallN_mono tab (m + 1 + 1)
    unfold b_l_wrong
    refine st_skip (by kernel_rfl) (st_take (by kernel_rfl) ?_)
    rw [s_cons, s_asg]
    refine i_compE hC (l := [s, u]) (g := enc) (f := fun u => .str (wrd (bad ls K u))) (sv := .tup [enc s, enc u]) (w := none) (by kernel_rfl) (by kernel_rfl) (fun _ _ => trivial) (fun v hv H' e => ?_) (show 2 ≤ lim by decide) fun ta H1 x1 hta => ?_
    · refine i_call (vs := [enc v, .str ls, .ref sc]) (by kernel_rfl) ?_
      rcases List.mem_cons.mp hv with rfl | hv
      · exact ihs m (by (first | lia | omega)) hf.1 K sc _ _ H' (e _ _ h) hok (by (first | lia | omega)) fun H2 x2 => ⟨rfl, x2⟩
      · rw [List.mem_singleton.mp hv]
        exact ihu m (by (first | lia | omega)) hf.2 K sc _ _ H' (e _ _ h) hok (by (first | lia | omega)) fun H2 x2 => ⟨rfl, x2⟩
    rw [s_cons, s_ret]
    refine first_word hC (es := [bad ls K s, bad ls K u]) (e0 := seq2 (bad ls K s) (bad ls K u)) (ta := ta) (by kernel_rfl) (hupd_eq ..) (Nat.le_of_ble_eq_true rfl) ?_ fun H2 x2 => hQ H2 ((x1.trans (.new hta)).trans x2)
    cases bad ls K s with
    | none =>
      cases bad ls K u with
      | none => rfl
      | some e => cases e <;> rfl
    | some e => cases e <;> rfl
  | or s u ihs ihu =>
    intro n hn hf K sc Q Z H h hok hl hQ
    have hn : max s.h u.h + 1 ≤ n := hn
    have hl : K.length + (max s.h u.h + 1) ≤ 100 := hl
    obtain ⟨m, rfl⟩ : ∃ m, n = m + 1 := ⟨n - 1, by (first | lia | omega)⟩
    refine call_of T.wr rfl ?_
    have hC := CallN_mono tab (m + 1 + 1)
    unfold b_l_wrong
    refine st_skip (by kernel_rfl) (st_take (by kernel_rfl) ?_)
    rw [s_cons, s_asg]
    refine i_compE hC (l := [s, u]) (g := enc) (f := fun u => .str (wrd (bad ls K u))) (sv := .tup [enc s, enc u]) (w := none) (by kernel_rfl) (by kernel_rfl) (fun _ _ => trivial) (fun v hv H' e => ?_) (show 2 ≤ lim by decide) fun ta H1 x1 hta => ?_
    · refine i_call (vs := [enc v, .str ls, .ref sc]) (by kernel_rfl) ?_
      rcases List.mem_cons.mp hv with rfl | hv
      · exact ihs m (by (first | lia | omega)) hf.1 K sc _ _ H' (e _ _ h) hok (by (first | lia | omega)) fun H2 x2 => ⟨rfl, x2⟩
      · rw [List.mem_singleton.mp hv]
        exact ihu m (by (first | lia | omega)) hf.2 K sc _ _ H' (e _ _ h) hok (by (first | lia | omega)) fun H2 x2 => ⟨rfl, x2⟩
    rw [s_cons, s_ret]
    refine first_word hC (es := [bad ls K s, bad ls K u]) (e0 := seq2 (bad ls K s) (bad ls K u)) (ta := ta) (by kernel_rfl) (hupd_eq ..) (Nat.le_of_ble_eq_true rfl) ?_ fun H2 x2 => hQ H2 ((x1.trans (.new hta)).trans x2)
    cases bad ls K s with
    | none =>
      cases bad ls K u with
      | none => rfl
      | some e => cases e <;> rfl
    | some e => cases e <;> rfl
  | place x s ih =>
    intro n hn hf K sc Q Z H h hok hl hQ
    have hn : s.h + 1 ≤ n := hn
    have hl : K.length + (s.h + 1) ≤ 100 := hl
    obtain ⟨m, rfl⟩ : ∃ m, n = m + 1 := ⟨n - 1, by (first | lia | omega)⟩
    refine call_of T.wr rfl ?_
    unfold b_l_wrong
    refine st_take (by kernel_rfl) ?_
    rw [s_cons, s_ret, w_call]
    refine l_pure (v := enc s) (by kernel_rfl) (l_pure (v := .str ls) (by kernel_rfl) ?_)
    rw [w_cons, w_prim]
    refine l_pure (v := .ref sc) (by kernel_rfl) ?_
    rw [w_cons, w_prim]
    refine pevs_ok _ [sv (x, true)] _ (by kernel_rfl) ⟨_, by rw [p_list]; exact newL_ok (show 1 ≤ lim by decide), ?_⟩
    rw [fin_new]
    intro a ha
    rw [w_nil]
    refine ⟨_, add_lists (new_other ha h) (hupd_eq ..) (by rw [List.length_append, List.length_map, List.length_reverse]; show K.length + 1 ≤ lim; unfold lim; (first | lia | omega)), ?_⟩
    rw [fin_new]
    intro b hb
    rw [w_nil]
    refine ih m (by (first | lia | omega)) hf.2 ((x, true) :: K) b _ _ _ (by rw [hupd_eq, List.reverse_cons, List.map_append]; rfl) (fun p hp => ?_) (by rw [List.length_cons]; (first | lia | omega)) fun H2 x2 => hQ H2 (((Ext.new ha).trans (.new hb)).trans x2)
    rcases List.mem_cons.mp hp with rfl | hp
    · exact hf.1
    · exact hok p hp
  | set x s ih =>
    intro n hn hf K sc Q Z H h hok hl hQ
    have hn : s.h + 1 ≤ n := hn
    have hl : K.length + (s.h + 1) ≤ 100 := hl
    obtain ⟨m, rfl⟩ : ∃ m, n = m + 1 := ⟨n - 1, by (first | lia | omega)⟩
    refine call_of T.wr rfl ?_
    unfold b_l_wrong
    refine st_take (by kernel_rfl) ?_
    rw [s_cons, s_ret, w_call]
    refine l_pure (v := enc s) (by kernel_rfl) (l_pure (v := .str ls) (by kernel_rfl) ?_)
    rw [w_cons, w_prim]
    refine l_pure (v := .ref sc) (by kernel_rfl) ?_
    rw [w_cons, w_prim]
    refine pevs_ok _ [sv (x, false)] _ (by kernel_rfl) ⟨_, by rw [p_list]; exact newL_ok (show 1 ≤ lim by decide), ?_⟩
    rw [fin_new]
    intro a ha
    rw [w_nil]
    refine ⟨_, add_lists (new_other ha h) (hupd_eq ..) (by rw [List.length_append, List.length_map, List.length_reverse]; show K.length + 1 ≤ lim; unfold lim; (first | lia | omega)), ?_⟩
    rw [fin_new]
    intro b hb
    rw [w_nil]
    refine ih m (by (first | lia | omega)) hf.2 ((x, false) :: K) b _ _ _ (by rw [hupd_eq, List.reverse_cons, List.map_append]; rfl) (fun p hp => ?_) (by rw [List.length_cons]; (first | lia | omega)) fun H2 x2 => hQ H2 (((Ext.new ha).trans (.new hb)).trans x2)
    rcases List.mem_cons.mp hp with rfl | hp
    · exact hf.1
    · exact hok p hp
end Mini

end
section
set_option autoImplicit false
set_option linter.unusedVariables false
set_option linter.unusedSimpArgs false
set_option maxRecDepth 100000
namespace Mini
open PySem

structure ETab (tab : Tab) : Prop where
  n : NTab tab
  mo : tab.lookup "machine_of" = some (["saying", "letters"], b_machine_of)
  fa : tab.lookup "fails" = some (["saying", "letters"], b_fails)
  ta : tab.lookup "told_apart" = some (["one", "other", "letters"], b_told_apart)
section
variable {tab : Tab} {ls : Str} {s : Say} {n : Nat} {b : Bool} {Q : V → MH → Prop} {Z : Z0} {H : MH}
theorem Ends.of (hb : bad ls [] s = some b) (hZ : ∀ H', Ext H H' → Z (clsE b) H') : Ends (bad ls [] s) Q Z H := by rw [hb]; exact hZ
theorem machine_bad (T : ETab tab) (hs : s.h ≤ n) (hf : fine s) (hl : s.h ≤ 100) (hb : bad ls [] s = some b) (hZ : ∀ H', Ext H H' → Z (clsE b) H') : CallN tab (n + 4) "machine_of" [enc s, .str ls] Q Z H := by
  refine call_of T.mo rfl ?_
  unfold b_machine_of
  rw [s_cons, s_ex]
  refine i_call (vs := [enc s, .str ls]) (by kernel_rfl) ?_
  exact need_spec8 T.n hs hf hl (.of hb hZ)
theorem fails_bad (T : ETab tab) (hs : s.h ≤ n) (hf : fine s) (hl : s.h ≤ 100) (hb : bad ls [] s = some b) (hZ : ∀ H', Ext H H' → Z (clsE b) H') : CallN tab (n + 5) "fails" [enc s, .str ls] Q Z H := by
  refine call_of T.fa rfl ?_
  unfold b_fails
  rw [s_cons, s_asg, w_call, w_cons, w_call, w_cons]
  refine i_call (vs := [enc s, .str ls]) (by kernel_rfl) ?_
  exact machine_bad T hs hf hl hb hZ
theorem apart_bad (T : ETab tab) {v : V} (hs : s.h ≤ n) (hf : fine s) (hl : s.h ≤ 100) (hb : bad ls [] s = some b) (hZ : ∀ H', Ext H H' → Z (clsE b) H') : CallN tab (n + 4) "told_apart" [enc s, v, .str ls] Q Z H := by
  refine call_of T.ta rfl ?_
  unfold b_told_apart
  rw [s_cons, s_ex]
  refine i_call (vs := [enc s, .str ls]) (by kernel_rfl) ?_
  exact need_spec8 T.n hs hf hl (.of hb hZ)
theorem apart_bad2 (T : ETab tab) {g : Say} (hg : g.h ≤ n) (hgf : fine g) (hgl : g.h ≤ 100) (hgb : bad ls [] g = none) (hs : s.h ≤ n) (hf : fine s) (hl : s.h ≤ 100) (hb : bad ls [] s = some b) (hZ : ∀ H', Ext H H' → Z (clsE b) H') : CallN tab (n + 4) "told_apart" [enc g, enc s, .str ls] Q Z H := by
  refine call_of T.ta rfl ?_
  unfold b_told_apart
  rw [s_cons, s_ex]
  refine i_call (vs := [enc g, .str ls]) (by kernel_rfl) ?_
  refine need_spec8 T.n hg hgf hgl ?_
  rw [hgb]
  intro H1 x1
  refine ⟨rfl, ?_⟩
  rw [s_cons, s_ex]
  refine i_call (vs := [enc s, .str ls]) (by kernel_rfl) ?_
  exact need_spec8 T.n hs hf hl (.of hb fun H2 x2 => hZ H2 (x1.trans x2))
end
noncomputable def goodS : Say := .place "x" (.same "x" "x")
theorem goodS_bad (ls : Str) : bad ls [] goodS = none := by kernel_rfl
theorem goodS_fine : fine goodS := by
  have : okS "x" := by decide +kernel
  exact ⟨this, this, this⟩
abbrev ToTab (tab : Tab) : Prop := tab.lookup "_law_told" = some (["_law_way", "_law_saying", "_law_letters"], b_l_told)
theorem suites {C : CallSem} {ρ : Env} {N : Env → MH → Prop} {R : V → MH → Prop} {H : MH} {b : Bool} {h1 h2 : List S} (k1 : b = true → wpSs C h1 ρ N R ZF H) (k2 : b = false → wpSs C h2 ρ N R ZF H) :
    (exSub (clsE b) "NoName" = true → wpSs C h1 (exBind none (clsE b) ρ) (fun ρ2 H2 => N (exFree none ρ2) H2) R ZF H) ∧ (exSub (clsE b) "NoName" = false → exSub (clsE b) "NoLetter" = true ∧ wpSs C h2 ρ N R ZF H) := by
  cases b
  · exact ⟨fun e => absurd e (by decide +kernel), fun _ => ⟨by decide +kernel, k2 rfl⟩⟩
  · exact ⟨fun _ => k1 rfl, fun e => absurd e (by decide +kernel)⟩
theorem told_spec {tab : Tab} (T : ETab tab) (hT : ToTab tab) {ls : Str} {s : Say} {n : Nat} {b : Bool} {w : Int} {Q : V → MH → Prop} {Z : Z0} {H : MH} (hs : s.h ≤ n) (hn : 1 ≤ n) (hf : fine s) (hl : s.h ≤ 100) (hb : bad ls [] s = some b) (hQ : ∀ H', Ext H H' → Q (.str (wrd (some b))) H') : CallN tab (n + 6) "_law_told" [.int w, enc s, .str ls] Q Z H := by
  refine call_of hT rfl ?_
  unfold b_l_told
  refine st_set (v := enc goodS) (by kernel_rfl) ?_
  rw [s_cons, s_try]
  have hZ : ∀ H', Ext H H' → (exSub (clsE b) "NoName" = true → wpSs (CallN tab (n + 5)) [.ret (.cst (.str "name"))] (exBind none (clsE b) (upd (bindE ["_law_way", "_law_saying", "_law_letters"] [.int w, enc s, .str ls]) "_law_good" (enc goodS))) (fun ρ2 H2 => wpSs (CallN tab (n + 5)) [.ret (.cst (.str ""))] (exFree none ρ2) (fun _ H' => Q .none H') Q Z H2) Q ZF H') ∧ (exSub (clsE b) "NoName" = false → exSub (clsE b) "NoLetter" = true ∧ wpSs (CallN tab (n + 5)) [.ret (.cst (.str "letter"))] (upd (bindE ["_law_way", "_law_saying", "_law_letters"] [.int w, enc s, .str ls]) "_law_good" (enc goodS)) (fun ρ2 H2 => wpSs (CallN tab (n + 5)) [.ret (.cst (.str ""))] ρ2 (fun _ H' => Q .none H') Q Z H2) Q ZF H') := fun H' x => by
    refine suites (b := b) (N := fun ρ2 H2 => wpSs (CallN tab (n + 5)) [.ret (.cst (.str ""))] ρ2 (fun _ H' => Q .none H') Q Z H2) (fun e => ?_) fun e => ?_
    · subst e; exact st_back pc (hQ H' x)
    · subst e; exact st_back pc (hQ H' x)
  have ew : ∀ (k : Int) (H' : MH), pev H' (upd (bindE ["_law_way", "_law_saying", "_law_letters"] [.int w, enc s, .str ls]) "_law_good" (enc goodS)) (.prim .eq [.var "_law_way", .cst (.int k)]) = some (.bool (w == k)) := fun k H' => peq (a := .int w) (by kernel_rfl) pc eq_int
  refine st_if (ew 0 H) (fun _ => ?_) fun _ => ?_
  · rw [s_cons, s_ex]
    exact i_call (vs := [enc s, .str ls]) (by kernel_rfl) (need_spec8 (n := n + 2) T.n (by (first | lia | omega)) hf hl (.of hb hZ))
  refine st_if (ew 1 H) (fun _ => ?_) fun _ => ?_
  · rw [s_cons, s_ex]
    exact i_call (vs := [enc s, .str ls]) (by kernel_rfl) (machine_bad (n := n + 1) T (by (first | lia | omega)) hf hl hb hZ)
  refine st_if (ew 2 H) (fun _ => ?_) fun _ => ?_
  · rw [s_cons, s_ex]
    exact i_call (vs := [enc s, .str ls]) (by kernel_rfl) (fails_bad T hs hf hl hb hZ)
  refine st_if (ew 3 H) (fun _ => ?_) fun _ => ?_
  · rw [s_cons, s_ex]
    exact i_call (vs := [enc s, enc goodS, .str ls]) (by kernel_rfl) (apart_bad (n := n + 1) T (by (first | lia | omega)) hf hl hb hZ)
  · rw [s_cons, s_ex]
    exact i_call (vs := [enc goodS, enc s, .str ls]) (by kernel_rfl) (apart_bad2 (n := n + 1) T (by show 1 ≤ n + 1; (first | lia | omega)) goodS_fine (by decide +kernel) (goodS_bad ls) (by (first | lia | omega)) hf hl hb hZ)
abbrev AnTab (tab : Tab) : Prop := tab.lookup "_law_any" = some (["_law_saying", "_law_letters"], b_l_any)
theorem any_spec8 {tab : Tab} (T : NTab tab) (hT : AnTab tab) {ls : Str} {s : Say} {n : Nat} {b : Bool} {Q : V → MH → Prop} {Z : Z0} {H : MH} (hs : s.h ≤ n) (hf : fine s) (hl : s.h ≤ 100) (hb : bad ls [] s = some b) (hQ : ∀ H', Ext H H' → Q (.bool true) H') : CallN tab (n + 4) "_law_any" [enc s, .str ls] Q Z H := by
  refine call_of hT rfl ?_
  unfold b_l_any
  rw [s_cons, s_try, s_cons, s_ex]
  refine i_call (vs := [enc s, .str ls]) (by kernel_rfl) (need_spec8 T hs hf hl (.of hb fun H1 x1 => ⟨fun _ => ?_, fun e => absurd (show exSub (clsE b) "SayError" = true by cases b <;> decide +kernel) (by rw [e]; decide)⟩))
  have hp : ∀ H', pevs H' (exBind (some "e") (clsE b) (bindE ["_law_saying", "_law_letters"] [enc s, .str ls])) [.prim (.isx "NoName") [.var "e"], .prim (.isx "NoLetter") [.var "e"], .prim (.isx "OtherMarks") [.var "e"]] = some [.bool b, .bool (!b), .bool false] := fun H' => by cases b <;> kernel_rfl
  refine st_new (hp H1) (show 3 ≤ lim by decide) fun a ha => ?_
  have e1 : hupd H1 a (.list [.bool b, .bool (!b), .bool false]) a = some (.list [.bool b, .bool (!b), .bool false]) := hupd_eq ..
  have x2 : Ext H (hupd H1 a (.list [.bool b, .bool (!b), .bool false])) := x1.trans (.new ha)
  generalize hupd H1 a (.list [.bool b, .bool (!b), .bool false]) = H2 at e1 x2
  have hc : pev H2 (upd (exBind (some "e") (clsE b) (bindE ["_law_saying", "_law_letters"] [enc s, .str ls])) "_law_sorts" (.ref a)) (.meth .count (.var "_law_sorts") [.cst (.bool true)]) = some (.int 1) := by
    rw [pev_meth (ov := .ref a) (vs := [.bool true]) (pva (by kernel_rfl)) ?_ (ps1 pc)]
    · have : primOp .count H2 [.ref a, .bool true] = some (.val (.int 1)) := by
        show (match H2 a with
          | some (.list vs) => (match toD lineD H2 (.bool true), mapO (toD lineD H2) vs with
            | some d, some ds => some (Res.val (.int (ds.countP fun y => PyData.eqv y d)))
            | _, _ => none)
          | _ => none) = _
        rw [e1]
        cases b <;> kernel_rfl
      rw [this]; rfl
    · show (match H2 a with
        | some (.list _) => some "list"
        | _ => none).isSome = true
      rw [e1]; rfl
  exact st_back (v := .bool true) (p_and (x := true) (y := true) (by cases b <;> kernel_rfl) (peq (c := true) hc pc (by kernel_rfl))) (hQ H2 x2)
end Mini

end
section
set_option autoImplicit false
set_option linter.unusedVariables false
set_option linter.unusedSimpArgs false
set_option maxRecDepth 100000
namespace Mini
open PySem

noncomputable def vz : List Str := ["V", "W", "X", "Y", "Z"]
theorem vz_ok : ∀ s ∈ vz, okS s ∧ s.length = 1 := by
  intro s hs
  unfold vz at hs
  simp only [List.mem_cons, List.not_mem_nil, or_false] at hs
  rcases hs with rfl | rfl | rfl | rfl | rfl <;> exact ⟨by decide +kernel, by decide +kernel⟩
theorem vz_free {ls : Str} (h : ls.length ≤ 4) : ∃ c ws, vz.filter (fun s => !hasC ls s) = c :: ws ∧ c ∈ vz := by
  cases q : vz.filter (fun s => !hasC ls s) with
  | cons c ws => exact ⟨c, ws, rfl, (List.mem_filter.mp (by rw [q]; exact .head _)).1⟩
  | nil =>
    have hall : ∀ s ∈ vz, s ∈ ls.cps.toList.map fun ch => (⟨#[ch]⟩ : Str) := fun s hs => by
      have : hasC ls s = true := by
        cases hc : hasC ls s with
        | true => rfl
        | false =>
          have : s ∈ vz.filter (fun s => !hasC ls s) := List.mem_filter.mpr ⟨hs, by rw [hc]; rfl⟩
          rw [q] at this; cases this
      obtain ⟨ch, h1, h2⟩ := List.any_eq_true.mp this
      exact List.mem_map.mpr ⟨ch, h1, (beq_iff_eq.mp h2).symm⟩
    have := nodup_le (l := vz) (by decide +kernel) hall
    rw [List.length_map] at this
    have h5 : vz.length = 5 := rfl
    have h4 : ls.cps.toList.length ≤ 4 := by rw [Array.length_toList]; exact h
    (first | lia | omega)
theorem other_sign {C : CallSem} (hC : MonoC C) {ρ : Env} {Q : V → MH → Prop} {Z : Z0} {H : MH} {ls : Str} {eL : X} (hl : ls.length ≤ 4) (he : ∀ v, pev H (upd ρ "_law_one" v) eL = some (.str ls)) (hQ : ∀ c H', Ext H H' → okS c → c.length = 1 → Q (.str c) H') :
    wpE C (.prim .idx [.compIf (.var "_law_one") ["_law_one"] false .plain (.cst (.str "VWXYZ")) (.prim .notin [.var "_law_one", eL]), .cst (.int 0)]) ρ Q Z H := by
  rw [w_prim, w_cons]
  refine i_compIfP hC (l := vz) (g := .str) (f := .str) (p := fun s => !hasC ls s) (sv := .str "VWXYZ") (by kernel_rfl) (w := none) (by kernel_rfl) trivial (fun s hs => pni (pva (upd_same ..)) (he _) (in_str (vz_ok s hs).2)) (fun s _ => pva (upd_same ..)) (by decide) fun a ha => ?_
  obtain ⟨c, ws, e, hc⟩ := vz_free hl
  rw [e]
  have e1 : hupd H a (.list ((c :: ws).map .str)) a = some (.list ((c :: ws).map .str)) := hupd_eq ..
  have x1 : Ext H (hupd H a (.list ((c :: ws).map .str))) := .new ha
  generalize hupd H a (.list ((c :: ws).map .str)) = H1 at e1 x1
  refine l_pure pc ?_
  rw [w_nil]
  have hi : idxOp H1 (.ref a) (.int 0) = some (.str c) := idx_list e1 (j := 0) (pyIdx_nat (j := 0) (Nat.succ_pos _)) rfl
  refine ⟨.val (.str c), by rw [p_idx, hi]; rfl, ?_⟩
  rw [fin_val]
  exact hQ c H1 x1 (vz_ok c hc).1 (vz_ok c hc).2
noncomputable def costL : Nat → Nat
  | 0 => 6
  | d + 1 => 6 + 2 * costL d
structure LoTab (tab : Tab) : Prop where
  dr : DrawTab tab
  lo : tab.lookup "_law_loose" = some (["_law_script", "_law_tape", "_law_world_here", "_law_deep"], b_l_loose)
structure LoV (ρ : Env) (ns : List Int) (t na : Addr) (ls x y : Str) (w d : Int) : Prop where
  sc : ρ "_law_script" = some (.fl (ns.map .int))
  ta : ρ "_law_tape" = some (.ref t)
  wh : ρ "_law_world_here" = some (.tup [.str ls, .ref na])
  de : ρ "_law_deep" = some (.int d)
  le : ρ "_law_letters" = some (.str ls)
  wa : ρ "_law_way" = some (.int w)
  nm : ρ "_law_name" = some (.str x)
  ot : ρ "_law_other" = some (.str y)
theorem loose_plain {tab : Tab} (T : LoTab tab) {ns : List Int} (hn : ns.length ≤ 63) {n : Nat} {t na : Addr} {ls x y : Str} {w d k : Int} {ρ : Env} {H : MH} {N : Env → MH → Prop} {Q : V → MH → Prop} {Z : Z0} {rest : List S} (V0 : LoV ρ ns t na ls x y w d) (hls : Letters ls) (hl4 : ls.length ≤ 4) (hx : okS x) (hy : okS y) (ht : H t = some (.list [.int k])) (k0 : 0 ≤ k) (k1 : k + 3 < 1000000)
    (hQ : ∀ s H', fine s → s.h = 0 → ExtT t H H' → H' t = some (.list [.int (k + 3)]) → Q (enc s) H') :
    wpSs (CallN tab (n + 1)) ([.asg "_law_sign" (.prim .idx [.var "_law_letters", .prim .mod [.call "_law_draw" [.var "_law_script", .var "_law_tape", .cst (.int 12)], .prim .len [.var "_law_letters"]]]),
     .ifs (.prim .eq [.call "_law_draw" [.var "_law_script", .var "_law_tape", .cst (.int 8)], .cst (.int 1)])
       [.asg "_law_sign" (.prim .idx [.compIf (.var "_law_one") ["_law_one"] false .plain (.cst (.str "VWXYZ")) (.prim .notin [.var "_law_one", .var "_law_letters"]), .cst (.int 0)])]
       [],
     .asg "_law_some" (.prim .list [.prim .tuple [.cst (.str "letter"), .var "_law_name", .var "_law_sign"], .prim .tuple [.cst (.str "letter"), .var "_law_name", .var "_law_sign"], .prim .tuple [.cst (.str "ahead"), .var "_law_name", .var "_law_other"], .prim .tuple [.cst (.str "same"), .var "_law_name", .var "_law_other"]]),
     .asg "_law_some" (.prim .add [.var "_law_some", .prim .list [.prim .tuple [.cst (.str "within"), .var "_law_name", .var "_law_other"]]]),
     .ret (.prim .idx [.var "_law_some", .call "_law_draw" [.var "_law_script", .var "_law_tape", .cst (.int 5)]])] ++ rest) ρ N Q Z H := by
  have hC := CallN_mono tab (n + 1)
  show wpSs _ (_ :: _ :: _ :: _ :: _ :: rest) _ _ _ _ _
  rw [s_cons, s_asg]
  refine pickS T.dr hn V0.sc V0.ta V0.le ⟨ht, k0, by (first | lia | omega)⟩ (by decide) hls.pos fun c H1 hc x1 e1 => ?_
  rw [s_cons, s_ifs, w_prim, w_cons]
  refine draw_e T.dr hn (Eq.trans (by kernel_rfl) V0.sc) (Eq.trans (by kernel_rfl) V0.ta) ⟨e1, by (first | lia | omega), by (first | lia | omega)⟩ (by decide) fun j H2 _ _ x2 e2 => ?_
  refine l_pure pc ?_
  rw [w_nil]
  refine ⟨.val (.bool (j == 1)), by rw [p_eq, eq_int]; rfl, ?_⟩
  rw [fin_val, asB_bool]
  have tail : ∀ (σ : Str) (H3 : MH), okS σ → σ.length = 1 → ExtT t H H3 → H3 t = some (.list [.int (k + 2)]) → wpSs (CallN tab (n + 1)) (([.asg "_law_some" (.prim .list [.prim .tuple [.cst (.str "letter"), .var "_law_name", .var "_law_sign"], .prim .tuple [.cst (.str "letter"), .var "_law_name", .var "_law_sign"], .prim .tuple [.cst (.str "ahead"), .var "_law_name", .var "_law_other"], .prim .tuple [.cst (.str "same"), .var "_law_name", .var "_law_other"]]),
     .asg "_law_some" (.prim .add [.var "_law_some", .prim .list [.prim .tuple [.cst (.str "within"), .var "_law_name", .var "_law_other"]]]),
     .ret (.prim .idx [.var "_law_some", .call "_law_draw" [.var "_law_script", .var "_law_tape", .cst (.int 5)]])] : List S) ++ rest) (upd ρ "_law_sign" (.str σ)) N Q Z H3 := by
    intro σ H3 hσ hσ1 x3 e3
    show wpSs _ (_ :: _ :: _ :: rest) _ _ _ _ _
    have V1 : LoV (upd ρ "_law_sign" (.str σ)) ns t na ls x y w d := ⟨Eq.trans (by kernel_rfl) V0.sc, Eq.trans (by kernel_rfl) V0.ta, Eq.trans (by kernel_rfl) V0.wh, Eq.trans (by kernel_rfl) V0.de, Eq.trans (by kernel_rfl) V0.le, Eq.trans (by kernel_rfl) V0.wa, Eq.trans (by kernel_rfl) V0.nm, Eq.trans (by kernel_rfl) V0.ot⟩
    have rs : upd ρ "_law_sign" (.str σ) "_law_sign" = some (.str σ) := upd_same ..
    generalize upd ρ "_law_sign" (.str σ) = ρ1 at V1 rs
    have t3 : ∀ {kd : Str} {e2 : X} {b : V} {H' : MH} {ρ' : Env}, ρ' "_law_name" = some (.str x) → pev H' ρ' e2 = some b → pev H' ρ' (.prim .tuple [.cst (.str kd), .var "_law_name", e2]) = some (.tup [.str kd, .str x, b]) := fun {kd e2 b H' ρ'} h1 h2 => by
      rw [pev_prim, psc pc (ps2 (pva h1) h2), Option.bind_some, p_tuple, valT_ok (vs := [.str kd, .str x, b]) (show 3 ≤ lim by decide)]; rfl
    refine st_new (vs := [enc (.letter x σ), enc (.letter x σ), enc (.ahead x y), enc (.same x y)]) (psc (t3 V1.nm (pva rs)) (psc (t3 V1.nm (pva rs)) (ps2 (t3 V1.nm (pva V1.ot)) (t3 V1.nm (pva V1.ot))))) (show 4 ≤ lim by decide) fun a ha => ?_
    have f1 : hupd H3 a (.list [enc (.letter x σ), enc (.letter x σ), enc (.ahead x y), enc (.same x y)]) a = some (.list [enc (.letter x σ), enc (.letter x σ), enc (.ahead x y), enc (.same x y)]) := hupd_eq ..
    have y1 : Ext H3 (hupd H3 a (.list [enc (.letter x σ), enc (.letter x σ), enc (.ahead x y), enc (.same x y)])) := .new ha
    generalize hupd H3 a (.list [enc (.letter x σ), enc (.letter x σ), enc (.ahead x y), enc (.same x y)]) = H4 at f1 y1
    rw [s_cons, s_asg, w_prim]
    refine l_pure (v := .ref a) (by kernel_rfl) ?_
    rw [w_cons, w_prim]
    refine pevs_ok _ [enc (.within x y)] _ (ps1 (t3 (Eq.trans (by kernel_rfl) V1.nm) (pva (Eq.trans (by kernel_rfl) V1.ot)))) ⟨_, by rw [p_list]; exact newL_ok (show 1 ≤ lim by decide), ?_⟩
    rw [fin_new]
    intro b hb
    rw [w_nil]
    have y2 : Ext H4 (hupd H4 b (.list [enc (.within x y)])) := .new hb
    refine ⟨_, add_lists (y2 _ _ f1) (hupd_eq ..) (show 5 ≤ lim by decide), ?_⟩
    rw [fin_new]
    intro cc hcc
    have f3 : hupd (hupd H4 b (.list [enc (.within x y)])) cc (.list ([enc (.letter x σ), enc (.letter x σ), enc (.ahead x y), enc (.same x y)] ++ [enc (.within x y)])) cc = some (.list [enc (.letter x σ), enc (.letter x σ), enc (.ahead x y), enc (.same x y), enc (.within x y)]) := hupd_eq ..
    have y3 : Ext H3 (hupd (hupd H4 b (.list [enc (.within x y)])) cc (.list ([enc (.letter x σ), enc (.letter x σ), enc (.ahead x y), enc (.same x y)] ++ [enc (.within x y)]))) := (y1.trans y2).trans (.new hcc)
    generalize hupd (hupd H4 b (.list [enc (.within x y)])) cc (.list ([enc (.letter x σ), enc (.letter x σ), enc (.ahead x y), enc (.same x y)] ++ [enc (.within x y)])) = H5 at f3 y3
    have ct : cc ≠ t := fun q => by
      have h5 := y3 _ _ e3
      rw [← q, f3] at h5
      injection h5 with h5
      injection h5 with h5
      injection h5 with _ h5
      cases h5
    rw [s_cons, s_ret, w_prim]
    refine l_pure (v := .ref cc) (by kernel_rfl) ?_
    rw [w_cons]
    refine draw_e T.dr hn (Eq.trans (by kernel_rfl) V1.sc) (Eq.trans (by kernel_rfl) V1.ta) ⟨y3 _ _ e3, by (first | lia | omega), by (first | lia | omega)⟩ (by decide) fun i H6 i0 i1 x6 e6 => ?_
    rw [w_nil]
    have f6 := x6 _ _ ct f3
    have e6' : H6 t = some (.list [.int (k + 3)]) := by rw [e6]; congr 4; (first | lia | omega)
    have x06 : ExtT t H H6 := (x3.trans y3.toT).trans x6
    obtain ⟨s, h1, h2, h3⟩ : ∃ s, fine s ∧ s.h = 0 ∧ idxOp H6 (.ref cc) (.int i) = some (enc s) := by
      have : i = 0 ∨ i = 1 ∨ i = 2 ∨ i = 3 ∨ i = 4 := by (first | lia | omega)
      rcases this with rfl | rfl | rfl | rfl | rfl
      · exact ⟨.letter x σ, ⟨hx, hσ, hσ1⟩, rfl, idx_list f6 (j := 0) rfl rfl⟩
      · exact ⟨.letter x σ, ⟨hx, hσ, hσ1⟩, rfl, idx_list f6 (j := 1) rfl rfl⟩
      · exact ⟨.ahead x y, ⟨hx, hy⟩, rfl, idx_list f6 (j := 2) rfl rfl⟩
      · exact ⟨.same x y, ⟨hx, hy⟩, rfl, idx_list f6 (j := 3) rfl rfl⟩
      · exact ⟨.within x y, ⟨hx, hy⟩, rfl, idx_list f6 (j := 4) rfl rfl⟩
    refine ⟨.val (enc s), by rw [p_idx, h3]; rfl, ?_⟩
    rw [fin_val]
    exact hQ s H6 h1 h2 x06 e6'
  have e2' : H2 t = some (.list [.int (k + 2)]) := by rw [e2]; congr 4; (first | lia | omega)
  have hu : ∀ (v v' : V), upd (upd ρ "_law_sign" v) "_law_sign" v' = upd ρ "_law_sign" v' := fun v v' => by
    funext z; unfold upd; split <;> rfl
  refine ⟨fun _ => ?_, fun _ => ?_⟩
  · rw [s_cons, s_asg]
    refine other_sign hC hl4 (fun v => pva (by rw [upd_ne (by decide), upd_ne (by decide)]; exact V0.le)) fun σ H3 x3 o1 o2 => ?_
    rw [s_nil, hu]
    exact tail σ H3 o1 o2 ((x1.trans x2).trans x3.toT) (x3 _ _ e2')
  · rw [s_nil]
    exact tail _ H2 (hls.ok c hc) rfl (x1.trans x2) e2'
end Mini

end
section
set_option autoImplicit false
set_option linter.unusedVariables false
set_option linter.unusedSimpArgs false
set_option maxRecDepth 100000
namespace Mini
open PySem

theorem costL_min (d : Nat) : 6 ≤ costL d := by cases d with
  | zero => exact Nat.le_refl _
  | succ d => show 6 ≤ 6 + 2 * costL d; (first | lia | omega)
theorem name_at {tab : Tab} (T : DrawTab tab) {ns : List Int} (hn : ns.length ≤ 63) {n : Nat} {t na : Addr} {ls : Str} {k : Int} {ρ : Env} {H : MH} {Q : V → MH → Prop} {Z : Z0} (r1 : ρ "_law_script" = some (.fl (ns.map .int))) (r2 : ρ "_law_tape" = some (.ref t)) (r3 : ρ "_law_names" = some (.ref na)) (tp : Tape t k H) (hw : WorldAt t ls na H)
    (hQ : ∀ x H', okS x → ExtT t H H' → H' t = some (.list [.int (k + 1)]) → Q (.str x) H') : wpE (CallN tab (n + 1)) (.prim .idx [.var "_law_names", .call "_law_draw" [.var "_law_script", .var "_law_tape", .cst (.int 3)]]) ρ Q Z H := by
  rw [w_prim]
  refine l_pure (v := .ref na) (pva r3) ?_
  rw [w_cons]
  refine draw_e T hn r1 r2 tp (by decide) fun j H2 j0 j1 x2 e2 => ?_
  rw [w_nil]
  obtain ⟨p, q, r, en, op, oq, or'⟩ := (hw.extT x2).at'
  have hj : ∃ nme, okS nme ∧ idxOp H2 (.ref na) (.int j) = some (.str nme) := by
    have : j = 0 ∨ j = 1 ∨ j = 2 := by (first | lia | omega)
    rcases this with rfl | rfl | rfl
    · exact ⟨p, op, idx_list en (j := 0) rfl rfl⟩
    · exact ⟨q, oq, idx_list en (j := 1) rfl rfl⟩
    · exact ⟨r, or', idx_list en (j := 2) rfl rfl⟩
  obtain ⟨nme, onm, hidx⟩ := hj
  refine ⟨_, by rw [p_idx, hidx]; rfl, ?_⟩
  rw [fin_val]
  exact hQ nme H2 onm x2 e2
theorem loose_main {tab : Tab} (T : LoTab tab) {ns : List Int} (hn : ns.length ≤ 63) {t na : Addr} {ls : Str} (hl4 : ls.length ≤ 4) (d n : Nat) (k : Int) (Q : V → MH → Prop) (Z : Z0) (H : MH) (ht : H t = some (.list [.int k])) (k0 : 0 ≤ k) (k1 : k + 6 < 1000000) (hw : WorldAt t ls na H)
    (hQ : ∀ s H', fine s → s.h = 0 → ExtT t H H' → H' t = some (.list [.int (k + 6)]) → Q (enc s) H')
    (hrest : ∀ (w : Int) (x y : Str) (H2 : MH) (ρ : Env), (d : Int) ≠ 0 → 2 ≤ w → w < 12 → okS x → ExtT t H H2 → H2 t = some (.list [.int (k + 3)]) → LoV ρ ns t na ls x y w d → wpSs (CallN tab (n + 1)) (b_l_loose.drop 5) ρ (fun _ H' => Q .none H') Q Z H2) :
    CallN tab (n + 2) "_law_loose" [.fl (ns.map .int), .ref t, .tup [.str ls, .ref na], .int d] Q Z H := by
  refine call_of T.lo rfl ?_
  unfold b_l_loose
  rw [s_cons, s_asgT]
  refine pev_ok _ (.tup [.str ls, .ref na]) _ (by kernel_rfl) ⟨_, rfl, ?_⟩
  rw [s_cons, s_asg]
  refine draw_e T.dr hn (by kernel_rfl) (by kernel_rfl) ⟨ht, k0, by (first | lia | omega)⟩ (by decide) fun w H1 w0 w1 x1 e1 => ?_
  rw [s_cons, s_asg]
  refine name_at T.dr hn (by kernel_rfl) (by kernel_rfl) (by kernel_rfl) ⟨e1, by (first | lia | omega), by (first | lia | omega)⟩ (hw.extT x1) fun x H2 hx x2 e2 => ?_
  rw [s_cons, s_asg]
  refine name_at T.dr hn (by kernel_rfl) (by kernel_rfl) (by kernel_rfl) ⟨e2, by (first | lia | omega), by (first | lia | omega)⟩ (hw.extT (x1.trans x2)) fun y H3 hy x3 e3 => ?_
  have x13 := (x1.trans x2).trans x3
  have e3' : H3 t = some (.list [.int (k + 3)]) := by rw [e3]; congr 4; (first | lia | omega)
  have V0 : LoV (upd (upd (upd (upd (upd (bindE ["_law_script", "_law_tape", "_law_world_here", "_law_deep"] [.fl (ns.map .int), .ref t, .tup [.str ls, .ref na], .int d]) "_law_letters" (.str ls)) "_law_names" (.ref na)) "_law_way" (.int w)) "_law_name" (.str x)) "_law_other" (.str y)) ns t na ls x y w d := ⟨by kernel_rfl, by kernel_rfl, by kernel_rfl, by kernel_rfl, by kernel_rfl, by kernel_rfl, by kernel_rfl, by kernel_rfl⟩
  refine Eq.mp (show wpSs (CallN tab (n + 1)) (b_l_loose.drop 4) (upd (upd (upd (upd (upd (bindE ["_law_script", "_law_tape", "_law_world_here", "_law_deep"] [.fl (ns.map .int), .ref t, .tup [.str ls, .ref na], .int d]) "_law_letters" (.str ls)) "_law_names" (.ref na)) "_law_way" (.int w)) "_law_name" (.str x)) "_law_other" (.str y)) (fun _ H' => Q .none H') Q Z H3 = _ from rfl) ?_
  generalize upd (upd (upd (upd (upd (bindE ["_law_script", "_law_tape", "_law_world_here", "_law_deep"] [.fl (ns.map .int), .ref t, .tup [.str ls, .ref na], .int d]) "_law_letters" (.str ls)) "_law_names" (.ref na)) "_law_way" (.int w)) "_law_name" (.str x)) "_law_other" (.str y) = ρ at V0
  show wpSs _ (_ :: b_l_loose.drop 5) _ _ _ _ _
  refine st_if (b := ((d : Int) == 0) || decide (w < 2)) ?_ (fun _ => ?_) fun hb => ?_
  · have h1 : pev H3 ρ (.prim .eq [.var "_law_deep", .cst (.int 0)]) = some (.bool ((d : Int) == 0)) := peq (pva V0.de) pc eq_int
    have h2 : pev H3 ρ (.prim .lt [.var "_law_way", .cst (.int 2)]) = some (.bool (decide (w < 2))) := by
      rw [pev_prim, ps2 (pva V0.wa) pc]; rfl
    rw [pev_or, h1]
    cases (d : Int) == 0
    · exact h2
    · rfl
  · refine loose_plain T hn (rest := []) V0 hw.ls hl4 hx hy e3' (by (first | lia | omega)) (by (first | lia | omega)) fun s H4 f1 f2 x4 e4 => hQ s H4 f1 f2 (x13.trans x4) (by rw [e4]; congr 4; (first | lia | omega))
  · rw [s_nil]
    rw [Bool.or_eq_false_iff, beq_eq_false_iff_ne, decide_eq_false_iff_not] at hb
    exact hrest w x y H3 ρ hb.1 (by (first | lia | omega)) w1 hx x13 e3' V0
theorem LoV.upd {ρ : Env} {ns : List Int} {t na : Addr} {ls x y : Str} {w d : Int} (V0 : LoV ρ ns t na ls x y w d) (v : V) : LoV (upd ρ "_law_one" v) ns t na ls x y w d := ⟨Eq.trans (by kernel_rfl) V0.sc, Eq.trans (by kernel_rfl) V0.ta, Eq.trans (by kernel_rfl) V0.wh, Eq.trans (by kernel_rfl) V0.de, Eq.trans (by kernel_rfl) V0.le, Eq.trans (by kernel_rfl) V0.wa, Eq.trans (by kernel_rfl) V0.nm, Eq.trans (by kernel_rfl) V0.ot⟩
theorem loose_spec {tab : Tab} (T : LoTab tab) {ns : List Int} (hn : ns.length ≤ 63) {t na : Addr} {ls : Str} (hl4 : ls.length ≤ 4) : ∀ (d n : Nat) (k : Int) (Q : V → MH → Prop) (Z : Z0) (H : MH), H t = some (.list [.int k]) → 0 ≤ k → k + costL d < 1000000 → WorldAt t ls na H → d ≤ n →
    (∀ s k' H', fine s → s.h ≤ d → ExtT t H H' → H' t = some (.list [.int k']) → k ≤ k' → k' ≤ k + costL d → Q (enc s) H') → CallN tab (n + 2) "_law_loose" [.fl (ns.map .int), .ref t, .tup [.str ls, .ref na], .int d] Q Z H := by
  intro d
  induction d with
  | zero =>
    intro n k Q Z H ht k0 k1 hw hnn hQ
    have h6 := costL_min 0
    exact loose_main T hn hl4 0 n k Q Z H ht k0 (by (first | lia | omega)) hw (fun s H' f1 f2 x e => hQ s _ H' f1 (by rw [f2]; exact Nat.le_refl _) x e (by (first | lia | omega)) (by (first | lia | omega))) fun w nme o H2 ρ hd => absurd rfl hd
  | succ d ih =>
    intro n k Q Z H ht k0 k1 hw hnn hQ
    have h6 := costL_min (d + 1)
    have h6' := costL_min d
    have hc : costL (d + 1) = 6 + 2 * costL d := rfl
    refine loose_main T hn hl4 (d + 1) n k Q Z H ht k0 (by (first | lia | omega)) hw (fun s H' f1 f2 x e => hQ s _ H' f1 (by rw [f2]; exact Nat.zero_le _) x e (by (first | lia | omega)) (by (first | lia | omega))) fun w x y H2 ρ _ w0 w1 hx x2 e2 V0 => ?_
    have hC := CallN_mono tab (n + 1)
    obtain ⟨m, rfl⟩ : ∃ m, n = m + 1 := ⟨n - 1, by (first | lia | omega)⟩
    have hdd : ((d + 1 : Nat) : Int) - 1 = (d : Int) := by (first | lia | omega)
    have args : ∀ (H' : MH) (ρ' : Env), LoV ρ' ns t na ls x y w ((d + 1 : Nat) : Int) → pevs H' ρ' [.var "_law_script", .var "_law_tape", .var "_law_world_here", .prim .sub [.var "_law_deep", .cst (.int 1)]] = some [.fl (ns.map .int), .ref t, .tup [.str ls, .ref na], .int d] := fun H' ρ' V => by
      simp only [pevs_cons, pevs_nil, pev_var, pev_prim, pev_cst, V.sc, V.ta, V.wh, V.de, Option.bind_some, Option.map_some, p_sub, valOf_val, hdd]
    show wpSs _ (_ :: _) _ _ _ _ _
    refine st_setC (args _ _ V0) ?_
    refine ih m (k + 3) _ _ H2 e2 (by (first | lia | omega)) (by (first | lia | omega)) (hw.extT x2) (by (first | lia | omega)) fun s k3 H3 f1 f2 x3 e3 b1 b2 => ?_
    have V1 := V0.upd (enc s)
    have r1 : Mini.upd ρ "_law_one" (enc s) "_law_one" = some (enc s) := upd_same ..
    generalize Mini.upd ρ "_law_one" (enc s) = ρ1 at V1 r1
    have x03 := x2.trans x3
    have lt : ∀ j : Int, pev H3 ρ1 (.prim .lt [.var "_law_way", .cst (.int j)]) = some (.bool (decide (w < j))) := fun j => by
      rw [pev_prim, ps2 (pva V1.wa) pc]; rfl
    refine st_if (peq (pva V1.wa) pc eq_int) (fun _ => ?_) fun hb => ?_
    · rw [s_cons, s_ret, w_prim]
      refine pevs_ok _ [.str "not", enc s] _ (ps2 pc (pva r1)) ⟨_, by rw [p_tuple]; exact valT_ok (show 2 ≤ lim by decide), ?_⟩
      rw [fin_val]
      exact hQ (.not s) k3 H3 f1 (by show s.h + 1 ≤ d + 1; (first | lia | omega)) x03 e3 (by (first | lia | omega)) (by (first | lia | omega))
    rw [s_nil]
    have hb2 : w ≠ 2 := by rw [beq_eq_false_iff_ne] at hb; exact hb
    refine st_if (lt 5) (fun h5 => ?_) fun h5 => ?_
    · have h5' : w < 5 := of_decide_eq_true h5
      rw [s_cons, s_ret, w_prim, w_cons, w_prim, w_cons, w_prim]
      refine pevs_ok _ [.str "and", .str "or"] _ (ps2 pc pc) ⟨_, by rw [p_list]; exact newL_ok (show 2 ≤ lim by decide), ?_⟩
      rw [fin_new]
      intro a ha
      refine l_pure (v := .int (w - 3)) (by rw [pev_prim, ps2 (pva V1.wa) pc]; rfl) ?_
      rw [w_nil]
      have hkd : ∃ b : Bool, idxOp (hupd H3 a (.list [.str "and", .str "or"])) (.ref a) (.int (w - 3)) = some (.str (if b then "and" else "or")) := by
        have : w = 3 ∨ w = 4 := by (first | lia | omega)
        rcases this with rfl | rfl
        · exact ⟨true, idx_list (hupd_eq ..) (j := 0) rfl rfl⟩
        · exact ⟨false, idx_list (hupd_eq ..) (j := 1) rfl rfl⟩
      obtain ⟨b, hb3⟩ := hkd
      refine ⟨_, by rw [p_idx, hb3]; rfl, ?_⟩
      rw [fin_val]
      have x4 : ExtT t H3 (hupd H3 a (.list [.str "and", .str "or"])) := .new ha
      have e4 : hupd H3 a (.list [.str "and", .str "or"]) t = some (.list [.int k3]) := new_other ha e3
      refine l_pure (v := enc s) (pva r1) (l_call (args _ _ V1) ?_)
      refine ih m k3 _ _ _ e4 (by (first | lia | omega)) (by (first | lia | omega)) (hw.extT (x03.trans x4)) (by (first | lia | omega)) fun s2 k4 H5 g1 g2 x5 e5 b3 b4 => ?_
      rw [w_nil]
      refine ⟨_, by rw [p_tuple]; exact valT_ok (show 3 ≤ lim by decide), ?_⟩
      rw [fin_val]
      have hm : max s.h s2.h + 1 ≤ d + 1 := by (first | lia | omega)
      cases b with
      | true => exact hQ (.and s s2) k4 H5 ⟨f1, g1⟩ hm ((x03.trans x4).trans x5) e5 (by (first | lia | omega)) (by (first | lia | omega))
      | false => exact hQ (.or s s2) k4 H5 ⟨f1, g1⟩ hm ((x03.trans x4).trans x5) e5 (by (first | lia | omega)) (by (first | lia | omega))
    rw [s_nil]
    have h5' : ¬ w < 5 := of_decide_eq_false h5
    rw [s_cons, s_ret, w_prim, w_cons, w_prim, w_cons, w_prim]
    refine pevs_ok _ [.str "place", .str "place", .str "place", .str "set"] _ (psc pc (psc pc (ps2 pc pc))) ⟨_, by rw [p_list]; exact newL_ok (show 4 ≤ lim by decide), ?_⟩
    rw [fin_new]
    intro a ha
    have hm4 : ∃ j : Int, pev (hupd H3 a (.list [.str "place", .str "place", .str "place", .str "set"])) ρ1 (.prim .mod [.var "_law_way", .cst (.int 4)]) = some (.int j) ∧ (j = 0 ∨ j = 1 ∨ j = 2 ∨ j = 3) := by
      have : w = 5 ∨ w = 6 ∨ w = 7 ∨ w = 8 ∨ w = 9 ∨ w = 10 ∨ w = 11 := by (first | lia | omega)
      rcases this with rfl | rfl | rfl | rfl | rfl | rfl | rfl
      · exact ⟨1, by rw [pev_prim, ps2 (pva V1.wa) pc]; rfl, by decide⟩
      · exact ⟨2, by rw [pev_prim, ps2 (pva V1.wa) pc]; rfl, by decide⟩
      · exact ⟨3, by rw [pev_prim, ps2 (pva V1.wa) pc]; rfl, by decide⟩
      · exact ⟨0, by rw [pev_prim, ps2 (pva V1.wa) pc]; rfl, by decide⟩
      · exact ⟨1, by rw [pev_prim, ps2 (pva V1.wa) pc]; rfl, by decide⟩
      · exact ⟨2, by rw [pev_prim, ps2 (pva V1.wa) pc]; rfl, by decide⟩
      · exact ⟨3, by rw [pev_prim, ps2 (pva V1.wa) pc]; rfl, by decide⟩
    obtain ⟨j, hj, hj4⟩ := hm4
    refine l_pure hj ?_
    rw [w_nil]
    have hkd : ∃ b : Bool, idxOp (hupd H3 a (.list [.str "place", .str "place", .str "place", .str "set"])) (.ref a) (.int j) = some (.str (kstr b)) := by
      rcases hj4 with rfl | rfl | rfl | rfl
      · exact ⟨true, idx_list (hupd_eq ..) (j := 0) rfl rfl⟩
      · exact ⟨true, idx_list (hupd_eq ..) (j := 1) rfl rfl⟩
      · exact ⟨true, idx_list (hupd_eq ..) (j := 2) rfl rfl⟩
      · exact ⟨false, idx_list (hupd_eq ..) (j := 3) rfl rfl⟩
    obtain ⟨b, hb3⟩ := hkd
    refine ⟨_, by rw [p_idx, hb3]; rfl, ?_⟩
    rw [fin_val]
    refine l_pure (v := .str x) (pva V1.nm) (l_pure (v := enc s) (pva r1) ?_)
    rw [w_nil]
    refine ⟨_, by rw [p_tuple]; exact valT_ok (show 3 ≤ lim by decide), ?_⟩
    rw [fin_val]
    have x4 : ExtT t H3 (hupd H3 a (.list [.str "place", .str "place", .str "place", .str "set"])) := .new ha
    have e4 : hupd H3 a (.list [.str "place", .str "place", .str "place", .str "set"]) t = some (.list [.int k3]) := new_other ha e3
    have hm : s.h + 1 ≤ d + 1 := by (first | lia | omega)
    cases b with
    | true => exact hQ (.place x s) k3 _ ⟨hx, f1⟩ hm (x03.trans x4) e4 (by (first | lia | omega)) (by (first | lia | omega))
    | false => exact hQ (.set x s) k3 _ ⟨hx, f1⟩ hm (x03.trans x4) e4 (by (first | lia | omega)) (by (first | lia | omega))
end Mini

end
section
set_option autoImplicit false
set_option linter.unusedVariables false
set_option linter.unusedSimpArgs false
set_option maxRecDepth 100000
namespace Mini
open PySem

theorem both_spec {tab : Tab} (T : LoTab tab) (E : ETab tab) (hB : tab.lookup "_law_both" = some (["_law_script", "_law_tape", "_law_world_here", "_law_saying", "_law_word"], b_l_both)) {ns : List Int} (hn : ns.length ≤ 63) {t na : Addr} {ls : Str} (hl4 : ls.length ≤ 4) {s : Say} {n : Nat} {b : Bool} {k : Int} {Q : V → MH → Prop} {Z : Z0} {H : MH} (ht : H t = some (.list [.int k])) (k0 : 0 ≤ k) (k1 : k + costL 2 < 1000000) (hw : WorldAt t ls na H) (hs : s.h ≤ n) (hf : fine s) (hl : s.h ≤ 100) (hb : bad ls [] s = some b) (hQ : ∀ H', Q (.bool true) H') :
    CallN tab (n + 5) "_law_both" [.fl (ns.map .int), .ref t, .tup [.str ls, .ref na], enc s, .str (wrd (some b))] Q Z H := by
  refine call_of hB rfl ?_
  have hC := CallN_mono tab (n + 4)
  unfold b_l_both
  refine st_setC (vs := [.fl (ns.map .int), .ref t, .tup [.str ls, .ref na], .int 2]) (by kernel_rfl) ?_
  refine loose_spec T hn hl4 2 (n + 2) k _ _ H ht k0 k1 hw (by (first | lia | omega)) fun o k' H1 _ _ x1 e1 _ _ => ?_
  rw [s_cons, s_asg]
  refine other_sign hC hl4 (fun v => by kernel_rfl) fun c H2 x2 c1 c2 => ?_
  have tail : ∀ (ρ : Env) (v : V), ρ "_law_saying" = some (enc s) → ρ "_law_other" = some v → ρ "_law_world_here" = some (.tup [.str ls, .ref na]) → ρ "_law_word" = some (.str (wrd (some b))) → wpSs (CallN tab (n + 4)) (b_l_both.drop 3) ρ (fun _ H' => Q .none H') Q Z H2 := by
    intro ρ v r1 r2 r3 r4
    show wpSs _ (_ :: _ :: []) _ _ _ _ _
    rw [s_cons, s_try, s_cons, s_ex]
    have hi : pev H2 ρ (.prim .idx [.var "_law_world_here", .cst (.int 0)]) = some (.str ls) := by
      rw [pev_prim, ps2 (pva r3) pc]; rfl
    refine i_call (vs := [enc s, v, .str ls]) (psc (pva r1) (ps2 (pva r2) hi)) ?_
    refine apart_bad E hs hf hl hb fun H3 x3 => ?_
    refine suites (b := b) (N := fun ρ2 H2 => wpSs (CallN tab (n + 4)) [.ret (.cst (.bool false))] ρ2 (fun _ H' => Q .none H') Q Z H2) (fun e => ?_) fun e => ?_
    · subst e; exact st_back (v := .bool true) (peq (c := true) (pva r4) pc (by kernel_rfl)) (hQ H3)
    · subst e; exact st_back (v := .bool true) (peq (c := true) (pva r4) pc (by kernel_rfl)) (hQ H3)
  refine st_if (b := b) (peq (a := .str (wrd (some b))) (by kernel_rfl) pc (by cases b <;> kernel_rfl)) (fun _ => ?_) fun _ => ?_
  · refine st_set (v := .tup [.str "place", .str "x", .tup [.str "letter", .str "x", .str c]]) (by kernel_rfl) ?_
    rw [s_nil]
    exact tail _ _ (by kernel_rfl) (upd_same ..) (by kernel_rfl) (by kernel_rfl)
  · rw [s_nil]
    exact tail _ (enc o) (by kernel_rfl) (by kernel_rfl) (by kernel_rfl) (by kernel_rfl)
theorem worldTab_08 : WorldTab tab_08 := ⟨rfl, rfl, rfl⟩
theorem loTab_08 : LoTab tab_08 := ⟨worldTab_08.dr, rfl⟩
theorem nTab_08 : NTab tab_08 := ⟨rfl, rfl, rfl, rfl⟩
theorem eTab_08 : ETab tab_08 := ⟨nTab_08, rfl, rfl, rfl⟩
theorem wrTab_08 : WrTab tab_08 := ⟨rfl, rfl⟩
theorem eq_wrd (H : MH) (e : Option Bool) : eqOp H (.str (wrd e)) (.str (wrd e)) = some true := (eq_str (wrd_ok e) (wrd_ok e)).trans (by rw [beq_self_eq_true])
theorem law_08 {ns : List Int} (hn : ns.length ≤ 63) : CallN tab_08 40 "law" [.fl (ns.map .int)] (fun v _ => v = .bool true) ZF (fun _ => none) := by
  refine call_of rfl rfl ?_
  have hC := CallN_mono tab_08 39
  show wpSs _ (_ :: _) _ _ _ _ _
  rw [s_cons, s_asg, w_prim, w_cons, w_cst, w_nil]
  refine ⟨_, by rw [p_list]; exact newL_ok (show 1 ≤ lim by decide), ?_⟩
  rw [fin_new]
  intro t _
  have e0 : hupd (fun _ => none) t (.list [.int 0]) t = some (.list [.int 0]) := hupd_eq ..
  generalize hupd (fun _ => none) t (.list [.int 0]) = H0 at e0
  rw [s_cons, s_asg]
  refine draw_e worldTab_08.dr hn (by kernel_rfl) (by kernel_rfl) ⟨e0, by decide, by decide⟩ (by decide) fun w H1 w0 w1 x1 e1 => ?_
  refine st_setC (vs := [.fl (ns.map .int), .ref t]) (by kernel_rfl) ?_
  refine world_spec (n := 36) worldTab_08 hn e1 (by decide) (by decide) fun ls na k2 H2 x2 e2 kl ku hw hl4 okl => ?_
  have c3 : costL 3 = 90 := rfl
  have c2 : costL 2 = 42 := rfl
  refine st_setC (vs := [.fl (ns.map .int), .ref t, .tup [.str ls, .ref na], .int 3]) (by kernel_rfl) ?_
  refine loose_spec loTab_08 hn hl4 3 37 k2 _ _ H2 e2 (by (first | lia | omega)) (by rw [c3]; (first | lia | omega)) hw (by decide) fun s k3 H3 fs hs x3 e3 k3l k3u => ?_
  rw [c3] at k3u
  rw [s_cons, s_asg, w_call]
  refine l_pure (v := enc s) (by kernel_rfl) (l_pure (v := .str ls) (by kernel_rfl) ?_)
  rw [w_cons, w_prim, w_nil]
  refine ⟨_, by rw [p_list]; exact newL_ok (Nat.zero_le _), ?_⟩
  rw [fin_new]
  intro sc hsc
  rw [w_nil]
  have x4 : ExtT t H3 (hupd H3 sc (.list [])) := .new hsc
  have e4 : hupd H3 sc (.list []) t = some (.list [.int k3]) := new_other hsc e3
  have f4 : hupd H3 sc (.list []) sc = some (.list []) := hupd_eq ..
  generalize hupd H3 sc (.list []) = H4 at x4 e4 f4
  have hw4 := (hw.extT x3).extT x4
  refine wrong_spec wrTab_08 s 37 (by (first | lia | omega)) fs [] sc _ _ H4 f4 (fun p hp => by cases hp) (by rw [List.length_nil]; (first | lia | omega)) fun H5 x5 => ?_
  have e5 := x5 _ _ e4
  have hw5 := hw4.extT x5.toT
  cases hb : bad ls [] s with
  | none =>
    refine st_if (b := true) (peq (a := .str "") (by kernel_rfl) pc (by kernel_rfl)) (fun _ => ?_) fun e => by cases e
    rw [s_cons, s_ret, w_prim, w_cons]
    refine i_call (vs := [enc s, .str ls]) (by kernel_rfl) ?_
    refine need_spec8 (n := 36) nTab_08 (by (first | lia | omega)) fs (by (first | lia | omega)) ?_
    rw [hb]
    intro H6 x6
    rw [w_nil]
    exact ⟨_, rfl, rfl⟩
  | some b =>
    refine st_if (b := false) (peq (a := .str (wrd (some b))) (by kernel_rfl) pc (by cases b <;> kernel_rfl)) (fun e => by cases e) fun _ => ?_
    rw [s_nil, s_cons, s_ifs, w_or, w_prim, w_cons]
    refine i_call (vs := [.int 0, enc s, .str ls]) (by kernel_rfl) ?_
    refine told_spec (n := 33) eTab_08 rfl (by (first | lia | omega)) (by decide) fs (by (first | lia | omega)) hb fun H6 x6 => ?_
    refine l_pure (v := .str (wrd (some b))) (by kernel_rfl) ?_
    rw [w_nil]
    refine ⟨.val (.bool false), by rw [p_ne, eq_wrd]; rfl, ?_⟩
    rw [fin_val, asB_bool]
    refine ⟨fun _ => ?_, fun e => (by cases e)⟩
    rw [w_prim, w_cons]
    refine i_call (vs := [enc s, .str ls]) (by kernel_rfl) ?_
    refine any_spec8 (n := 35) nTab_08 rfl (by (first | lia | omega)) fs (by (first | lia | omega)) hb fun H7 x7 => ?_
    rw [w_nil]
    refine ⟨.val (.bool false), rfl, ?_⟩
    rw [fin_val, asB_bool]
    refine ⟨fun e => (by cases e), fun _ => ?_⟩
    rw [s_nil, s_cons, s_ret, w_and, w_prim, w_cons]
    refine i_call (vs := [.int w, enc s, .str ls]) (by kernel_rfl) ?_
    refine told_spec (n := 33) eTab_08 rfl (by (first | lia | omega)) (by decide) fs (by (first | lia | omega)) hb fun H8 x8 => ?_
    refine l_pure (v := .str (wrd (some b))) (by kernel_rfl) ?_
    rw [w_nil]
    refine ⟨.val (.bool true), by rw [p_eq, eq_wrd]; rfl, ?_⟩
    rw [fin_val, asB_bool]
    refine ⟨fun _ => ?_, fun e => (by cases e)⟩
    refine i_call (vs := [.fl (ns.map .int), .ref t, .tup [.str ls, .ref na], enc s, .str (wrd (some b))]) (by kernel_rfl) ?_
    have x58 := (x6.trans x7).trans x8
    exact both_spec (n := 34) loTab_08 eTab_08 rfl hn hl4 (x58 _ _ e5) (by (first | lia | omega)) (by rw [c2]; (first | lia | omega)) (hw5.extT x58.toT) (by (first | lia | omega)) fs (by (first | lia | omega)) hb fun _ => rfl
end Mini

end
open PySem PySem.W PyProof.Rows
set_option Elab.async false
set_option maxRecDepth 100000
set_option maxHeartbeats 8000000
namespace Mini
def isDef : Stmt → Bool
  | .FunctionDef .. => true
  | .ClassDef .. => true
  | _ => false
noncomputable def view : Program := { PySem.Challenge.pw_uf020032_08 with main := { PySem.Challenge.pw_uf020032_08.main with body := PySem.Challenge.pw_uf020032_08.main.body.filter isDef } }
theorem fns_law : ∀ e ∈ tab_08, fnChk view (tab_08.map (·.1) ++ ["turned", "sought", "apart", "built"]) e = true := by
  intro e he
  simp only [tab_08, List.mem_cons, List.not_mem_nil, or_false] at he
  rcases he with rfl | rfl | rfl | rfl | rfl | rfl | rfl | rfl | rfl | rfl | rfl | rfl | rfl | rfl | rfl | rfl | rfl <;> decide +kernel
theorem free_law : bNames.all (freeChk view (looseW view [])) = true := by decide +kernel
theorem left_law : LeftO (OpenLaw.row PySem.Challenge.rw_uf020032_08).prog view [] (fun s => (xlAt view [] s && recOk (RowW.records (OpenRow.toRowW (OpenLaw.row PySem.Challenge.rw_uf020032_08))) s) && Mini.exChk s.heap) (Hook.obs Hook.none) (Hook.val Hook.none) 4160 := by
  intro w; kernel_rfl
theorem holds_of (hp : ∀ ns : List Int, ns.length ≤ 63 → Mini.CallN Mini.tab_08 40 "law" [.fl (ns.map .int)] (fun v _ => v = .bool true) Mini.ZF (fun _ => none)) : PySem.Challenge.rw_uf020032_08.Holds := by
  w_on
  refine holds_law (by kernel_rfl) fun said => ?_
  refine holds_open (q := view) (loose := []) (Xt := fun s => (xlAt view [] s && recOk (RowW.records (OpenRow.toRowW (OpenLaw.row PySem.Challenge.rw_uf020032_08))) s) && Mini.exChk s.heap) (XP := fun mg h => XL view [] mg h ∧ Mini.ClsAll h mg) (Yf := Hook.obs Hook.none) (Ya := Hook.val Hook.none) (YP := Hook.says Hook.none) (N := 4160) ?hl (Hook.of Hook.none) (Hook.keeps Hook.none) (fun s e => ⟨xl_of s (Bool.and_eq_true_iff.mp (Bool.and_eq_true_iff.mp e).1).1, Mini.cls_of (Bool.and_eq_true_iff.mp e).2⟩) (fun mg h h' x k => ⟨XL.keeps mg h h' x.1 k, x.2.keeps k⟩) (by rfl) (by rfl) (by rfl) (fun s e => recFacts_of (Bool.and_eq_true_iff.mp (Bool.and_eq_true_iff.mp e).1).2) (by kernel_rfl) (by first | assumption | decide +kernel) (by decide +kernel) ⟨rfl, rfl, rfl, rfl, rfl, by decide +kernel⟩ ?hw ?hc
  case hl => exact left_law
  case hw => w_witness2
  intro w s₀ s₁ mg mb G Y fa o pm cd doc dV kV ho hd hcd hD hmg hg args vals as hpre hlay hrd hwl hlo
  have hXc := G.X.2
  refine Ground.open G ?_
  intro T B D TE TW
  try (refine guard_noD D (by decide +kernel) ?_; clear D)
  wrow_args hpre hlay hrd hwl hlo
  first | refine callC_kw (enter_call ?_) | refine enter_call ?_ | refine callC_kw (enter_callW ?_) | refine enter_callW ?_ | w_how
  w_top on
  try refine codeAny_mono ?_ (fun _ _ g => GoodW.toG g)
  have hW := ‹Well _ _ (Value.ref _) _›
  have hLs := ‹Heap.IsList _ _ _›
  have hIs := ‹IntsAre _ _›
  refine Mini.law_top (n := 39) (X := ["turned", "sought", "apart", "built"]) T Mini.free_law (by decide +kernel) Mini.fns_law hmg hW hLs hIs ?_ (by decide) hXc hg ?_ ?_ (hp _ ?_)
  · omega
  · first | with_unfolding_all rfl | kernel_rfl | (show (WShape.has _ _ _ && _) = true; simp [WShape.has, OpenLaw.row, Wide.holds])
  · intro k; rfl
  · omega
end Mini

theorem PySem.Challenge.cw_uf020032_08_holds : PySem.Challenge.rw_uf020032_08.Holds :=
  Mini.holds_of fun ns hn => Mini.law_08 hn
