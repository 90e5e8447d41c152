import PyProof.Rows.All
import PyProof.P3Statements
import Wide.All
import OpenK.AllK
import Wide.FinOn
import KE.KDictOf
import KE.KDictSum
import KE.KRevIter
import PyProof.SetKind
import PyProof.Rows.SetFrom
import PySem.Challenge.RW_uf020032_03
set_option Elab.async false
set_option genSizeOf false
set_option linter.unusedVariables false
set_option linter.unusedSimpArgs false
set_option linter.unusedSectionVars false
section
set_option autoImplicit false
namespace Mini
open PySem

inductive V where
  | none
  | bool (b : Bool)
  | int (i : Int)
  | str (s : Str)
  | tup (vs : List V)
  | fl (vs : List V)
  | ref (a : Addr)
  | exc (c : String)

inductive Ob where
  | list (vs : List V)
  | dict (kvs : List (V × V))

abbrev MH := Addr → Option Ob
abbrev Env := String → Option V

noncomputable def upd (ρ : Env) (x : String) (v : V) : Env := fun y => if y = x then some v else ρ y
noncomputable def hupd (H : MH) (a : Addr) (o : Ob) : MH := fun b => if b = a then some o else H b

noncomputable instance : DecidableEq V := fun a b => Classical.propDecidable (a = b)

inductive Ty where
  | int | bool | list | tuple | str
  deriving DecidableEq
noncomputable def Ty.name : Ty → String
  | .int => "int"
  | .bool => "bool"
  | .list => "list"
  | .tuple => "tuple"
  | .str => "str"
inductive Prim where
  | add | sub | mul | mod | fdiv | neg | not
  | eq | ne | lt | le | gt | ge | isin | notin | isNone | isNotNone
  | idx | sliceTo | sliceFrom
  | tuple | list | dict0 | dict1
  | len | toInt | isi (t : Ty) | isx (cls : String) | tupleOf | listOf | listRange | listRev | sorted | sortedSet
  | min2 | max2 | minL | maxL | any | all | dictOf
  | append | index | join | get | setdefault | count
inductive Res where
  | val (v : V)
  | new (o : Ob)
  | upd (a : Addr) (o : Ob) (v : V)

noncomputable def fin (Q : V → MH → Prop) (H : MH) : Res → Prop
  | .val v => Q v H
  | .new o => ∀ a, H a = none → Q (.ref a) (hupd H a o)
  | .upd a o v => Q v (hupd H a o)

inductive SK where
  | plain | range | reversed
inductive X where
  | cst (c : V)
  | var (x : String)
  | prim (p : Prim) (args : List X)
  | and (l r : X)
  | or (l r : X)
  | call (f : String) (args : List X)
  | meth (p : Prim) (o : X) (args : List X)
  | comp (elt : X) (tgt : List String) (isT : Bool) (sk : SK) (src : X)
  | compIf (elt : X) (tgt : List String) (isT : Bool) (sk : SK) (src : X) (cond : X)

inductive S where
  | asg (x : String) (e : X)
  | asgT (xs : List String) (e : X)
  | asgI (o i e : X)
  | ex (e : X)
  | ifs (c : X) (t e : List S)
  | for (tgt : List String) (isT : Bool) (sk : SK) (src : X) (body : List S)
  | whl (c : X) (body : List S)
  | ret (e : X)
  | pass
  | raise (cls : String)
  | tryS (body : List S) (cls1 : String) (as1 : Option String) (h1 : List S) (cls2 : String) (h2 : List S)

noncomputable def lim : Nat := 1048576

noncomputable def mapO {α β : Type} (f : α → Option β) : List α → Option (List β)
  | [] => some []
  | a :: r => match f a, mapO f r with
    | some b, some t => some (b :: t)
    | _, _ => none

noncomputable def toD : Nat → MH → V → Option PyData
  | _, _, .none => some .none
  | _, _, .bool b => some (.bool b)
  | _, _, .int i => some (.int i)
  | _, _, .str s => if PyData.strOk s then some (.str s) else Option.none
  | 0, _, _ => Option.none
  | k + 1, H, .tup vs => (mapO (toD k H) vs).map .tuple
  | k + 1, H, .fl vs => (mapO (toD k H) vs).map .list
  | k + 1, H, .ref a => match H a with
    | some (.list vs) => (mapO (toD k H) vs).map .list
    | _ => Option.none
  | _, _, .exc _ => Option.none

noncomputable def lineD : Nat := 40

noncomputable def intsAll (vs : List V) : Bool := vs.all fun | .int _ => true | _ => false
noncomputable def kk : V → Nat
  | .int _ => 0
  | .tup vs => if intsAll vs then 2 else 3
  | _ => 3
noncomputable def dOK (kvs : List (V × V)) (k : V) : Bool := decide (kk k < 3) && kvs.all fun p => kk p.1 == kk k

noncomputable def dfind (kvs : List (V × V)) (k : V) : Option V := (kvs.find? fun p => p.1 == k).map (·.2)
noncomputable def dput : List (V × V) → V → V → List (V × V)
  | [], k, v => [(k, v)]
  | (k', v') :: r, k, v => if k' = k then (k', v) :: r else (k', v') :: dput r k v

noncomputable def chars (s : Str) : List V := s.cps.toList.map fun c => .str ⟨#[c]⟩
noncomputable def items (H : MH) : V → Option (List V)
  | .tup vs => some vs
  | .fl vs => some vs
  | .ref a => match H a with
    | some (.list vs) => some vs
    | _ => Option.none
  | _ => Option.none
noncomputable def pyIdx (n : Nat) (i : Int) : Option Nat := if 0 ≤ i then (if i < n then some i.toNat else none) else if -(n : Int) ≤ i then some (n + i).toNat else none
noncomputable def cutTo (n : Nat) (hi : Int) : Nat := if 0 ≤ hi then hi.toNat else (n + hi).toNat

noncomputable def ints? : List V → Option (List Int) := mapO fun | .int i => some i | _ => none
noncomputable def bools? : List V → Option (List Bool) := mapO fun | .bool b => some b | _ => none
noncomputable def strs? : List V → Option (List Str) := mapO fun | .str s => some s | _ => none

noncomputable def isiOf (H : MH) (t : Ty) : V → Option Bool
  | .none => some false
  | .bool _ => some (t == .int || t == .bool)
  | .int _ => some (t == .int)
  | .str _ => some (t == .str)
  | .tup _ => some (t == .tuple)
  | .fl _ => some (t == .list)
  | .ref a => match H a with
    | some (.list _) => some (t == .list)
    | _ => Option.none
  | .exc _ => Option.none

noncomputable def small (i : Int) : Bool := decide (i.natAbs < 1000000000000000000)

noncomputable def insI (x : Int) : List Int → List Int
  | [] => [x]
  | y :: r => if x ≤ y then x :: y :: r else y :: insI x r
noncomputable def sortI : List Int → List Int
  | [] => []
  | x :: r => insI x (sortI r)
noncomputable def dedupI : List Int → List Int
  | [] => []
  | x :: r => if x ∈ r then dedupI r else x :: dedupI r

noncomputable def newL (vs : List V) : Option Res := if vs.length ≤ lim then some (.new (.list vs)) else none
noncomputable def valT (vs : List V) : Option Res := if vs.length ≤ lim then some (.val (.tup vs)) else none
noncomputable def valS (s : Str) : Option Res := if s.length ≤ lim then some (.val (.str s)) else none

noncomputable def addOp (H : MH) : V → V → Option Res
  | .int a, .int b => some (.val (.int (a + b)))
  | .str a, .str b => valS (a ++ b)
  | .ref a, .ref b => match H a, H b with
    | some (.list x), some (.list y) => newL (x ++ y)
    | _, _ => none
  | _, _ => none

noncomputable def repS (s : Str) : Nat → Str
  | 0 => Str.empty
  | n + 1 => s ++ repS s n

noncomputable def mulOp (H : MH) : V → V → Option Res
  | .int a, .int b => if small a && small b then some (.val (.int (a * b))) else none
  | .str a, .int n => if small n && decide (n.toNat * a.length ≤ lim) then some (.val (.str (repS a n.toNat))) else none
  | _, _ => none

noncomputable def idxOp (H : MH) (o i : V) : Option V := match o, i with
  | .ref a, i => (match H a, i with
    | some (.list vs), .int k => (pyIdx vs.length k).bind (vs[·]?)
    | some (.dict kvs), k => if dOK kvs k then dfind kvs k else none
    | _, _ => none)
  | .tup vs, .int k => (pyIdx vs.length k).bind (vs[·]?)
  | .fl vs, .int k => (pyIdx vs.length k).bind (vs[·]?)
  | .str s, .int k => (pyIdx s.length k).bind fun j => s.cps[j]?.map fun c => .str ⟨#[c]⟩
  | _, _ => none

noncomputable def sliceToOp (H : MH) : V → V → Option Res
  | .fl vs, .int k => newL (vs.take (cutTo vs.length k))
  | .ref a, .int k => match H a with
    | some (.list vs) => newL (vs.take (cutTo vs.length k))
    | _ => none
  | _, _ => none

noncomputable def sliceFromOp (H : MH) : V → V → Option Res
  | .ref a, .int k => match H a with
    | some (.list vs) => if 0 ≤ k then newL (vs.drop k.toNat) else none
    | _ => none
  | _, _ => none

noncomputable def eqOp (H : MH) (a b : V) : Option Bool := match toD lineD H a, toD lineD H b with
  | some x, some y => some (PyData.eqv x y)
  | _, _ => none

noncomputable def inOp (H : MH) (x c : V) : Option Bool := match c with
  | .ref a => (match H a with
    | some (.list vs) => (match toD lineD H x, mapO (toD lineD H) vs with
      | some d, some ds => some (ds.any fun y => PyData.eqv y d)
      | _, _ => none)
    | some (.dict kvs) => if dOK kvs x then some (dfind kvs x).isSome else none
    | _ => none)
  | _ => none

noncomputable def indexOp (H : MH) (c x : V) : Option V := match items H c with
  | some vs => (match toD lineD H x, mapO (toD lineD H) vs with
    | some d, some ds => (ds.findIdx? fun y => PyData.eqv y d).map fun j => .int j
    | _, _ => none)
  | none => none

noncomputable def exSub (c cls : String) : Bool := cls == c || (cls == "SayError" && (c == "NoName" || c == "NoLetter" || c == "OtherMarks")) || cls == "ValueError"
noncomputable def isN : V → Bool
  | .none => true
  | _ => false
noncomputable def rb (b : Option Bool) : Option Res := b.map fun b => .val (.bool b)

noncomputable def primOp : Prim → MH → List V → Option Res
  | .add, H, [a, b] => addOp H a b
  | .sub, _, [.int a, .int b] => some (.val (.int (a - b)))
  | .mul, H, [a, b] => mulOp H a b
  | .mod, _, [.int a, .int b] => if 0 < b then some (.val (.int (a % b))) else none
  | .fdiv, _, [.int a, .int b] => if 0 < b && small b then some (.val (.int (a / b))) else none
  | .neg, _, [.int a] => some (.val (.int (-a)))
  | .not, _, [.bool b] => some (.val (.bool (!b)))
  | .eq, H, [a, b] => rb (eqOp H a b)
  | .ne, H, [a, b] => rb ((eqOp H a b).map (!·))
  | .lt, _, [.int a, .int b] => rb (some (decide (a < b)))
  | .le, _, [.int a, .int b] => rb (some (decide (a ≤ b)))
  | .gt, _, [.int a, .int b] => rb (some (decide (b < a)))
  | .ge, _, [.int a, .int b] => rb (some (decide (b ≤ a)))
  | .isin, H, [a, b] => rb (inOp H a b)
  | .notin, H, [a, b] => rb ((inOp H a b).map (!·))
  | .isNone, _, [a] => rb (some (isN a))
  | .isNotNone, _, [a] => rb (some (!isN a))
  | .idx, H, [o, i] => (idxOp H o i).map .val
  | .sliceTo, H, [o, i] => sliceToOp H o i
  | .sliceFrom, H, [o, i] => sliceFromOp H o i
  | .tuple, _, vs => valT vs
  | .list, _, vs => newL vs
  | .dict0, _, [] => some (.new (.dict []))
  | .dict1, _, [k, v] => if kk k < 3 then some (.new (.dict [(k, v)])) else none
  | .len, H, [a] => (match a with
    | .str s => some (.val (.int s.length))
    | .ref r => (match H r with
      | some (.list vs) => some (.val (.int vs.length))
      | some (.dict kvs) => some (.val (.int kvs.length))
      | none => none)
    | .tup vs => some (.val (.int vs.length))
    | .fl vs => some (.val (.int vs.length))
    | _ => none)
  | .isi t, H, [a] => rb (isiOf H t a)
  | .isx cls, _, [.exc c] => rb (some (exSub c cls))
  | .tupleOf, H, [a] => (match a with
    | .str s => valT (chars s)
    | a => (items H a).bind valT)
  | .listOf, H, [a] => (match a with
    | .str s => newL (chars s)
    | a => (items H a).bind newL)
  | .sortedSet, H, [.ref a] => (match H a with
    | some (.list vs) => (ints? vs).bind fun is => if decide (vs.length ≤ 64) && is.all (fun i => decide (0 ≤ i) && decide (i < 16)) then newL ((sortI (dedupI is)).map .int) else none
    | _ => none)
  | .sorted, H, [.ref a] => (match H a with
    | some (.list vs) => if vs.length < 64 then (ints? vs).bind fun is => newL ((sortI is).map .int) else none
    | some (.dict kvs) => if kvs.length < 64 then (ints? (kvs.map (·.1))).bind fun is => newL ((sortI is).map .int) else none
    | _ => none)
  | .min2, _, [.int a, .int b] => some (.val (.int (if b < a then b else a)))
  | .minL, H, [.ref a] => (match (items H (.ref a)).bind ints? with
    | some (i :: is) => some (.val (.int (is.foldl (fun m x => if x < m then x else m) i)))
    | _ => none)
  | .maxL, H, [.ref a] => (match (items H (.ref a)).bind ints? with
    | some (i :: is) => some (.val (.int (is.foldl (fun m x => if m < x then x else m) i)))
    | _ => none)
  | .any, H, [a] => ((items H a).bind bools?).map fun bs => .val (.bool (bs.any id))
  | .all, H, [a] => ((items H a).bind bools?).map fun bs => .val (.bool (bs.all id))
  | .append, H, [.ref a, v] => (match H a with
    | some (.list vs) => if vs.length < lim then some (.upd a (.list (vs ++ [v])) .none) else none
    | _ => none)
  | .index, H, [c, x] => (indexOp H c x).map .val
  | _, _, _ => none

noncomputable def setOp (H : MH) (o i v : V) : Option Res := match o with
  | .ref a => (match H a, i with
    | some (.list vs), .int k => if 0 ≤ k && decide (k < vs.length) then some (.upd a (.list (vs.set k.toNat v)) .none) else none
    | some (.dict kvs), k => if dOK kvs k && decide (kvs.length < lim) then some (.upd a (.dict (dput kvs k v)) .none) else none
    | _, _ => none)
  | _ => none

noncomputable def srcItems (sk : SK) (H : MH) (v : V) : Option (List V × Option (Addr × List V)) := match sk, v with
  | .plain, .tup vs => some (vs, none)
  | .plain, .str s => some (chars s, none)
  | .plain, .ref a => (match H a with
    | some (.list vs) => some (vs, some (a, vs))
    | _ => none)
  | .range, .int n => if 0 ≤ n && decide (n ≤ lim) then some ((List.range n.toNat).map fun (i : Nat) => .int i, none) else none
  | _, _ => none
noncomputable def watch (w : Option (Addr × List V)) (H : MH) : Prop := match w with
  | none => True
  | some (a, vs) => H a = some (.list vs)

noncomputable def bindAll : List String → List V → Env → Option Env
  | [], [], ρ => some ρ
  | x :: xs, v :: vs, ρ => bindAll xs vs (upd ρ x v)
  | _, _, _ => none
noncomputable def bindT (isT : Bool) (tgt : List String) (v : V) (ρ : Env) : Option Env := match isT, tgt with
  | false, [x] => some (upd ρ x v)
  | true, xs => (match v with
    | .tup vs => bindAll xs vs ρ
    | _ => none)
  | _, _ => none
noncomputable def isPlain : V → Bool
  | .none => true
  | .bool _ => true
  | .int _ => true
  | .str _ => true
  | _ => false

abbrev Z0 := String → MH → Prop
abbrev CallSem := String → List V → (V → MH → Prop) → Z0 → MH → Prop
noncomputable def ZF : Z0 := fun _ _ => False

noncomputable def iterC (w : MH → Prop) (step : V → List V → (List V → MH → Prop) → MH → Prop) : List V → List V → (List V → MH → Prop) → MH → Prop
  | [], acc, K, H => w H ∧ K acc H
  | v :: vs, acc, K, H => w H ∧ step v acc (fun acc' H' => iterC w step vs acc' K H') H
noncomputable def iterF (w : MH → Prop) (step : V → Env → (Env → MH → Prop) → MH → Prop) : List V → Env → (Env → MH → Prop) → MH → Prop
  | [], ρ, K, H => w H ∧ K ρ H
  | v :: vs, ρ, K, H => w H ∧ step v ρ (fun ρ' H' => iterF w step vs ρ' K H') H
noncomputable def iterW (test : Env → (Bool → MH → Prop) → MH → Prop) (step : Env → (Env → MH → Prop) → MH → Prop) : Nat → Env → (Env → MH → Prop) → MH → Prop
  | 0, _, _, _ => False
  | n + 1, ρ, K, H => test ρ (fun b H' => (b = true → step ρ (fun ρ' H'' => iterW test step n ρ' K H'') H') ∧ (b = false → K ρ H')) H

noncomputable def doneC (Q : V → MH → Prop) (acc : List V) (H : MH) : Prop := acc.length ≤ lim ∧ ∀ a, H a = none → Q (.ref a) (hupd H a (.list acc))
noncomputable def asB (Q : Bool → MH → Prop) (v : V) (H : MH) : Prop := ∃ b, v = .bool b ∧ Q b H

noncomputable def methT : Prim → MH → V → Option String
  | .append, H, .ref a => (match H a with
    | some (.list _) => some "list"
    | _ => none)
  | .index, H, .ref a => (match H a with
    | some (.list _) => some "list"
    | _ => none)
  | _, _, _ => none
mutual
noncomputable def wpE (C : CallSem) : X → Env → (V → MH → Prop) → Z0 → MH → Prop
  | .cst c, _, Q, _, H => Q c H
  | .var x, ρ, Q, _, H => ∃ v, ρ x = some v ∧ Q v H
  | .prim p args, ρ, Q, Z, H => wpL C args ρ (fun vs H' => ∃ r, primOp p H' vs = some r ∧ fin Q H' r) Z H
  | .and l r, ρ, Q, Z, H => wpE C l ρ (asB fun b H' => (b = true → wpE C r ρ Q Z H') ∧ (b = false → Q (.bool false) H')) Z H
  | .or l r, ρ, Q, Z, H => wpE C l ρ (asB fun b H' => (b = false → wpE C r ρ Q Z H') ∧ (b = true → Q (.bool true) H')) Z H
  | .call f args, ρ, Q, Z, H => wpL C args ρ (fun vs H' => C f vs Q Z H') Z H
  | .meth p o args, ρ, Q, Z, H => wpE C o ρ (fun ov H1 => (methT p H1 ov).isSome = true ∧ wpL C args ρ (fun vs H2 => ∃ r, primOp p H2 (ov :: vs) = some r ∧ fin Q H2 r) Z H1) Z H
  | .comp elt tgt isT sk src, ρ, Q, Z, H => wpE C src ρ (fun sv H1 => ∃ vs w, srcItems sk H1 sv = some (vs, w) ∧
      iterC (watch w) (fun v acc k H2 => ∃ ρ1, bindT isT tgt v ρ = some ρ1 ∧ wpE C elt ρ1 (fun ev H3 => k (acc ++ [ev]) H3) ZF H2) vs [] (doneC Q) H1) Z H
  | .compIf elt tgt isT sk src cond, ρ, Q, Z, H => wpE C src ρ (fun sv H1 => ∃ vs w, srcItems sk H1 sv = some (vs, w) ∧
      iterC (watch w) (fun v acc k H2 => ∃ ρ1, bindT isT tgt v ρ = some ρ1 ∧ wpE C cond ρ1 (asB fun b H3 =>
        (b = true → wpE C elt ρ1 (fun ev H4 => k (acc ++ [ev]) H4) ZF H3) ∧ (b = false → k acc H3)) ZF H2) vs [] (doneC Q) H1) Z H
noncomputable def wpL (C : CallSem) : List X → Env → (List V → MH → Prop) → Z0 → MH → Prop
  | [], _, Q, _, H => Q [] H
  | e :: r, ρ, Q, Z, H => wpE C e ρ (fun v H' => wpL C r ρ (fun vs H'' => Q (v :: vs) H'') Z H') Z H
end


noncomputable def exBind (x : Option String) (c : String) (ρ : Env) : Env := match x with
  | none => ρ
  | some x => upd ρ x (.exc c)
noncomputable def exFree (x : Option String) (ρ : Env) : Env := match x with
  | none => ρ
  | some x => fun y => if y = x then none else ρ y
mutual
noncomputable def wpS (C : CallSem) : S → Env → (Env → MH → Prop) → (V → MH → Prop) → Z0 → MH → Prop
  | .asg x e, ρ, N, _, Z, H => wpE C e ρ (fun v H' => N (upd ρ x v) H') Z H
  | .asgT xs e, ρ, N, _, Z, H => wpE C e ρ (fun v H' => ∃ ρ1, bindT true xs v ρ = some ρ1 ∧ N ρ1 H') Z H
  | .asgI o i e, ρ, N, _, Z, H => wpE C e ρ (fun v H1 => wpE C o ρ (fun ov H2 => wpE C i ρ (fun iv H3 => ∃ r, setOp H3 ov iv v = some r ∧ fin (fun _ H4 => N ρ H4) H3 r) Z H2) Z H1) Z H
  | .ex e, ρ, N, _, Z, H => wpE C e ρ (fun v H' => isPlain v = true ∧ N ρ H') Z H
  | .ifs c t e, ρ, N, R, Z, H => wpE C c ρ (asB fun b H' => (b = true → wpSs C t ρ N R Z H') ∧ (b = false → wpSs C e ρ N R Z H')) Z H
  | .for tgt isT sk src body, ρ, N, R, Z, H => wpE C src ρ (fun sv H1 => ∃ vs w, srcItems sk H1 sv = some (vs, w) ∧
      iterF (watch w) (fun v ρ' k H2 => ∃ ρ1, bindT isT tgt v ρ' = some ρ1 ∧ wpSs C body ρ1 k R ZF H2) vs ρ N H1) Z H
  | .whl c body, ρ, N, R, _, H => ∃ n, iterW (fun ρ' k H1 => wpE C c ρ' (asB k) ZF H1) (fun ρ' k H2 => wpSs C body ρ' k R ZF H2) n ρ N H
  | .ret e, ρ, _, R, Z, H => wpE C e ρ R Z H
  | .pass, ρ, N, _, _, H => N ρ H
  | .raise _, _, _, _, _, _ => False
  | .tryS _ _ _ _ _ _, _, _, _, _, _ => False
noncomputable def wpSs (C : CallSem) : List S → Env → (Env → MH → Prop) → (V → MH → Prop) → Z0 → MH → Prop
  | [], ρ, N, _, _, H => N ρ H
  | s :: r, ρ, N, R, Z, H => wpS C s ρ (fun ρ' H' => wpSs C r ρ' N R Z H') R Z H
end

abbrev Tab := List (String × List String × List S)
noncomputable def bindE (ps : List String) (vs : List V) : Env := fun x => ((ps.zip vs).lookup x)

noncomputable def CallN (tab : Tab) : Nat → CallSem
  | 0 => fun _ _ _ _ _ => False
  | n + 1 => fun f args Q Z H => ∃ ps body, tab.lookup f = some (ps, body) ∧ ps.length = args.length ∧
      wpSs (CallN tab n) body (bindE ps args) (fun _ H' => Q .none H') Q Z H

end Mini

end
section
set_option autoImplicit false
set_option linter.unusedVariables false
set_option linter.unusedSectionVars false
set_option maxRecDepth 100000
namespace Mini
open PySem

noncomputable def MonoC (C : CallSem) : Prop := ∀ (f : String) (vs : List V) (Q Q' : V → MH → Prop) (Z Z' : Z0) (H : MH), (∀ v H, Q v H → Q' v H) → (∀ k H, Z k H → Z' k H) → C f vs Q Z H → C f vs Q' Z' H

theorem fin_mono {Q Q' : V → MH → Prop} {H : MH} {r : Res} (h : fin Q H r) (k : ∀ v H, Q v H → Q' v H) : fin Q' H r := by
  cases r with
  | val v => exact k _ _ h
  | new o => exact fun a ha => k _ _ (h a ha)
  | upd a o v => exact k _ _ h
theorem asB_mono {Q Q' : Bool → MH → Prop} {v : V} {H : MH} (h : asB Q v H) (k : ∀ b H, Q b H → Q' b H) : asB Q' v H := let ⟨b, e, q⟩ := h; ⟨b, e, k _ _ q⟩
theorem doneC_mono {Q Q' : V → MH → Prop} {acc : List V} {H : MH} (h : doneC Q acc H) (k : ∀ v H, Q v H → Q' v H) : doneC Q' acc H := ⟨h.1, fun a ha => k _ _ (h.2 a ha)⟩
theorem iterC_mono {w : MH → Prop} {st st' : V → List V → (List V → MH → Prop) → MH → Prop} (hs : ∀ v acc k k' H, (∀ a H, k a H → k' a H) → st v acc k H → st' v acc k' H) :
    ∀ (vs acc : List V) (K K' : List V → MH → Prop) (H : MH), (∀ a H, K a H → K' a H) → iterC w st vs acc K H → iterC w st' vs acc K' H
  | [], _, _, _, _, k, h => ⟨h.1, k _ _ h.2⟩
  | _ :: vs, _, K, K', _, k, h => ⟨h.1, hs _ _ _ _ _ (fun _ _ z => iterC_mono hs vs _ K K' _ k z) h.2⟩
theorem iterF_mono {w : MH → Prop} {st st' : V → Env → (Env → MH → Prop) → MH → Prop} (hs : ∀ v acc k k' H, (∀ a H, k a H → k' a H) → st v acc k H → st' v acc k' H) :
    ∀ (vs : List V) (ρ : Env) (K K' : Env → MH → Prop) (H : MH), (∀ a H, K a H → K' a H) → iterF w st vs ρ K H → iterF w st' vs ρ K' H
  | [], _, _, _, _, k, h => ⟨h.1, k _ _ h.2⟩
  | _ :: vs, _, K, K', _, k, h => ⟨h.1, hs _ _ _ _ _ (fun _ _ z => iterF_mono hs vs _ K K' _ k z) h.2⟩
theorem iterW_mono {t t' : Env → (Bool → MH → Prop) → MH → Prop} {st st' : Env → (Env → MH → Prop) → MH → Prop} (ht : ∀ ρ k k' H, (∀ a H, k a H → k' a H) → t ρ k H → t' ρ k' H) (hs : ∀ ρ k k' H, (∀ a H, k a H → k' a H) → st ρ k H → st' ρ k' H) :
    ∀ (n : Nat) (ρ : Env) (K K' : Env → MH → Prop) (H : MH), (∀ a H, K a H → K' a H) → iterW t st n ρ K H → iterW t' st' n ρ K' H
  | 0, _, _, _, _, _, h => h
  | n + 1, _, K, K', _, k, h => ht _ _ _ _ (fun _ _ z => ⟨fun e => hs _ _ _ _ (fun _ _ z => iterW_mono ht hs n _ K K' _ k z) (z.1 e), fun e => k _ _ (z.2 e)⟩) h

section
variable {C C' : CallSem} (hC : ∀ (f : String) (vs : List V) (Q Q' : V → MH → Prop) (Z Z' : Z0) (H : MH), (∀ v H, Q v H → Q' v H) → (∀ k H, Z k H → Z' k H) → C f vs Q Z H → C' f vs Q' Z' H)
include hC
mutual
theorem wpE_mono2 : ∀ (x : X) (ρ : Env) (Q Q' : V → MH → Prop) (Z Z' : Z0) (H : MH), (∀ v H, Q v H → Q' v H) → (∀ k H, Z k H → Z' k H) → wpE C x ρ Q Z H → wpE C' x ρ Q' Z' H
  | .cst c, ρ, Q, Q', Z, Z', H, k, z, h => k _ _ h
  | .var x, ρ, Q, Q', Z, Z', H, k, z, h => let ⟨v, e, q⟩ := (h : ∃ v, ρ x = some v ∧ Q v H); (⟨v, e, k _ _ q⟩ : ∃ v, ρ x = some v ∧ Q' v H)
  | .prim p args, ρ, Q, Q', Z, Z', H, k, z, h => wpL_mono2 args ρ _ _ Z Z' H (fun vs H' h => let ⟨r, e, f⟩ := h; ⟨r, e, fin_mono f k⟩) z h
  | .and l r, ρ, Q, Q', Z, Z', H, k, z, h => wpE_mono2 l ρ _ _ Z Z' H (fun v H' h => asB_mono h fun b H q => ⟨fun e => wpE_mono2 r ρ Q Q' Z Z' H k z (q.1 e), fun e => k _ _ (q.2 e)⟩) z h
  | .or l r, ρ, Q, Q', Z, Z', H, k, z, h => wpE_mono2 l ρ _ _ Z Z' H (fun v H' h => asB_mono h fun b H q => ⟨fun e => wpE_mono2 r ρ Q Q' Z Z' H k z (q.1 e), fun e => k _ _ (q.2 e)⟩) z h
  | .call f args, ρ, Q, Q', Z, Z', H, k, z, h => wpL_mono2 args ρ _ _ Z Z' H (fun vs H' h => hC f vs Q Q' Z Z' H' k z h) z h
  | .meth p o args, ρ, Q, Q', Z, Z', H, k, z, h => wpE_mono2 o ρ _ _ Z Z' H (fun v H1 h => ⟨h.1, wpL_mono2 args ρ _ _ Z Z' H1 (fun vs H' h => let ⟨r, e, f⟩ := h; ⟨r, e, fin_mono f k⟩) z h.2⟩) z h
  | .comp elt tgt isT sk src, ρ, Q, Q', Z, Z', H, k, z, h => wpE_mono2 src ρ _ _ Z Z' H (fun sv H1 h => let ⟨vs, w, e, h⟩ := h; ⟨vs, w, e,
      iterC_mono (fun v acc q q' H2 kk h => let ⟨ρ1, e, h⟩ := h; ⟨ρ1, e, wpE_mono2 elt ρ1 _ _ ZF ZF H2 (fun ev H3 h => kk _ _ h) (fun _ _ z => z) h⟩) vs [] _ _ H1 (fun _ _ h => doneC_mono h k) h⟩) z h
  | .compIf elt tgt isT sk src cond, ρ, Q, Q', Z, Z', H, k, z, h => wpE_mono2 src ρ _ _ Z Z' H (fun sv H1 h => let ⟨vs, w, e, h⟩ := h; ⟨vs, w, e,
      iterC_mono (fun v acc q q' H2 kk h => let ⟨ρ1, e, h⟩ := h; ⟨ρ1, e, wpE_mono2 cond ρ1 _ _ ZF ZF H2 (fun cv H3 h => asB_mono h fun b H4 h => ⟨fun e => wpE_mono2 elt ρ1 _ _ ZF ZF H4 (fun ev H3 h => kk _ _ h) (fun _ _ z => z) (h.1 e), fun e => kk _ _ (h.2 e)⟩) (fun _ _ z => z) h⟩) vs [] _ _ H1
        (fun _ _ h => doneC_mono h k) h⟩) z h
theorem wpL_mono2 : ∀ (xs : List X) (ρ : Env) (Q Q' : List V → MH → Prop) (Z Z' : Z0) (H : MH), (∀ v H, Q v H → Q' v H) → (∀ k H, Z k H → Z' k H) → wpL C xs ρ Q Z H → wpL C' xs ρ Q' Z' H
  | [], ρ, Q, Q', Z, Z', H, k, z, h => k _ _ h
  | e :: r, ρ, Q, Q', Z, Z', H, k, z, h => wpE_mono2 e ρ _ _ Z Z' H (fun v H' h => wpL_mono2 r ρ _ _ Z Z' H' (fun vs H'' h => k _ _ h) z h) z h
end
mutual
theorem wpS_mono2 : ∀ (x : S) (ρ : Env) (N N' : Env → MH → Prop) (R R' : V → MH → Prop) (Z Z' : Z0) (H : MH), (∀ v H, N v H → N' v H) → (∀ v H, R v H → R' v H) → (∀ k H, Z k H → Z' k H) → wpS C x ρ N R Z H → wpS C' x ρ N' R' Z' H
  | .asg x e, ρ, N, N', R, R', Z, Z', H, n, r, z, h => wpE_mono2 hC e ρ _ _ Z Z' H (fun v H' h => n _ _ h) z h
  | .asgT xs e, ρ, N, N', R, R', Z, Z', H, n, r, z, h => wpE_mono2 hC e ρ _ _ Z Z' H (fun v H' h => let ⟨ρ1, e, h⟩ := h; ⟨ρ1, e, n _ _ h⟩) z h
  | .asgI o i e, ρ, N, N', R, R', Z, Z', H, n, r, z, h => wpE_mono2 hC e ρ _ _ Z Z' H (fun v H1 h => wpE_mono2 hC o ρ _ _ Z Z' H1 (fun ov H2 h => wpE_mono2 hC i ρ _ _ Z Z' H2 (fun iv H3 h => let ⟨r, e, f⟩ := h; ⟨r, e, fin_mono f fun _ _ h => n _ _ h⟩) z h) z h) z h
  | .ex e, ρ, N, N', R, R', Z, Z', H, n, r, z, h => wpE_mono2 hC e ρ _ _ Z Z' H (fun v H' h => ⟨h.1, n _ _ h.2⟩) z h
  | .ifs c t e, ρ, N, N', R, R', Z, Z', H, n, r, z, h => wpE_mono2 hC c ρ _ _ Z Z' H (fun v H' h => asB_mono h fun b H q => ⟨fun x => wpSs_mono2 t ρ N N' R R' Z Z' H n r z (q.1 x), fun x => wpSs_mono2 e ρ N N' R R' Z Z' H n r z (q.2 x)⟩) z h
  | .for tgt isT sk src body, ρ, N, N', R, R', Z, Z', H, n, r, z, h => wpE_mono2 hC src ρ _ _ Z Z' H (fun sv H1 h => let ⟨vs, w, e, h⟩ := h; ⟨vs, w, e,
      iterF_mono (fun v ρ' k k' H2 kk h => let ⟨ρ1, e, h⟩ := h; ⟨ρ1, e, wpSs_mono2 body ρ1 _ _ R R' ZF ZF H2 kk r (fun _ _ z => z) h⟩) vs ρ _ _ H1 n h⟩) z h
  | .whl c body, ρ, N, N', R, R', Z, Z', H, n, r, z, h => let ⟨m, h⟩ := (h : ∃ n, iterW (fun ρ' k H1 => wpE C c ρ' (asB k) ZF H1) (fun ρ' k H2 => wpSs C body ρ' k R ZF H2) n ρ N H);
      (⟨m, iterW_mono (fun ρ' k k' H1 kk h => wpE_mono2 hC c ρ' _ _ ZF ZF H1 (fun v H h => asB_mono h kk) (fun _ _ z => z) h) (fun ρ' k k' H2 kk h => wpSs_mono2 body ρ' _ _ R R' ZF ZF H2 kk r (fun _ _ z => z) h) m ρ N N' H n h⟩ :
        ∃ n, iterW (fun ρ' k H1 => wpE C' c ρ' (asB k) ZF H1) (fun ρ' k H2 => wpSs C' body ρ' k R' ZF H2) n ρ N' H)
  | .ret e, ρ, N, N', R, R', Z, Z', H, n, r, z, h => wpE_mono2 hC e ρ R R' Z Z' H r z h
  | .pass, ρ, N, N', R, R', Z, Z', H, n, r, z, h => n _ _ h
  | .raise c, ρ, N, N', R, R', Z, Z', H, n, r, z, h => h.elim
  | .tryS a b d e f g, ρ, N, N', R, R', Z, Z', H, n, r, z, h => h.elim
theorem wpSs_mono2 : ∀ (xs : List S) (ρ : Env) (N N' : Env → MH → Prop) (R R' : V → MH → Prop) (Z Z' : Z0) (H : MH), (∀ v H, N v H → N' v H) → (∀ v H, R v H → R' v H) → (∀ k H, Z k H → Z' k H) → wpSs C xs ρ N R Z H → wpSs C' xs ρ N' R' Z' H
  | [], ρ, N, N', R, R', Z, Z', H, n, r, z, h => n _ _ h
  | s :: t, ρ, N, N', R, R', Z, Z', H, n, r, z, h => wpS_mono2 s ρ _ _ R R' Z Z' H (fun ρ' H' h => wpSs_mono2 t ρ' N N' R R' Z Z' H' n r z h) r z h
end
end
theorem CallN_mono (tab : Tab) : ∀ n, MonoC (CallN tab n)
  | 0 => fun _ _ _ _ _ _ _ _ _ h => h
  | n + 1 => fun f vs Q Q' Z Z' H k z h => let ⟨ps, body, e, l, h⟩ := (h : ∃ ps body, tab.lookup f = some (ps, body) ∧ ps.length = vs.length ∧ wpSs (CallN tab n) body (bindE ps vs) (fun _ H' => Q .none H') Q Z H);
      (⟨ps, body, e, l, wpSs_mono2 (CallN_mono tab n) body _ _ _ Q Q' Z Z' H (fun _ _ h => k _ _ h) k z h⟩ : ∃ ps body, tab.lookup f = some (ps, body) ∧ ps.length = vs.length ∧ wpSs (CallN tab n) body (bindE ps vs) (fun _ H' => Q' .none H') Q' Z' H)
theorem wpE_mono {C : CallSem} (hC : MonoC C) {x : X} {ρ : Env} {Q Q' : V → MH → Prop} {Z Z' : Z0} {H : MH} (h : wpE C x ρ Q Z H) (k : ∀ v H, Q v H → Q' v H) (z : ∀ k H, Z k H → Z' k H) : wpE C x ρ Q' Z' H := wpE_mono2 hC x ρ Q Q' Z Z' H k z h
theorem wpSs_mono {C : CallSem} (hC : MonoC C) {x : List S} {ρ : Env} {N N' : Env → MH → Prop} {R R' : V → MH → Prop} {Z Z' : Z0} {H : MH} (h : wpSs C x ρ N R Z H) (n : ∀ v H, N v H → N' v H) (k : ∀ v H, R v H → R' v H) (z : ∀ k H, Z k H → Z' k H) : wpSs C x ρ N' R' Z' H :=
  wpSs_mono2 hC x ρ N N' R R' Z Z' H n k z h
end Mini

end
section
set_option autoImplicit false
set_option linter.unusedVariables false
set_option linter.unusedSectionVars false
namespace Mini
open PySem

abbrev OM := Addr → Option Obj
noncomputable def OLe (D D' : OM) : Prop := ∀ a o, D a = some o → D' a = some o
theorem OLe.refl (D : OM) : OLe D D := fun _ _ h => h
theorem OLe.trans {D E F : OM} (h : OLe D E) (k : OLe E F) : OLe D F := fun a o e => k a o (h a o e)
noncomputable def oput (D : OM) (a : Addr) (o : Obj) : OM := fun b => if b = a then some o else D b
theorem oput_same (D : OM) (a : Addr) (o : Obj) : oput D a o a = some o := by simp [oput]
theorem oput_ne {D : OM} {a b : Addr} {o : Obj} (h : b ≠ a) : oput D a o b = D b := by simp [oput, h]
theorem OLe.put {D : OM} {a : Addr} {o : Obj} (h : D a = none) : OLe D (oput D a o) := fun b x e => by
  by_cases q : b = a
  · rw [q, h] at e; cases e
  · rw [oput_ne q]; exact e

noncomputable def tupObj (vs : List Value) (n : Nat) : Obj := { cls := .type "tuple", dict := none, data := .seq vs.toArray n, slots := #[] }
noncomputable def listObj (vs : List Value) (n : Nat) : Obj := { cls := .type "list", dict := none, data := .seq vs.toArray n, slots := #[] }
noncomputable def TupO (o : Obj) (vs : List Value) : Prop := ∃ n, o = tupObj vs n
noncomputable def ListO (o : Obj) (vs : List Value) : Prop := ∃ n, o = listObj vs n
abbrev FM := Addr → Option (Str → Option Value)
noncomputable def FLe (D D' : FM) : Prop := ∀ a o, D a = some o → D' a = some o
noncomputable def fput (D : FM) (a : Addr) (o : Str → Option Value) : FM := fun b => if b = a then some o else D b
theorem fput_same (D : FM) (a : Addr) (o : Str → Option Value) : fput D a o a = some o := by simp [fput]
theorem fput_ne {D : FM} {a b : Addr} {o : Str → Option Value} (h : b ≠ a) : fput D a o b = D b := by simp [fput, h]

inductive VR (D : OM) : Value → V → Prop
  | none : VR D .none .none
  | bool (b : Bool) : VR D (.bool b) (.bool b)
  | int (i : Int) (t : Tok) : VR D (.int i t) (.int i)
  | str (s : Str) (t : Tok) : s.length ≤ lim → VR D (.str s t) (.str s)
  | ref (a : Addr) : VR D (.ref a) (.ref a)
  | tup {a : Addr} {o : Obj} {cs : List Value} {vs : List V} : D a = some o → TupO o cs → vs.length ≤ lim → cs.length = vs.length → (∀ i (h : i < cs.length) (h' : i < vs.length), VR D cs[i] vs[i]) → VR D (.ref a) (.tup vs)
  | fl {a : Addr} {o : Obj} {cs : List Value} {vs : List V} : D a = some o → ListO o cs → vs.length ≤ lim → cs.length = vs.length → (∀ i (h : i < cs.length) (h' : i < vs.length), VR D cs[i] vs[i]) → VR D (.ref a) (.fl vs)

noncomputable def VRs (D : OM) (cs : List Value) (vs : List V) : Prop := cs.length = vs.length ∧ ∀ i (h : i < cs.length) (h' : i < vs.length), VR D cs[i] vs[i]

theorem VR.mono {D D' : OM} (k : OLe D D') {c : Value} {v : V} (h : VR D c v) : VR D' c v := by
  induction h with
  | none => exact .none
  | bool b => exact .bool b
  | int i t => exact .int i t
  | str s t h => exact .str s t h
  | ref a => exact .ref a
  | tup e t b l _ ih => exact .tup (k _ _ e) t b l ih
  | fl e t b l _ ih => exact .fl (k _ _ e) t b l ih
theorem VRs.mono {D D' : OM} (k : OLe D D') {cs : List Value} {vs : List V} (h : VRs D cs vs) : VRs D' cs vs := ⟨h.1, fun i a b => (h.2 i a b).mono k⟩
theorem VRs.nil {D : OM} : VRs D [] [] := ⟨rfl, fun i h => nomatch h⟩
theorem VRs.cons {D : OM} {c : Value} {v : V} {cs : List Value} {vs : List V} (h : VR D c v) (t : VRs D cs vs) : VRs D (c :: cs) (v :: vs) :=
  ⟨by simp [t.1], fun i a b => by cases i with
    | zero => exact h
    | succ i => exact t.2 i (by simpa using a) (by simpa using b)⟩
theorem VRs.head {D : OM} {c : Value} {v : V} {cs : List Value} {vs : List V} (h : VRs D (c :: cs) (v :: vs)) : VR D c v := h.2 0 (by simp) (by simp)
theorem VRs.tail {D : OM} {c : Value} {v : V} {cs : List Value} {vs : List V} (h : VRs D (c :: cs) (v :: vs)) : VRs D cs vs :=
  ⟨by simpa using h.1, fun i a b => h.2 (i + 1) (by simpa using a) (by simpa using b)⟩
theorem VRs.nil_inv {D : OM} {cs : List Value} (h : VRs D cs []) : cs = [] := List.eq_nil_of_length_eq_zero h.1
theorem VRs.cons_inv {D : OM} {cs : List Value} {v : V} {vs : List V} (h : VRs D cs (v :: vs)) : ∃ c ds, cs = c :: ds ∧ VR D c v ∧ VRs D ds vs := by
  cases cs with
  | nil => have := h.1; simp at this
  | cons c ds => exact ⟨c, ds, rfl, h.head, h.tail⟩
theorem VRs.append {D : OM} {cs ds : List Value} {vs ws : List V} (h : VRs D cs vs) (k : VRs D ds ws) : VRs D (cs ++ ds) (vs ++ ws) := by
  induction cs generalizing vs with
  | nil => have := h.1; cases vs with
    | nil => exact k
    | cons _ _ => simp at this
  | cons c r ih => cases vs with
    | nil => have := h.1; simp at this
    | cons v vs => exact .cons h.head (ih h.tail)
theorem VRs.get? {D : OM} {cs : List Value} {vs : List V} {i : Nat} {v : V} (h : VRs D cs vs) (e : vs[i]? = some v) : ∃ c, cs[i]? = some c ∧ VR D c v := by
  obtain ⟨hi, rfl⟩ := List.getElem?_eq_some_iff.mp e
  have hi' : i < cs.length := by rw [h.1]; exact hi
  exact ⟨cs[i], List.getElem?_eq_getElem hi', h.2 i hi' hi⟩
theorem VRs.set {D : OM} {cs : List Value} {vs : List V} {i : Nat} {c : Value} {v : V} (h : VRs D cs vs) (k : VR D c v) : VRs D (cs.set i c) (vs.set i v) := by
  refine ⟨by simp [h.1], fun j a b => ?_⟩
  simp only [List.getElem_set]
  split
  · exact k
  · exact h.2 j (by simpa using a) (by simpa using b)
theorem VRs.take {D : OM} {cs : List Value} {vs : List V} (h : VRs D cs vs) (n : Nat) : VRs D (cs.take n) (vs.take n) :=
  ⟨by simp [h.1], fun i a b => by simpa using h.2 i (by simp at a; (first | lia | omega)) (by simp at b; (first | lia | omega))⟩
theorem VRs.drop {D : OM} {cs : List Value} {vs : List V} (h : VRs D cs vs) (n : Nat) : VRs D (cs.drop n) (vs.drop n) :=
  ⟨by simp [h.1], fun i a b => by simpa using h.2 (n + i) (by simp at a; (first | lia | omega)) (by simp at b; (first | lia | omega))⟩
noncomputable def KV {K : Type} (D : OM) (enc : K → V) (xs : List (K × Value)) (kvs : List (V × V)) : Prop :=
  xs.length = kvs.length ∧ ∀ i (h : i < xs.length) (h' : i < kvs.length), kvs[i].1 = enc xs[i].1 ∧ VR D xs[i].2 kvs[i].2
noncomputable def TupInts (D : OM) (is : List Int) (a : Addr) : Prop := ∃ o cs, D a = some o ∧ TupO o cs ∧ VRs D cs (is.map .int)
noncomputable def encT (is : List Int) : V := .tup (is.map .int)

structure Cx where
  prog : Program
  w : World
  s0 : Shared
  st : ∃ o, s0.heap.get? cStatics = some o
  fr : List PySem.Env

inductive DictR (c : Cx) (D : OM) (es : Array DictEntry) (kvs : List (V × V)) : Prop
  | int (xs : List (Int × Value)) : KeysOf (intKind c.prog c.w) es → Pairs (intKind c.prog c.w) es.toList xs → (xs.map (·.1)).Nodup → KV D V.int xs kvs → DictR c D es kvs
  | str (xs : List (Str × Value)) : KeysOf (strKind c.prog c.w) es → Pairs (strKind c.prog c.w) es.toList xs → (xs.map (·.1)).Nodup → KV D V.str xs kvs → DictR c D es kvs
  | tup (xs : List (List Int × Addr × Value)) : es.toList = xs.map (entryOfKey (tupleKind (intKind c.prog c.w))) → (∀ x ∈ xs, TupInts D x.1 x.2.1) → (xs.map (·.1)).Nodup →
      KV D encT (xs.map fun x => (x.1, x.2.2)) kvs → DictR c D es kvs

inductive OR (c : Cx) (D : OM) (o : Obj) : Ob → Prop
  | list {cs : List Value} {vs : List V} : ListO o cs → VRs D cs vs → vs.length ≤ lim → OR c D o (.list vs)
  | dict {es : Array DictEntry} {n : Nat} {kvs : List (V × V)} : o.ExactDict → o.data = .dict es n → DictR c D es kvs → kvs.length ≤ lim → OR c D o (.dict kvs)

theorem KV.mono {K : Type} {D D' : OM} (k : OLe D D') {enc : K → V} {xs : List (K × Value)} {kvs : List (V × V)} (h : KV D enc xs kvs) : KV D' enc xs kvs :=
  ⟨h.1, fun i a b => ⟨(h.2 i a b).1, (h.2 i a b).2.mono k⟩⟩
theorem TupInts.mono {D D' : OM} (k : OLe D D') {is : List Int} {a : Addr} (h : TupInts D is a) : TupInts D' is a :=
  let ⟨o, cs, e, t, v⟩ := h; ⟨o, cs, k _ _ e, t, v.mono k⟩
theorem DictR.mono {c : Cx} {D D' : OM} (k : OLe D D') {es : Array DictEntry} {kvs : List (V × V)} (h : DictR c D es kvs) : DictR c D' es kvs := by
  cases h with
  | int xs a b d e => exact .int xs a b d (e.mono k)
  | str xs a b d e => exact .str xs a b d (e.mono k)
  | tup xs a b d e => exact .tup xs a (fun x hx => (b x hx).mono k) d (e.mono k)
theorem OR.mono {c : Cx} {D D' : OM} (k : OLe D D') {o : Obj} {ob : Ob} (h : OR c D o ob) : OR c D' o ob := by
  cases h with
  | list a v l => exact .list a (v.mono k) l
  | dict a b d l => exact .dict a b (d.mono k) l

abbrev Cx.at (c : Cx) (l : List PySem.Env) : Cx := ⟨c.prog, c.w, c.s0, c.st, l⟩
theorem DictR.at {c : Cx} {D : OM} {es : Array DictEntry} {kvs : List (V × V)} (l : List PySem.Env) (h : DictR c D es kvs) : DictR (c.at l) D es kvs := by
  cases h with
  | int xs a b d e => exact .int xs a b d e
  | str xs a b d e => exact .str xs a b d e
  | tup xs a b d e => exact .tup xs a b d e
theorem OR.at {c : Cx} {D : OM} {o : Obj} {ob : Ob} (l : List PySem.Env) (h : OR c D o ob) : OR (c.at l) D o ob := by
  cases h with
  | list a b d => exact .list a b d
  | dict a b d e => exact .dict a b (d.at l) e
noncomputable def Frs (c : Cx) (F : FM) : Prop := ∀ e ∈ c.fr, e.scope.kind ≠ .module ∧ ∃ L, e.frame = some L ∧ (F L).isSome = true
structure Rel (c : Cx) (D O : OM) (F : FM) (H : MH) (s : Shared) : Prop where
  base : ∀ a o, c.s0.heap.get? a = some o → D a = some o
  dat : ∀ a o, D a = some o → s.heap.get? a = some o
  oth : ∀ a o, O a = some o → s.heap.get? a = some o ∧ D a = none ∧ F a = none ∧ H a = none
  frm : ∀ a m, F a = some m → s.heap.Ns a m ∧ D a = none ∧ H a = none
  own : ∀ a ob, H a = some ob → D a = none ∧ ∃ o, s.heap.get? a = some o ∧ OR c D o ob
  lo : ∀ a, ((∃ ob, H a = some ob) ∨ ∃ o, O a = some o) → a ≠ sysModules
  gens : s.gens = c.s0.gens
  os : s.os = c.s0.os
  frs : Frs c F

section
variable {c : Cx} {D O : OM} {F : FM} {H : MH} {s : Shared}
theorem Rel.toks (R : Rel c D O F H s) (t : Nat) : Rel c D O F H { s with toks := t } := ⟨R.base, R.dat, R.oth, R.frm, R.own, R.lo, R.gens, R.os, R.frs⟩
theorem none_of_size {h : Heap} : h.get? h.objs.size = none := by
  cases q : h.get? h.objs.size with
  | none => rfl
  | some o => exact absurd (Heap.lt_size q) (Nat.lt_irrefl _)
theorem Rel.fresh (R : Rel c D O F H s) : D s.heap.objs.size = none ∧ O s.heap.objs.size = none ∧ F s.heap.objs.size = none ∧ H s.heap.objs.size = none := by
  have hn := none_of_size (h := s.heap)
  refine ⟨?_, ?_, ?_, ?_⟩
  · cases q : D s.heap.objs.size with
    | none => rfl
    | some o => have := R.dat _ _ q; rw [hn] at this; cases this
  · cases q : O s.heap.objs.size with
    | none => rfl
    | some o => have := (R.oth _ _ q).1; rw [hn] at this; cases this
  · cases q : F s.heap.objs.size with
    | none => rfl
    | some o => obtain ⟨⟨_, _, _, e, _⟩, _⟩ := R.frm _ _ q; rw [hn] at e; cases e
  · cases q : H s.heap.objs.size with
    | none => rfl
    | some o => obtain ⟨_, _, e, _⟩ := R.own _ _ q; rw [hn] at e; cases e

theorem Rel.freshLo (R : Rel c D O F H s) {a : Addr} (h : s.heap.objs.size ≤ a) : a ≠ sysModules := by
  obtain ⟨o, ho⟩ := c.st
  have := Heap.lt_size (R.dat _ _ (R.base _ _ ho))
  have h2 : (2 : Nat) < s.heap.objs.size := this
  have h3 : (2 : Nat) < a := Nat.lt_of_lt_of_le h2 h
  intro e
  rw [e] at h3
  exact absurd h3 (by decide)
theorem Rel.at (R : Rel c D O F H s) {l : List PySem.Env} (h : Frs (c.at l) F) : Rel (c.at l) D O F H s :=
  ⟨R.base, R.dat, R.oth, R.frm, fun a ob e => let ⟨x, o, q, r⟩ := R.own a ob e; ⟨x, o, q, r.at l⟩, R.lo, R.gens, R.os, h⟩
theorem Rel.grow (R : Rel c D O F H s) {h' : Heap} {tk : Nat} (k : ∀ b o, s.heap.get? b = some o → h'.get? b = some o) : Rel c D O F H { s with heap := h', toks := tk } :=
  ⟨R.base, fun a o e => k _ _ (R.dat a o e), fun a o e => ⟨k _ _ (R.oth a o e).1, (R.oth a o e).2⟩, fun a o e => let ⟨q, r⟩ := R.frm a o e; ⟨q.keeps k, r⟩,
    fun a ob e => let ⟨x, o, q, r⟩ := R.own a ob e; ⟨x, o, k _ _ q, r⟩, R.lo, R.gens, R.os, R.frs⟩

theorem Rel.newD (R : Rel c D O F H s) {a : Addr} {o : Obj} (e : s.heap.get? a = some o) (h1 : D a = none) (h2 : O a = none) (h3 : F a = none) (h4 : H a = none) : Rel c (oput D a o) O F H s := by
  refine ⟨fun b x q => OLe.put h1 _ _ (R.base b x q), fun b x q => ?_, fun b x q => ?_, fun b x q => ?_, fun b x q => ?_, R.lo, R.gens, R.os, R.frs⟩
  · by_cases p : b = a
    · subst p; rw [oput_same] at q; cases q; exact e
    · rw [oput_ne p] at q; exact R.dat _ _ q
  · have p : b ≠ a := fun p => by rw [p, h2] at q; cases q
    rw [oput_ne p]; exact R.oth b x q
  · have p : b ≠ a := fun p => by rw [p, h3] at q; cases q
    rw [oput_ne p]; exact R.frm b x q
  · have p : b ≠ a := fun p => by rw [p, h4] at q; cases q
    rw [oput_ne p]
    obtain ⟨y, z, r, u⟩ := R.own b x q
    exact ⟨y, z, r, u.mono (OLe.put h1)⟩

theorem Rel.newH (R : Rel c D O F H s) {a : Addr} {o : Obj} {ob : Ob} (e : s.heap.get? a = some o) (h1 : D a = none) (h2 : O a = none) (h3 : F a = none) (k : OR c D o ob) (hlo : a ≠ sysModules) : Rel c D O F (hupd H a ob) s := by
  refine ⟨R.base, R.dat, fun b x q => ?_, fun b x q => ?_, fun b x q => ?_, (fun b hb => by
    by_cases p : b = a
    · rw [p]; exact hlo
    · exact R.lo b (by simpa [hupd, p] using hb)), R.gens, R.os, R.frs⟩
  · have p : b ≠ a := fun p => by rw [p, h2] at q; cases q
    have := R.oth b x q; exact ⟨this.1, this.2.1, this.2.2.1, by simpa [hupd, p] using this.2.2.2⟩
  · have p : b ≠ a := fun p => by rw [p, h3] at q; cases q
    have := R.frm b x q; exact ⟨this.1, this.2.1, by simpa [hupd, p] using this.2.2⟩
  · by_cases p : b = a
    · subst p; simp [hupd] at q; subst q; exact ⟨h1, o, e, k⟩
    · simp [hupd, p] at q; exact R.own b x q

theorem Rel.newO (R : Rel c D O F H s) {a : Addr} {o : Obj} (e : s.heap.get? a = some o) (h1 : D a = none) (h3 : F a = none) (h4 : H a = none) (hlo : a ≠ sysModules) : Rel c D (oput O a o) F H s := by
  refine ⟨R.base, R.dat, fun b x q => ?_, R.frm, R.own, (fun b hb => by
    by_cases p : b = a
    · rw [p]; exact hlo
    · exact R.lo b (by simpa [oput, p] using hb)), R.gens, R.os, R.frs⟩
  by_cases p : b = a
  · subst p; rw [oput_same] at q; cases q; exact ⟨e, h1, h3, h4⟩
  · rw [oput_ne p] at q; exact R.oth b x q
theorem Rel.subO (R : Rel c D O F H s) {O' : OM} (k : OLe O' O) : Rel c D O' F H s := ⟨R.base, R.dat, fun b x q => R.oth b x (k b x q), R.frm, R.own, fun b hb => R.lo b (hb.imp id fun ⟨o, e⟩ => ⟨o, k b o e⟩), R.gens, R.os, R.frs⟩
theorem Frs.put {c : Cx} {F : FM} (h : Frs c F) (a : Addr) (m : Str → Option Value) : Frs c (fput F a m) := fun e he => by
  obtain ⟨h1, L, h2, h3⟩ := h e he
  refine ⟨h1, L, h2, ?_⟩
  by_cases p : L = a
  · rw [p, fput_same]; rfl
  · rw [fput_ne p]; exact h3
theorem Rel.back {l : List PySem.Env} {O' : OM} {F' : FM} (R : Rel (c.at l) D O' F' H s) (ko : OLe O O') (kf : FLe F F') (h : Frs c F) : Rel c D O F H s :=
  ⟨R.base, R.dat, fun b x q => let y := R.oth b x (ko b x q); ⟨y.1, y.2.1, (by
    cases z : F b with
    | none => rfl
    | some w => have := kf _ _ z; rw [y.2.2.1] at this; cases this), y.2.2.2⟩, fun b x q => R.frm b x (kf b x q), fun a ob e => let ⟨x, o, q, r⟩ := R.own a ob e; ⟨x, o, q, r.at c.fr⟩, fun b hb => R.lo b (hb.imp id fun ⟨o, e⟩ => ⟨o, ko b o e⟩), R.gens, R.os, h⟩
theorem Rel.newF (R : Rel c D O F H s) {a : Addr} {m : Str → Option Value} (e : s.heap.Ns a m) (h1 : D a = none) (h2 : O a = none) (h4 : H a = none) : Rel c D O (fput F a m) H s := by
  refine ⟨R.base, R.dat, fun b x q => ?_, fun b x q => ?_, R.own, R.lo, R.gens, R.os, R.frs.put _ _⟩
  · have p : b ≠ a := fun p => by rw [p, h2] at q; cases q
    rw [fput_ne p]; exact R.oth b x q
  · by_cases p : b = a
    · subst p; rw [fput_same] at q; cases q; exact ⟨e, h1, h4⟩
    · rw [fput_ne p] at q; exact R.frm b x q

theorem Rel.setH (R : Rel c D O F H s) {a : Addr} {ob₀ ob : Ob} {o : Obj} {h' : Heap} {tk : Nat} (e₀ : H a = some ob₀) (hs : Heap.SameBut a s.heap h') (e : h'.get? a = some o) (k : OR c D o ob) :
    Rel c D O F (hupd H a ob) { s with heap := h', toks := tk } := by
  obtain ⟨hD, _⟩ := R.own _ _ e₀
  have hlo : a ≠ sysModules := R.lo a (.inl ⟨_, e₀⟩)
  refine ⟨R.base, fun b x q => ?_, fun b x q => ?_, fun b x q => ?_, fun b x q => ?_, (fun b hb => by
    by_cases p : b = a
    · rw [p]; exact hlo
    · exact R.lo b (by simpa [hupd, p] using hb)), R.gens, R.os, R.frs⟩
  · have p : b ≠ a := fun p => by rw [p, hD] at q; cases q
    exact (hs.2 b p).trans (R.dat b x q)
  · have y := R.oth b x q
    have p : b ≠ a := fun p => by rw [p, e₀] at y; cases y.2.2.2
    exact ⟨(hs.2 b p).trans y.1, y.2.1, y.2.2.1, by simpa [hupd, p] using y.2.2.2⟩
  · obtain ⟨y, z⟩ := R.frm b x q
    have p : b ≠ a := fun p => by rw [p, e₀] at z; cases z.2
    exact ⟨y.sameBut hs p, z.1, by simpa [hupd, p] using z.2⟩
  · by_cases p : b = a
    · subst p; simp [hupd] at q; subst q; exact ⟨hD, o, e, k⟩
    · simp [hupd, p] at q
      obtain ⟨x1, o1, x2, x3⟩ := R.own b x q
      exact ⟨x1, o1, (hs.2 b p).trans x2, x3⟩
theorem Rel.setO (R : Rel c D O F H s) {a : Addr} {o₀ o : Obj} {h' : Heap} {tk : Nat} (e₀ : O a = some o₀) (hs : Heap.SameBut a s.heap h') (e : h'.get? a = some o) :
    Rel c D (oput O a o) F H { s with heap := h', toks := tk } := by
  obtain ⟨_, hD, hF, hH⟩ := R.oth _ _ e₀
  have hlo : a ≠ sysModules := R.lo a (.inr ⟨_, e₀⟩)
  refine ⟨R.base, fun b x q => ?_, fun b x q => ?_, fun b x q => ?_, fun b x q => ?_, (fun b hb => by
    by_cases p : b = a
    · rw [p]; exact hlo
    · exact R.lo b (by simpa [oput, p] using hb)), R.gens, R.os, R.frs⟩
  · have p : b ≠ a := fun p => by rw [p, hD] at q; cases q
    exact (hs.2 b p).trans (R.dat b x q)
  · by_cases p : b = a
    · subst p; rw [oput_same] at q; cases q; exact ⟨e, hD, hF, hH⟩
    · rw [oput_ne p] at q
      have y := R.oth b x q
      exact ⟨(hs.2 b p).trans y.1, y.2⟩
  · obtain ⟨y, z⟩ := R.frm b x q
    have p : b ≠ a := fun p => by rw [p, hF] at q; cases q
    exact ⟨y.sameBut hs p, z⟩
  · have p : b ≠ a := fun p => by rw [p, hH] at q; cases q
    obtain ⟨x1, o1, x2, x3⟩ := R.own b x q
    exact ⟨x1, o1, (hs.2 b p).trans x2, x3⟩
theorem Rel.setF (R : Rel c D O F H s) {a : Addr} {m₀ m : Str → Option Value} {h' : Heap} {tk : Nat} (e₀ : F a = some m₀) (hs : Heap.SameBut a s.heap h') (e : h'.Ns a m) :
    Rel c D O (fput F a m) H { s with heap := h', toks := tk } := by
  obtain ⟨_, hD, hH⟩ := R.frm _ _ e₀
  refine ⟨R.base, fun b x q => ?_, fun b x q => ?_, fun b x q => ?_, fun b x q => ?_, R.lo, R.gens, R.os, R.frs.put _ _⟩
  · have p : b ≠ a := fun p => by rw [p, hD] at q; cases q
    exact (hs.2 b p).trans (R.dat b x q)
  · have y := R.oth b x q
    have p : b ≠ a := fun p => by rw [p, e₀] at y; cases y.2.2.1
    exact ⟨(hs.2 b p).trans y.1, y.2.1, by rw [fput_ne p]; exact y.2.2.1, y.2.2.2⟩
  · by_cases p : b = a
    · subst p; rw [fput_same] at q; cases q; exact ⟨e, hD, hH⟩
    · rw [fput_ne p] at q
      obtain ⟨y, z⟩ := R.frm b x q
      exact ⟨y.sameBut hs p, z⟩
  · have p : b ≠ a := fun p => by rw [p, hH] at q; cases q
    obtain ⟨x1, o1, x2, x3⟩ := R.own b x q
    exact ⟨x1, o1, (hs.2 b p).trans x2, x3⟩
end

noncomputable def Fin (c : Cx) (D O : OM) (F : FM) (H : MH) (r : Res) (cv : Value) (s' : Shared) : Prop := ∃ D', OLe D D' ∧ match r with
  | .val v => VR D' cv v ∧ Rel c D' O F H s'
  | .new o => ∃ a, cv = .ref a ∧ H a = none ∧ Rel c D' O F (hupd H a o) s'
  | .upd a o v => VR D' cv v ∧ Rel c D' O F (hupd H a o) s'
noncomputable def Post (c : Cx) (D O : OM) (F : FM) (Q : V → MH → Prop) (cv : Value) (s' : Shared) : Prop := ∃ D' v H', OLe D D' ∧ VR D' cv v ∧ Rel c D' O F H' s' ∧ Q v H'
theorem Fin.post {c : Cx} {D O : OM} {F : FM} {H : MH} {r : Res} {cv : Value} {s' : Shared} {Q : V → MH → Prop} (h : Fin c D O F H r cv s') (q : fin Q H r) : Post c D O F Q cv s' := by
  obtain ⟨D', k, h⟩ := h
  cases r with
  | val v => exact ⟨D', v, H, k, h.1, h.2, q⟩
  | new o => obtain ⟨a, rfl, hn, R⟩ := h; exact ⟨D', .ref a, _, k, .ref a, R, q a hn⟩
  | upd a o v => exact ⟨D', v, _, k, h.1, h.2, q⟩
end Mini

end
section
set_option autoImplicit false
set_option maxRecDepth 100000
namespace Mini
open PySem

abbrev W {α : Type} (c : Cx) (A : Around) (t : Sem α) (Q : α → Shared → Prop) (s : Shared) : Prop := wpAny (model c.prog c.w) A t Q (fun _ _ => False) s
structure Room (A : Around) : Prop where
  u : A.units + 200 < cLine
  d : A.depth < recursionLimit

section
variable {c : Cx} {A : Around} {D O : OM} {F : FM} {H : MH} {s : Shared}

theorem Fin.val {v : V} {cv : Value} {s' : Shared} (h : VR D cv v) (R : Rel c D O F H s') : Fin c D O F H (.val v) cv s' := ⟨D, .refl D, h, R⟩
theorem Fin.valT {v : V} {cv : Value} {t : Nat} (h : VR D cv v) (R : Rel c D O F H s) : Fin c D O F H (.val v) cv { s with toks := t } := ⟨D, .refl D, h, R.toks t⟩

theorem fin_newList {cs : List Value} {vs : List V} (R : Rel c D O F H s) (h : VRs D cs vs) (hl : vs.length ≤ lim) {arr : Array Value} {n tk : Nat} (e : arr = cs.toArray) :
    Fin c D O F H (.new (.list vs)) (.ref s.heap.objs.size) { s with heap := s.heap.push { cls := .type "list", data := .seq arr n }, toks := tk } := by
  obtain ⟨f1, f2, f3, f4⟩ := R.fresh
  subst e
  refine ⟨D, .refl D, _, rfl, f4, (R.grow (tk := tk) (h' := s.heap.push (listObj cs n)) fun b o e => Heap.get?_push_of_some _ e).newH (o := listObj cs n) (Heap.get?_push_size _ rfl) f1 f2 f3 (.list ⟨n, rfl⟩ h hl) (R.freshLo (Nat.le_refl _))⟩
theorem fin_newTup {cs : List Value} {vs : List V} (R : Rel c D O F H s) (h : VRs D cs vs) (hl : vs.length ≤ lim) {arr : Array Value} {n tk : Nat} (e : arr = cs.toArray) :
    Fin c D O F H (.val (.tup vs)) (.ref s.heap.objs.size) { s with heap := s.heap.push { cls := .type "tuple", data := .seq arr n }, toks := tk } := by
  obtain ⟨f1, f2, f3, f4⟩ := R.fresh
  subst e
  refine ⟨oput D s.heap.objs.size (tupObj cs n), .put f1, .tup (o := tupObj cs n) (cs := cs) (oput_same ..) ⟨n, rfl⟩ hl h.1 fun i a b => (h.2 i a b).mono (.put f1),
    (R.grow (tk := tk) (h' := s.heap.push (tupObj cs n)) fun b o e => Heap.get?_push_of_some _ e).newD (Heap.get?_push_size _ rfl) f1 f2 f3 f4⟩

theorem Rel.listAt (R : Rel c D O F H s) {a : Addr} {vs : List V} (e : H a = some (.list vs)) : ∃ cs n, VRs D cs vs ∧ s.heap.get? a = some (listObj cs n) ∧ vs.length ≤ lim := by
  obtain ⟨_, o, ho, k⟩ := R.own _ _ e
  cases k with
  | list l v b => obtain ⟨n, rfl⟩ := l; exact ⟨_, n, v, ho, b⟩
theorem VR.tup_inv {cv : Value} {vs : List V} (h : VR D cv (.tup vs)) : ∃ a cs n, cv = .ref a ∧ D a = some (tupObj cs n) ∧ VRs D cs vs ∧ vs.length ≤ lim := by
  cases h with
  | tup e t b l k => obtain ⟨n, rfl⟩ := t; exact ⟨_, _, n, rfl, e, ⟨l, k⟩, b⟩
theorem VR.fl_inv {cv : Value} {vs : List V} (h : VR D cv (.fl vs)) : ∃ a cs n, cv = .ref a ∧ D a = some (listObj cs n) ∧ VRs D cs vs ∧ vs.length ≤ lim := by
  cases h with
  | fl e t b l k => obtain ⟨n, rfl⟩ := t; exact ⟨_, _, n, rfl, e, ⟨l, k⟩, b⟩
theorem VR.int_inv {cv : Value} {i : Int} (h : VR D cv (.int i)) : ∃ t, cv = .int i t := by cases h; exact ⟨_, rfl⟩
theorem VR.str_inv {cv : Value} {x : Str} (h : VR D cv (.str x)) : ∃ t, cv = .str x t := by cases h; exact ⟨_, rfl⟩
theorem VR.str_len {cv : Value} {x : Str} (h : VR D cv (.str x)) : x.length ≤ lim := by cases h; assumption
theorem VR.bool_inv {cv : Value} {b : Bool} (h : VR D cv (.bool b)) : cv = .bool b := by cases h; rfl
theorem VR.none_inv {cv : Value} (h : VR D cv .none) : cv = .none := by cases h; rfl
theorem VR.ref_inv {cv : Value} {a : Addr} (h : VR D cv (.ref a)) : cv = .ref a := by cases h; rfl

theorem small_bits {i : Int} (h : small i = true) : Builtin.Int.intBits i ≤ 2 ^ 20 := by
  have h' : i.natAbs < 1000000000000000000 := of_decide_eq_true h
  unfold Builtin.Int.intBits
  split
  · decide
  · have : i.natAbs.log2 < 80 := by
      rw [Nat.log2_lt (by intro e; rename_i q; exact q (by simpa using e))]
      exact Nat.lt_trans h' (by decide)
    (first | lia | omega)

theorem add_snd {a b : Value} {va vb : V} {r : Res} (R : Rel c D O F H s) (ha : VR D a va) (hb : VR D b vb) (h : addOp H va vb = some r) : W c A (binaryOp .Add a b) (Fin c D O F H r) s := by
  cases va <;> cases vb <;> (try (cases h; done))
  case int.int i j =>
    obtain ⟨t, rfl⟩ := ha.int_inv; obtain ⟨u, rfl⟩ := hb.int_inv
    cases h
    exact PyProof.Rows.add_int (.valT (.int _ _) R)
  case str.str x y =>
    obtain ⟨t, rfl⟩ := ha.str_inv; obtain ⟨u, rfl⟩ := hb.str_inv
    have h' : (if (x ++ y).length ≤ lim then some (Res.val (.str (x ++ y))) else none) = some r := h
    split at h'
    · rename_i hl; cases h'
      refine PyProof.Rows.add_str (fun t' tk => .valT (.str _ _ hl) R) ?_
      have e : (x ++ y).length = x.length + y.length := by simp [Str.length_append]
      rw [e] at hl; unfold lim at hl; rw [sizeLine_eq]; (first | lia | omega)
    · cases h'
  case ref.ref x y =>
    obtain rfl := ha.ref_inv; obtain rfl := hb.ref_inv
    simp only [addOp] at h
    split at h
    · rename_i xs ys e1 e2
      unfold newL at h
      split at h
      · rename_i hl; cases h
        obtain ⟨cs, n, v1, g1, _⟩ := R.listAt e1
        obtain ⟨ds, m, v2, g2, _⟩ := R.listAt e2
        refine P.add_list g1 g2 ?_ ?_
        · exact fin_newList R (v1.append v2) hl (by simp)
        · rw [List.length_append, ← v1.1, ← v2.1] at hl; unfold lim at hl; rw [sizeLine_eq, List.size_toArray, List.size_toArray]; (first | lia | omega)
      · cases h
    · cases h

theorem sub_snd {a b : Value} {i j : Int} (R : Rel c D O F H s) (ha : VR D a (.int i)) (hb : VR D b (.int j)) : W c A (binaryOp .Sub a b) (Fin c D O F H (.val (.int (i - j)))) s := by
  obtain ⟨t, rfl⟩ := ha.int_inv; obtain ⟨u, rfl⟩ := hb.int_inv
  exact PyProof.Rows.sub_int (.valT (.int _ _) R)
theorem mod_snd {a b : Value} {i j : Int} (R : Rel c D O F H s) (ha : VR D a (.int i)) (hb : VR D b (.int j)) (h : 0 < j) : W c A (binaryOp .Mod a b) (Fin c D O F H (.val (.int (i % j)))) s := by
  obtain ⟨t, rfl⟩ := ha.int_inv; obtain ⟨u, rfl⟩ := hb.int_inv
  refine PyProof.Rows.mod_int' (by (first | lia | omega)) ?_
  rw [Int.fmod_eq_emod_of_nonneg _ (by (first | lia | omega))]
  exact .valT (.int _ _) R
theorem fdiv_snd {a b : Value} {i j : Int} (R : Rel c D O F H s) (ha : VR D a (.int i)) (hb : VR D b (.int j)) (h : 0 < j) (hs' : small j = true) : W c A (binaryOp .FloorDiv a b) (Fin c D O F H (.val (.int (i / j)))) s := by
  obtain ⟨t, rfl⟩ := ha.int_inv; obtain ⟨u, rfl⟩ := hb.int_inv
  refine PyProof.Rows.floordiv_int (by (first | lia | omega)) ?_ (.inl ?_)
  · rw [Int.fdiv_eq_ediv_of_nonneg _ (by (first | lia | omega))]
    exact .valT (.int _ _) R
  · have h' : j.natAbs < 1000000000000000000 := of_decide_eq_true hs'
    have h2 : j.natAbs.log2 < 80 := (Nat.log2_lt (by (first | lia | omega))).mpr (Nat.lt_trans h' (by decide))
    exact PyProof.noPylong_of_log2 (by (first | lia | omega))
theorem mul_snd_int {a b : Value} {i j : Int} (R : Rel c D O F H s) (ha : VR D a (.int i)) (hb : VR D b (.int j)) (hs : small i = true) (hs' : small j = true) : W c A (binaryOp .Mult a b) (Fin c D O F H (.val (.int (i * j)))) s := by
  obtain ⟨t, rfl⟩ := ha.int_inv; obtain ⟨u, rfl⟩ := hb.int_inv
  exact PyProof.Rows.mul_int (.valT (.int _ _) R) (IntMulOk.of_bits (small_bits hs) (small_bits hs'))
theorem neg_snd {a : Value} {i : Int} (R : Rel c D O F H s) (ha : VR D a (.int i)) : W c A (unaryOp .USub a) (Fin c D O F H (.val (.int (-i)))) s := by
  obtain ⟨t, rfl⟩ := ha.int_inv
  exact PyProof.Rows.neg_int (.valT (.int _ _) R)
theorem not_snd {a : Value} {b : Bool} (R : Rel c D O F H s) (ha : VR D a (.bool b)) : W c A (unaryOp .Not a) (Fin c D O F H (.val (.bool (!b)))) s := by
  obtain rfl := ha.bool_inv
  exact PyProof.Rows.not_of (wpAny_truthy_bool (.val (.bool _) R))
end
end Mini

end
section
set_option autoImplicit false
set_option maxRecDepth 100000
namespace Mini
open PySem

theorem mapO_cons {α β : Type} {f : α → Option β} {a : α} {r : List α} {l : List β} (h : mapO f (a :: r) = some l) : ∃ b t, f a = some b ∧ mapO f r = some t ∧ l = b :: t := by
  unfold mapO at h
  split at h
  · rename_i b t e1 e2; cases h; exact ⟨b, t, e1, e2, rfl⟩
  · cases h
section
variable {c : Cx} {A : Around} {D O : OM} {F : FM} {H : MH} {s : Shared}

mutual
theorem depth_le_all {k : Nat} : ∀ {ds : List PyData}, (∀ d ∈ ds, d.depth ≤ k) → PyData.depthAll ds ≤ k
  | [], _ => by simp [PyData.depthAll]
  | d :: r, h => by
    have h1 := h d (.head _)
    have h2 := depth_le_all (ds := r) fun x hx => h x (.tail _ hx)
    simp only [PyData.depthAll]; (first | lia | omega)
end

theorem reads_of : ∀ (k : Nat) {v : V} {cv : Value} {d : PyData}, Rel c D O F H s → VR D cv v → toD k H v = some d → (∃ as, Reads s.heap cv d as) ∧ d.canLay0 = true ∧ d.depth ≤ k := by
  intro k
  have many : ∀ (k : Nat), (∀ {v : V} {cv : Value} {d : PyData}, Rel c D O F H s → VR D cv v → toD k H v = some d → (∃ as, Reads s.heap cv d as) ∧ d.canLay0 = true ∧ d.depth ≤ k) →
      ∀ (vs : List V) (cs : List Value) (ds : List PyData), Rel c D O F H s → VRs D cs vs → mapO (toD k H) vs = some ds → (∃ as, ReadsAll s.heap cs ds as) ∧ PyData.canLayAll0 ds = true ∧ PyData.depthAll ds ≤ k := by
    intro k ih vs
    induction vs with
    | nil =>
      intro cs ds R h e
      cases e; obtain rfl := h.nil_inv
      exact ⟨⟨_, .nil⟩, by simp [PyData.canLayAll0], by simp [PyData.depthAll]⟩
    | cons v vs ihv =>
      intro cs ds R h e
      obtain ⟨d, t, e1, e2, rfl⟩ := mapO_cons e
      obtain ⟨x, xs, rfl, h1, h2⟩ := h.cons_inv
      obtain ⟨⟨as, r1⟩, c1, p1⟩ := ih R h1 e1
      obtain ⟨⟨bs, r2⟩, c2, p2⟩ := ihv xs t R h2 e2
      refine ⟨⟨_, .cons r1 r2⟩, by simp [PyData.canLayAll0, c1, c2], ?_⟩
      simp only [PyData.depthAll]; (first | lia | omega)
  induction k with
  | zero =>
    intro v cv d R h e
    cases v <;> simp only [toD] at e <;> (try (cases e; done))
    case none => cases e; obtain rfl := h.none_inv; exact ⟨⟨_, .none⟩, by simp [PyData.canLay0], by simp [PyData.depth]⟩
    case bool b => cases e; obtain rfl := h.bool_inv; exact ⟨⟨_, .bool b⟩, by simp [PyData.canLay0], by simp [PyData.depth]⟩
    case int b => cases e; obtain ⟨t, rfl⟩ := h.int_inv; exact ⟨⟨_, .int b t⟩, by simp [PyData.canLay0], by simp [PyData.depth]⟩
    case str b =>
      split at e
      · rename_i q; cases e; obtain ⟨t, rfl⟩ := h.str_inv; exact ⟨⟨_, .str b t⟩, by simpa [PyData.canLay0] using q, by simp [PyData.depth]⟩
      · cases e
  | succ k ih =>
    intro v cv d R h e
    cases v <;> simp only [toD] at e <;> (try (cases e; done))
    case none => cases e; obtain rfl := h.none_inv; exact ⟨⟨_, .none⟩, by simp [PyData.canLay0], by simp [PyData.depth]⟩
    case bool b => cases e; obtain rfl := h.bool_inv; exact ⟨⟨_, .bool b⟩, by simp [PyData.canLay0], by simp [PyData.depth]⟩
    case int b => cases e; obtain ⟨t, rfl⟩ := h.int_inv; exact ⟨⟨_, .int b t⟩, by simp [PyData.canLay0], by simp [PyData.depth]⟩
    case str b =>
      split at e
      · rename_i q; cases e; obtain ⟨t, rfl⟩ := h.str_inv; exact ⟨⟨_, .str b t⟩, by simpa [PyData.canLay0] using q, by simp [PyData.depth]⟩
      · cases e
    case tup vs =>
      obtain ⟨ds, e1, rfl⟩ := Option.map_eq_some_iff.mp e
      obtain ⟨a, cs, n, rfl, ea, hv, _⟩ := h.tup_inv
      obtain ⟨⟨as, r⟩, c1, p1⟩ := many k ih _ _ _ R hv e1
      exact ⟨⟨_, .tuple (R.dat _ _ ea) rfl rfl (by simpa using r)⟩, by simpa [PyData.canLay0] using c1, by simp only [PyData.depth]; (first | lia | omega)⟩
    case fl vs =>
      obtain ⟨ds, e1, rfl⟩ := Option.map_eq_some_iff.mp e
      obtain ⟨a, cs, n, rfl, ea, hv, _⟩ := h.fl_inv
      obtain ⟨⟨as, r⟩, c1, p1⟩ := many k ih _ _ _ R hv e1
      exact ⟨⟨_, .list (R.dat _ _ ea) rfl rfl (by simpa using r)⟩, by simpa [PyData.canLay0] using c1, by simp only [PyData.depth]; (first | lia | omega)⟩
    case ref a =>
      split at e
      · rename_i vs ea
        obtain ⟨ds, e1, rfl⟩ := Option.map_eq_some_iff.mp e
        obtain rfl := h.ref_inv
        obtain ⟨cs, n, hv, g, _⟩ := R.listAt ea
        obtain ⟨⟨as, r⟩, c1, p1⟩ := many k ih _ _ _ R hv e1
        exact ⟨⟨_, .list g rfl rfl (by simpa using r)⟩, by simpa [PyData.canLay0] using c1, by simp only [PyData.depth]; (first | lia | omega)⟩
      · cases e

theorem readsAll_of (k : Nat) (R : Rel c D O F H s) : ∀ (vs : List V) (cs : List Value) (ds : List PyData), VRs D cs vs → mapO (toD k H) vs = some ds → (∃ as, ReadsAll s.heap cs ds as) ∧ PyData.canLayAll0 ds = true ∧ PyData.depthAll ds ≤ k
  | [], cs, ds, h, e => by cases e; obtain rfl := h.nil_inv; exact ⟨⟨_, .nil⟩, by simp [PyData.canLayAll0], by simp [PyData.depthAll]⟩
  | v :: vs, cs, ds, h, e => by
    obtain ⟨d, t, e1, e2, rfl⟩ := mapO_cons e
    obtain ⟨x, xs, rfl, h1, h2⟩ := h.cons_inv
    obtain ⟨⟨as, r1⟩, c1, p1⟩ := reads_of k R h1 e1
    obtain ⟨⟨bs, r2⟩, c2, p2⟩ := readsAll_of k R vs xs t h2 e2
    refine ⟨⟨_, .cons r1 r2⟩, by simp [PyData.canLayAll0, c1, c2], ?_⟩
    simp only [PyData.depthAll]; (first | lia | omega)

theorem shaped_of {d : PyData} (h : d.canLay0 = true) (h' : d.depth ≤ lineD) : SeqAt.shaped d = true := by
  unfold SeqAt.shaped; rw [h]; simp; unfold lineD at h'; (first | lia | omega)

theorem eqOp_inv {a b : V} {r : Bool} (h : eqOp H a b = some r) : ∃ x y, toD lineD H a = some x ∧ toD lineD H b = some y ∧ r = PyData.eqv x y := by
  unfold eqOp at h; split at h
  · rename_i x y e1 e2; cases h; exact ⟨x, y, e1, e2, rfl⟩
  · cases h

theorem eq_snd {a b : Value} {va vb : V} {r : Bool} (R : Rel c D O F H s) (M : Room A) (ha : VR D a va) (hb : VR D b vb) (h : eqOp H va vb = some r) : W c A (compareOp .Eq a b) (Fin c D O F H (.val (.bool r))) s := by
  obtain ⟨x, y, e1, e2, rfl⟩ := eqOp_inv h
  obtain ⟨⟨as, r1⟩, c1, p1⟩ := reads_of _ R ha e1
  obtain ⟨⟨bs, r2⟩, c2, p2⟩ := reads_of _ R hb e2
  exact PyProof.Rows.eq_dataH r1 r2 (shaped_of c1 p1) (shaped_of c2 p2) (by have := M.u; (first | lia | omega)) (.val (.bool _) R)
theorem ne_snd {a b : Value} {va vb : V} {r : Bool} (R : Rel c D O F H s) (M : Room A) (ha : VR D a va) (hb : VR D b vb) (h : eqOp H va vb = some r) : W c A (compareOp .NotEq a b) (Fin c D O F H (.val (.bool (!r)))) s := by
  obtain ⟨x, y, e1, e2, rfl⟩ := eqOp_inv h
  obtain ⟨⟨as, r1⟩, c1, p1⟩ := reads_of _ R ha e1
  obtain ⟨⟨bs, r2⟩, c2, p2⟩ := reads_of _ R hb e2
  exact PyProof.Rows.ne_dataH r1 r2 (shaped_of c1 p1) (shaped_of c2 p2) (by have := M.u; (first | lia | omega)) (.val (.bool _) R)
theorem lt_snd {a b : Value} {i j : Int} (R : Rel c D O F H s) (ha : VR D a (.int i)) (hb : VR D b (.int j)) : W c A (compareOp .Lt a b) (Fin c D O F H (.val (.bool (decide (i < j))))) s := by
  obtain ⟨t, rfl⟩ := ha.int_inv; obtain ⟨u, rfl⟩ := hb.int_inv
  exact PyProof.Rows.lt_int (.val (.bool _) R)
theorem le_snd {a b : Value} {i j : Int} (R : Rel c D O F H s) (ha : VR D a (.int i)) (hb : VR D b (.int j)) : W c A (compareOp .LtE a b) (Fin c D O F H (.val (.bool (decide (i ≤ j))))) s := by
  obtain ⟨t, rfl⟩ := ha.int_inv; obtain ⟨u, rfl⟩ := hb.int_inv
  exact PyProof.Rows.le_int (.val (.bool _) R)
theorem gt_snd {a b : Value} {i j : Int} (R : Rel c D O F H s) (ha : VR D a (.int i)) (hb : VR D b (.int j)) : W c A (compareOp .Gt a b) (Fin c D O F H (.val (.bool (decide (j < i))))) s := by
  obtain ⟨t, rfl⟩ := ha.int_inv; obtain ⟨u, rfl⟩ := hb.int_inv
  exact PyProof.Rows.gt_int (.val (.bool _) R)
theorem ge_snd {a b : Value} {i j : Int} (R : Rel c D O F H s) (ha : VR D a (.int i)) (hb : VR D b (.int j)) : W c A (compareOp .GtE a b) (Fin c D O F H (.val (.bool (decide (j ≤ i))))) s := by
  obtain ⟨t, rfl⟩ := ha.int_inv; obtain ⟨u, rfl⟩ := hb.int_inv
  exact PyProof.Rows.ge_int (.val (.bool _) R)

theorem isSame_none {cv : Value} {v : V} (h : VR D cv v) : isSame cv .none = pure (isN v) := by
  cases h <;> rfl
theorem isNone_snd {a : Value} {va : V} (R : Rel c D O F H s) (ha : VR D a va) : W c A (compareOp .Is a .none) (Fin c D O F H (.val (.bool (isN va)))) s := by
  show wpAny _ _ (do return Value.bool (← isSame a .none)) _ _ _
  rw [isSame_none ha]
  exact wpAny_bind (wpAny_pure (wpAny_pure (.val (.bool _) R)))
theorem isNotNone_snd {a : Value} {va : V} (R : Rel c D O F H s) (ha : VR D a va) : W c A (compareOp .IsNot a .none) (Fin c D O F H (.val (.bool (!isN va)))) s := by
  show wpAny _ _ (do return Value.bool (!(← isSame a .none))) _ _ _
  rw [isSame_none ha]
  exact wpAny_bind (wpAny_pure (wpAny_pure (.val (.bool _) R)))

theorem in_list_snd {a : Value} {l : Addr} {vx : V} {d : PyData} {ds : List PyData} {cs : List Value} {vs : List V} {n : Nat} (R : Rel c D O F H s) (M : Room A) (ha : VR D a vx) (g : s.heap.get? l = some (listObj cs n)) (hv : VRs D cs vs)
    (e1 : toD lineD H vx = some d) (e2 : mapO (toD lineD H) vs = some ds) : W c A (compareOp .In a (.ref l)) (Fin c D O F H (.val (.bool (ds.any fun y => PyData.eqv y d)))) s ∧
      W c A (compareOp .NotIn a (.ref l)) (Fin c D O F H (.val (.bool (!ds.any fun y => PyData.eqv y d)))) s := by
  obtain ⟨⟨as, r1⟩, c1, p1⟩ := reads_of _ R ha e1
  obtain ⟨⟨bs, r2⟩, c2, p2⟩ := readsAll_of _ R _ _ _ hv e2
  have hu : A.units + 1 + min (PyData.depthAll ds) d.depth < cLine := by have := M.u; unfold lineD at p1; (first | lia | omega)
  exact ⟨SeqAt.in_list_reads (.list g rfl rfl (by simpa using r2)) r1 c2 c1 hu (.val (.bool _) R), SeqAt.notIn_list_reads (.list g rfl rfl (by simpa using r2)) r1 c2 c1 hu (.val (.bool _) R)⟩
end
end Mini

end
section
set_option autoImplicit false
set_option maxRecDepth 100000
namespace Mini
open PySem

section
variable {c : Cx} {A : Around} {D O : OM} {F : FM} {H : MH} {s : Shared}

theorem pyIdx_eq (n : Nat) (i : Int) : pyIdx n i = seqIndex? i n := by
  unfold pyIdx seqIndex?
  dsimp only
  by_cases h : 0 ≤ i
  · have e : (if i < 0 then i + (n : Int) else i) = i := if_neg (by (first | lia | omega))
    rw [if_pos h, e]
    by_cases h2 : i < n
    · rw [if_pos h2, if_pos (by simp [h, h2])]
    · rw [if_neg h2, if_neg (by simp [h2])]
  · have e : (if i < 0 then i + (n : Int) else i) = i + n := if_pos (by (first | lia | omega))
    rw [if_neg h, e]
    by_cases h2 : -(n : Int) ≤ i
    · rw [if_pos h2, if_pos (by simp only [Bool.and_eq_true, decide_eq_true_eq]; (first | lia | omega))]
      congr 2; (first | lia | omega)
    · rw [if_neg h2, if_neg (by simp only [Bool.and_eq_true, decide_eq_true_eq]; (first | lia | omega))]
theorem pyIdx_bounds {n : Nat} {i : Int} {j : Nat} (h : pyIdx n i = some j) : -(n : Int) ≤ i ∧ i < n ∧ j < n := by
  unfold pyIdx at h
  split at h
  · split at h
    · cases h; (first | lia | omega)
    · cases h
  · split at h
    · cases h; (first | lia | omega)
    · cases h

theorem getItem_list_snd {l : Addr} {cs : List Value} {n : Nat} {k : Int} {t : Tok} {j : Nat} {x : Value} {Q : Value → Shared → Prop} (g : s.heap.get? l = some (listObj cs n)) (hl : cs.length ≤ lim)
    (hj : pyIdx cs.length k = some j) (hx : cs[j]? = some x) (h : Q x s) : W c A (getItem (.ref l) (.int k t)) Q s := by
  have hb := pyIdx_bounds hj
  have hL : s.heap.IsList l cs.toArray := ⟨_, g, rfl, n, rfl⟩
  unfold lim at hl
  unfold pyIdx at hj
  by_cases h0 : 0 ≤ k
  · rw [if_pos h0, if_pos hb.2.1] at hj
    cases hj
    exact wpAny_getItem_list hL h0 (by (first | lia | omega)) (by simpa using hx) h
  · rw [if_neg h0, if_pos hb.1] at hj
    cases hj
    refine wpAny_getItem_list_neg hL (by (first | lia | omega)) (by simpa using hb.1) (by (first | lia | omega)) ?_ h
    have e : (k + (cs.toArray.size : Int)) = ((cs.length : Int) + k) := by simp [Int.add_comm]
    rw [e]; simpa using hx

theorem tail_snd {value slice : Expr} {o i : Value} {T id : String} {Q : Value → Shared → Prop} (hT : s.TypeIs o T) (hl : typeLookup (.type T) "__getitem__" = pure (some (.builtin id)))
    (hg : W c A (getItem o i) Q s) (hs : ∀ l u p, slice ≠ .Slice l u none p) : W c A (PyProof.Rows.subscriptTail value slice o i) Q s := by
  refine PyProof.Rows.tail_any (ops := [o, i]) hT hl hg ?_
  unfold subscripted
  split
  · exact absurd rfl (hs _ _ _)
  · rename_i q; cases q
  · rfl

theorem idx_seq_snd {value slice : Expr} {o i : Value} {vo vi r : V} (R : Rel c D O F H s) (ho : VR D o vo) (hi : VR D i vi) (h : idxOp H vo vi = some r)
    (hnd : ∀ a kvs, vo = .ref a → H a ≠ some (.dict kvs)) (hs : ∀ l u p, slice ≠ .Slice l u none p) :
    W c A (PyProof.Rows.subscriptTail value slice o i) (Fin c D O F H (.val r)) s := by
  cases vo <;> (try (cases vi <;> cases h; done))
  case ref a =>
    obtain rfl := ho.ref_inv
    simp only [idxOp] at h
    split at h
    · rename_i vs k e
      obtain ⟨j, e1, e2⟩ := Option.bind_eq_some_iff.mp h
      obtain ⟨cs, n, v1, g, hl⟩ := R.listAt e
      obtain ⟨t, rfl⟩ := hi.int_inv
      obtain ⟨x, hx, hv⟩ := v1.get? e2
      exact tail_snd (T := "list") ⟨_, g, rfl⟩ slot_list_getitem.lookup (getItem_list_snd g (by rw [v1.1]; exact hl) (by rw [v1.1]; exact e1) hx (.val hv R)) hs
    · rename_i kvs k e; exact absurd e (hnd _ _ rfl)
    · cases h
  case tup vs =>
    obtain ⟨a, cs, n, rfl, e, v1, hl⟩ := ho.tup_inv
    cases vi <;> (try (cases h; done))
    case int k =>
      simp only [idxOp] at h
      obtain ⟨j, e1, e2⟩ := Option.bind_eq_some_iff.mp h
      obtain ⟨t, rfl⟩ := hi.int_inv
      obtain ⟨x, hx, hv⟩ := v1.get? e2
      have hb := pyIdx_bounds e1
      unfold lim at hl
      have g := R.dat _ _ e
      exact tail_snd (T := "tuple") ⟨_, g, rfl⟩ PySem.F.slot_tuple_getitem.lookup (P.getItem_tuple g (by (first | lia | omega)) (by (first | lia | omega)) (by rw [← pyIdx_eq, List.size_toArray, v1.1]; exact e1) (by simpa using hx) (.val hv R)) hs
  case fl vs =>
    obtain ⟨a, cs, n, rfl, e, v1, hl⟩ := ho.fl_inv
    cases vi <;> (try (cases h; done))
    case int k =>
      simp only [idxOp] at h
      obtain ⟨j, e1, e2⟩ := Option.bind_eq_some_iff.mp h
      obtain ⟨t, rfl⟩ := hi.int_inv
      obtain ⟨x, hx, hv⟩ := v1.get? e2
      exact tail_snd (T := "list") ⟨_, R.dat _ _ e, rfl⟩ slot_list_getitem.lookup (getItem_list_snd (R.dat _ _ e) (by rw [v1.1]; exact hl) (by rw [v1.1]; exact e1) hx (.val hv R)) hs
  case str x =>
    have hl := ho.str_len
    obtain ⟨t, rfl⟩ := ho.str_inv
    cases vi <;> (try (cases h; done))
    case int k =>
      simp only [idxOp] at h
      obtain ⟨j, e1, e2⟩ := Option.bind_eq_some_iff.mp h
      obtain ⟨ch, e3, rfl⟩ := Option.map_eq_some_iff.mp e2
      obtain ⟨u, rfl⟩ := hi.int_inv
      have hb := pyIdx_bounds e1
      unfold lim at hl
      refine tail_snd (T := "str") (typeIs_str s x t) PySem.F.slot_str_getitem.lookup (P.getItem_str (c := ch) ?_ ?_ (.valT (.str _ _ (by show 1 ≤ lim; decide)) R)) hs
      · simp only [Bool.or_eq_false_iff, decide_eq_false_iff_not]; (first | lia | omega)
      · rw [← pyIdx_eq, e1]; exact e3

theorem len_snd {a : Value} {va : V} {r : Res} (R : Rel c D O F H s) (ha : VR D a va) (h : primOp .len H [va] = some r) (hnd : ∀ x kvs, va = .ref x → H x ≠ some (.dict kvs)) : W c A (call (.builtin "len") [a]) (Fin c D O F H r) s := by
  cases va <;> (try (cases h; done))
  case str x =>
    cases h
    have hl := ha.str_len
    obtain ⟨t, rfl⟩ := ha.str_inv
    unfold lim at hl
    exact P.len_str (by (first | lia | omega)) (.valT (.int _ _) R)
  case tup vs =>
    cases h
    obtain ⟨p, cs, n, rfl, e, v1, hl⟩ := ha.tup_inv
    unfold lim at hl
    refine P.len_tuple (R.dat _ _ e) (by rw [List.size_toArray, v1.1]; (first | lia | omega)) ?_
    rw [List.size_toArray, v1.1]
    exact .valT (.int _ _) R
  case fl vs =>
    cases h
    obtain ⟨p, cs, n, rfl, e, v1, hl⟩ := ha.fl_inv
    unfold lim at hl
    refine PyProof.Rows.len_list ⟨_, R.dat _ _ e, rfl, n, rfl⟩ (by rw [List.size_toArray, v1.1]; (first | lia | omega)) ?_
    rw [List.size_toArray, v1.1]
    exact .valT (.int _ _) R
  case ref x =>
    obtain rfl := ha.ref_inv
    have h' : (match H x with
      | some (.list vs) => some (Res.val (.int vs.length))
      | some (.dict kvs) => some (Res.val (.int kvs.length))
      | none => none) = some r := h
    split at h'
    · rename_i vs e
      cases h'
      obtain ⟨cs, n, v1, g, hl⟩ := R.listAt e
      unfold lim at hl
      refine PyProof.Rows.len_list ⟨_, g, rfl, n, rfl⟩ (by rw [List.size_toArray, v1.1]; (first | lia | omega)) ?_
      rw [List.size_toArray, v1.1]
      exact .valT (.int _ _) R
    · rename_i kvs e; exact absurd e (hnd _ _ rfl)
    · cases h'

theorem isi_snd {a : Value} {va : V} {t : Ty} {r : Bool} (R : Rel c D O F H s) (ha : VR D a va) (h : isiOf H t va = some r) : W c A (call (.builtin "isinstance") [a, .type t.name]) (Fin c D O F H (.val (.bool r))) s := by
  cases va <;> simp only [isiOf] at h <;> (try (cases h; done))
  case none => cases h; obtain rfl := ha.none_inv; cases t <;> first
    | exact IsiPair.NoneType_int (.valT (.bool _) R) | exact IsiPair.NoneType_bool (.valT (.bool _) R) | exact IsiPair.NoneType_list (.valT (.bool _) R) | exact IsiPair.NoneType_tuple (.valT (.bool _) R) | exact IsiPair.NoneType_str (.valT (.bool _) R)
  case bool b => cases h; obtain rfl := ha.bool_inv; cases t <;> first
    | exact IsiPair.bool_int (.val (.bool _) R) | exact IsiPair.bool_bool (.val (.bool _) R) | exact IsiPair.bool_list (.valT (.bool _) R) | exact IsiPair.bool_tuple (.valT (.bool _) R) | exact IsiPair.bool_str (.valT (.bool _) R)
  case int b => cases h; obtain ⟨u, rfl⟩ := ha.int_inv; cases t <;> first
    | exact IsiPair.int_int (.val (.bool _) R) | exact IsiPair.int_bool (.valT (.bool _) R) | exact IsiPair.int_list (.valT (.bool _) R) | exact IsiPair.int_tuple (.valT (.bool _) R) | exact IsiPair.int_str (.valT (.bool _) R)
  case str b => cases h; obtain ⟨u, rfl⟩ := ha.str_inv; cases t <;> first
    | exact IsiPair.str_int (.valT (.bool _) R) | exact IsiPair.str_bool (.valT (.bool _) R) | exact IsiPair.str_list (.valT (.bool _) R) | exact IsiPair.str_tuple (.valT (.bool _) R) | exact IsiPair.str_str (.val (.bool _) R)
  case tup vs => cases h; obtain ⟨p, cs, n, rfl, e, _, _⟩ := ha.tup_inv; have g := R.dat _ _ e; cases t <;> first
    | exact IsiPair.tuple_int g rfl (.valT (.bool _) R) | exact IsiPair.tuple_bool g rfl (.valT (.bool _) R) | exact IsiPair.tuple_list g rfl (.valT (.bool _) R) | exact IsiPair.tuple_tuple g rfl (.val (.bool _) R) | exact IsiPair.tuple_str g rfl (.valT (.bool _) R)
  case fl vs => cases h; obtain ⟨p, cs, n, rfl, e, _, _⟩ := ha.fl_inv; have g := R.dat _ _ e; cases t <;> first
    | exact IsiPair.list_int g rfl (.valT (.bool _) R) | exact IsiPair.list_bool g rfl (.valT (.bool _) R) | exact IsiPair.list_list g rfl (.val (.bool _) R) | exact IsiPair.list_tuple g rfl (.valT (.bool _) R) | exact IsiPair.list_str g rfl (.valT (.bool _) R)
  case ref x =>
    obtain rfl := ha.ref_inv
    split at h
    · rename_i vs e; cases h
      obtain ⟨cs, n, v1, g, hl⟩ := R.listAt e
      cases t <;> first
        | exact IsiPair.list_int g rfl (.valT (.bool _) R) | exact IsiPair.list_bool g rfl (.valT (.bool _) R) | exact IsiPair.list_list g rfl (.val (.bool _) R) | exact IsiPair.list_tuple g rfl (.valT (.bool _) R) | exact IsiPair.list_str g rfl (.valT (.bool _) R)
    · cases h

theorem toInt_snd {a : Value} {b : Bool} (R : Rel c D O F H s) (ha : VR D a (.bool b)) : W c A (call (.type "int") [a]) (Fin c D O F H (.val (.int (if b then 1 else 0)))) s := by
  obtain rfl := ha.bool_inv
  exact call_int_bool (.valT (.int _ _) R)
end
end Mini

end
section
set_option autoImplicit false
set_option linter.unusedVariables false
set_option linter.unusedSectionVars false
set_option maxRecDepth 100000
namespace Mini
open PySem

section
variable {K : Type} [DecidableEq K] {D : OM} {enc : K → V}

theorem KV.nil : KV D enc [] [] := ⟨rfl, fun i h => nomatch h⟩
theorem KV.cons {x : K × Value} {p : V × V} {xs : List (K × Value)} {kvs : List (V × V)} (h : p.1 = enc x.1) (h' : VR D x.2 p.2) (t : KV D enc xs kvs) : KV D enc (x :: xs) (p :: kvs) :=
  ⟨by simp [t.1], fun i a b => by cases i with
    | zero => exact ⟨h, h'⟩
    | succ i => exact t.2 i (by simpa using a) (by simpa using b)⟩
theorem KV.cons_inv {x : K × Value} {p : V × V} {xs : List (K × Value)} {kvs : List (V × V)} (t : KV D enc (x :: xs) (p :: kvs)) : p.1 = enc x.1 ∧ VR D x.2 p.2 ∧ KV D enc xs kvs :=
  ⟨(t.2 0 (by simp) (by simp)).1, (t.2 0 (by simp) (by simp)).2, by simpa using t.1, fun i a b => t.2 (i + 1) (by simpa using a) (by simpa using b)⟩
theorem KV.find (inj : ∀ a b, enc a = enc b → a = b) {k : K} : ∀ {xs : List (K × Value)} {kvs : List (V × V)}, KV D enc xs kvs →
    (∀ v, dfind kvs (enc k) = some v → ∃ cv, valueAt xs k = some cv ∧ VR D cv v) ∧ (dfind kvs (enc k) = none → valueAt xs k = none)
  | [], [], _ => ⟨fun v h => by simp [dfind] at h, fun _ => rfl⟩
  | [], _ :: _, h => by have := h.1; simp at this
  | _ :: _, [], h => by have := h.1; simp at this
  | x :: xs, p :: kvs, h => by
    obtain ⟨h1, h2, h3⟩ := h.cons_inv
    have ih := KV.find inj (k := k) h3
    by_cases e : x.1 = k
    · have e' : p.1 = enc k := by rw [h1, e]
      refine ⟨fun v hv => ?_, fun hv => ?_⟩
      · simp [dfind, e'] at hv
        subst hv
        exact ⟨x.2, by simp [valueAt, e], h2⟩
      · simp [dfind, e'] at hv
    · have e' : p.1 ≠ enc k := fun q => e (inj _ _ (h1.symm.trans q))
      refine ⟨fun v hv => ?_, fun hv => ?_⟩
      · have : dfind kvs (enc k) = some v := by simpa [dfind, List.find?_cons, e'] using hv
        obtain ⟨cv, q1, q2⟩ := ih.1 v this
        exact ⟨cv, by simpa [valueAt, List.find?_cons, e] using q1, q2⟩
      · have : dfind kvs (enc k) = none := by simpa [dfind, List.find?_cons, e'] using hv
        simpa [valueAt, List.find?_cons, e] using ih.2 this
theorem stored_cons {x : K × Value} {xs : List (K × Value)} {k : K} {cv : Value} (hn : ((x :: xs).map (·.1)).Nodup) : stored (x :: xs) k cv = if x.1 = k then (x.1, cv) :: xs else x :: stored xs k cv := by
  rw [List.map_cons, List.nodup_cons] at hn
  by_cases e : x.1 = k
  · rw [if_pos e]
    unfold stored
    rw [if_pos (by simp [e]), List.map_cons, if_pos e, map_store_of_not_mem xs k cv (e ▸ hn.1)]
  · rw [if_neg e]
    unfold stored
    by_cases h : xs.any (fun kv => kv.1 = k) = true
    · rw [if_pos (by simp [h]), if_pos h, List.map_cons, if_neg e]
    · rw [if_neg (by simp [h, e]), if_neg h]; rfl
theorem KV.put (inj : ∀ a b, enc a = enc b → a = b) {k : K} {cv : Value} {v : V} (hv : VR D cv v) : ∀ {xs : List (K × Value)} {kvs : List (V × V)}, (xs.map (·.1)).Nodup → KV D enc xs kvs →
    KV D enc (stored xs k cv) (dput kvs (enc k) v)
  | [], [], _, _ => .cons rfl hv .nil
  | [], _ :: _, _, h => by have := h.1; simp at this
  | _ :: _, [], _, h => by have := h.1; simp at this
  | x :: xs, (k', v') :: kvs, hn, h => by
    obtain ⟨h1, h2, h3⟩ := h.cons_inv
    rw [stored_cons hn]
    have h1' : k' = enc x.1 := h1
    by_cases e : x.1 = k
    · have e' : k' = enc k := by rw [h1', e]
      rw [if_pos e, dput, if_pos e']
      exact .cons h1 hv h3
    · have e' : k' ≠ enc k := fun q => e (inj _ _ (h1'.symm.trans q))
      rw [if_neg e, dput, if_neg e']
      exact .cons h1 h2 (KV.put inj hv (by rw [List.map_cons, List.nodup_cons] at hn; exact hn.2) h3)
theorem stored_nodup {xs : List (K × Value)} {k : K} {cv : Value} (hn : (xs.map (·.1)).Nodup) : ((stored xs k cv).map (·.1)).Nodup := by
  unfold stored
  split
  · rename_i h
    have e : (xs.map fun kv => if kv.1 = k then (kv.1, cv) else kv).map (·.1) = xs.map (·.1) := by
      rw [List.map_map]; apply List.map_congr_left; intro a _; simp only [Function.comp]; split <;> rfl
    rw [e]; exact hn
  · rename_i h
    rw [List.map_append, List.map_cons, List.map_nil, List.nodup_append]
    refine ⟨hn, by simp, ?_⟩
    intro a ha b hb
    simp only [List.mem_singleton] at hb
    subst hb
    intro e
    subst e
    obtain ⟨p, hp, rfl⟩ := List.mem_map.mp ha
    exact h (List.any_eq_true.mpr ⟨p, hp, by simp⟩)
theorem dput_length {k v : V} : ∀ (kvs : List (V × V)), (dput kvs k v).length ≤ kvs.length + 1
  | [] => by simp [dput]
  | (a, b) :: r => by
    unfold dput
    split
    · simp
    · have := dput_length (k := k) (v := v) r; simp; (first | lia | omega)
end

theorem encT_inj : ∀ a b : List Int, encT a = encT b → a = b := fun a b h => by
  unfold encT at h
  injection h with h
  exact List.map_inj_right (fun x y e => by injection e) |>.mp h
theorem int_inj : ∀ a b : Int, V.int a = V.int b → a = b := fun a b h => by injection h
theorem str_inj : ∀ a b : Str, V.str a = V.str b → a = b := fun a b h => by injection h

theorem KV.kk {K : Type} {D : OM} {enc : K → V} {n : Nat} (he : ∀ k, kk (enc k) = n) {xs : List (K × Value)} {kvs : List (V × V)} (h : KV D enc xs kvs) : ∀ p ∈ kvs, Mini.kk p.1 = n := fun p hp => by
  obtain ⟨i, hi, rfl⟩ := List.getElem_of_mem hp
  rw [(h.2 i (by rw [h.1]; exact hi) hi).1, he]
theorem kk_int (i : Int) : kk (.int i) = 0 := rfl
theorem kk_str (i : Str) : kk (.str i) = 3 := rfl
theorem intsAll_map (is : List Int) : intsAll (is.map .int) = true := by simp [intsAll]
theorem kk_encT (is : List Int) : kk (encT is) = 2 := by simp [kk, encT, intsAll_map]
theorem ints_of_all : ∀ {vs : List V}, intsAll vs = true → ∃ is : List Int, vs = is.map .int := by
  intro vs
  induction vs with
  | nil => intro _; exact ⟨[], rfl⟩
  | cons v r ih =>
    intro h
    unfold intsAll at h
    rw [List.all_cons, Bool.and_eq_true] at h
    obtain ⟨is, rfl⟩ := ih h.2
    cases v with
    | int i => exact ⟨i :: is, rfl⟩
    | none | bool | str | tup | fl | ref | exc => exact Bool.noConfusion h.1
theorem pairs_nil {prog : Program} {w : World} {K : Type} [DecidableEq K] {k : KeyKind prog w K} {l : List DictEntry} (h : Pairs k l []) : l = [] := by cases h; rfl

section
variable {c : Cx} {A : Around} {D O : OM} {F : FM} {H : MH} {s : Shared}

theorem itemsAre_of {D : OM} : ∀ {is : List Int} {cs : List Value}, VRs D cs (is.map .int) → ItemsAre (intKind c.prog c.w) is cs
  | [], cs, h => by obtain rfl := VRs.nil_inv h; exact .nil
  | i :: is, cs, h => by
    obtain ⟨x, xs, rfl, h1, h2⟩ := VRs.cons_inv h
    obtain ⟨t, rfl⟩ := h1.int_inv
    exact .cons (intKind_is _ _ _ _) (itemsAre_of h2)
theorem TupInts.key (R : Rel c D O F H s) {is : List Int} {a : Addr} (h : TupInts D is a) : (tupleKind (intKind c.prog c.w)).is s.heap is a := by
  obtain ⟨o, cs, e, ⟨n, rfl⟩, v⟩ := h
  exact ⟨_, _, n, R.dat _ _ e, rfl, rfl, by simpa using itemsAre_of v⟩
theorem tupInts_of {a : Value} {is : List Int} (h : VR D a (encT is)) : ∃ x, a = .ref x ∧ TupInts D is x := by
  obtain ⟨x, cs, n, rfl, e, v, _⟩ := VR.tup_inv h
  exact ⟨x, rfl, _, cs, e, ⟨n, rfl⟩, v⟩

inductive DictAt (c : Cx) (D : OM) (s : Shared) (d : Addr) (kvs : List (V × V)) : Prop
  | int (xs : List (Int × Value)) : s.heap.DictOf (intKind c.prog c.w) d xs → KV D V.int xs kvs → DictAt c D s d kvs
  | str (xs : List (Str × Value)) : s.heap.DictOf (strKind c.prog c.w) d xs → KV D V.str xs kvs → DictAt c D s d kvs
  | tup (xs : List (List Int × Addr × Value)) : s.heap.DictOfH (tupleKind (intKind c.prog c.w)) d xs → (∀ x ∈ xs, TupInts D x.1 x.2.1) → KV D encT (PyProof.Rows.kvsOf xs) kvs → DictAt c D s d kvs
theorem Rel.dictAt (R : Rel c D O F H s) {d : Addr} {kvs : List (V × V)} (e : H d = some (.dict kvs)) : DictAt c D s d kvs ∧ kvs.length ≤ lim := by
  obtain ⟨_, o, ho, k⟩ := R.own _ _ e
  cases k with
  | dict x y z l =>
    refine ⟨?_, l⟩
    cases z with
    | int xs a b n kv => exact .int xs ⟨_, _, _, ho, x, y, a, b, n⟩ kv
    | str xs a b n kv => exact .str xs ⟨_, _, _, ho, x, y, a, b, n⟩ kv
    | tup xs a b n kv => exact .tup xs ⟨_, _, _, ho, x, y, a, fun q hq => (b q hq).key R, n⟩ b kv

theorem KV.nil_of {K : Type} {D : OM} {enc : K → V} {xs : List (K × Value)} (h : KV D enc xs []) : xs = [] := List.eq_nil_of_length_eq_zero h.1
theorem dictOf_nil_any {prog : Program} {w : World} {K K' : Type} [DecidableEq K] [DecidableEq K'] {k : KeyKind prog w K} {k' : KeyKind prog w K'} {h : Heap} {d : Addr} (x : h.DictOf k d []) : h.DictOf k' d [] := by
  obtain ⟨o, es, ep, h1, h2, h3, _, h5, _⟩ := x
  have e : es.toList = [] := pairs_nil h5
  have e' : es = #[] := by rw [← Array.toArray_toList (xs := es), e]
  subst e'
  exact ⟨o, _, ep, h1, h2, h3, fun e he => by simp at he, .nil, by simp⟩
theorem dictOf_nil_H {prog : Program} {w : World} {K K' : Type} [DecidableEq K] [DecidableEq K'] {k : KeyKind prog w K} {k' : HeapKind prog w K'} {h : Heap} {d : Addr} (x : h.DictOf k d []) : h.DictOfH k' d [] := by
  obtain ⟨o, es, ep, h1, h2, h3, _, h5, _⟩ := x
  have e : es.toList = [] := pairs_nil h5
  exact ⟨o, _, ep, h1, h2, h3, by simpa using e, (fun x hx => by cases hx), by simp⟩
theorem dictOfH_nil_any {prog : Program} {w : World} {K K' : Type} [DecidableEq K] [DecidableEq K'] {k : HeapKind prog w K} {k' : KeyKind prog w K'} {h : Heap} {d : Addr} (x : h.DictOfH k d []) : h.DictOf k' d [] := by
  obtain ⟨o, es, ep, h1, h2, h3, h5, _, _⟩ := x
  have e : es.toList = [] := by simpa using h5
  have e' : es = #[] := by rw [← Array.toArray_toList (xs := es), e]
  subst e'
  exact ⟨o, _, ep, h1, h2, h3, fun e he => by simp at he, .nil, by simp⟩

theorem dOK_inv {kvs : List (V × V)} {k : V} (h : dOK kvs k = true) : kk k < 3 ∧ ∀ p ∈ kvs, kk p.1 = kk k := by
  unfold dOK at h
  rw [Bool.and_eq_true, decide_eq_true_eq, List.all_eq_true] at h
  exact ⟨h.1, fun p hp => by simpa using h.2 p hp⟩

inductive DictKey (c : Cx) (D : OM) (s : Shared) (d : Addr) (kvs : List (V × V)) (key : Value) (k : V) : Prop
  | int (xs : List (Int × Value)) (i : Int) : s.heap.DictOf (intKind c.prog c.w) d xs → KV D V.int xs kvs → k = .int i → (intKind c.prog c.w).is i key = true → DictKey c D s d kvs key k
  | tup (xs : List (List Int × Addr × Value)) (is : List Int) (a : Addr) : s.heap.DictOfH (tupleKind (intKind c.prog c.w)) d xs → (∀ x ∈ xs, TupInts D x.1 x.2.1) → KV D encT (PyProof.Rows.kvsOf xs) kvs → k = encT is → key = .ref a → TupInts D is a → DictKey c D s d kvs key k
theorem dictKey_of {d : Addr} {kvs : List (V × V)} {key : Value} {k : V} (X : DictAt c D s d kvs) (hk : VR D key k) (ok : dOK kvs k = true) : DictKey c D s d kvs key k := by
  obtain ⟨h3, hall⟩ := dOK_inv ok
  cases k <;> (try (exact absurd h3 (show ¬ (3 < 3) from Nat.lt_irrefl 3)))
  case int i =>
    have ik : (intKind c.prog c.w).is i key = true := by obtain ⟨t, rfl⟩ := hk.int_inv; exact intKind_is _ _ _ _
    cases X with
    | int xs a b => exact .int xs i a b rfl ik
    | str xs a b =>
      cases kvs with
      | nil => obtain rfl := b.nil_of; exact .int [] i (dictOf_nil_any a) .nil rfl ik
      | cons p r => have := hall p (.head _); rw [b.kk kk_str p (.head _)] at this; cases this
    | tup xs a t b =>
      cases kvs with
      | nil =>
        have e := b.nil_of
        have : xs = [] := by cases xs with | nil => rfl | cons x y => simp [PyProof.Rows.kvsOf] at e
        subst this; exact .int [] i (dictOfH_nil_any a) .nil rfl ik
      | cons p r => have := hall p (.head _); rw [b.kk kk_encT p (.head _)] at this; cases this
  case tup vs =>
    have hi : intsAll vs = true := by
      cases q : intsAll vs with
      | true => rfl
      | false => simp [kk, q] at h3
    obtain ⟨is, rfl⟩ := ints_of_all hi
    obtain ⟨x, rfl, T⟩ := tupInts_of (is := is) hk
    have e2 : kk (V.tup (is.map .int)) = 2 := kk_encT is
    cases X with
    | tup xs a t b => exact .tup xs is x a t b rfl rfl T
    | int xs a b =>
      cases kvs with
      | nil => obtain rfl := b.nil_of; exact .tup [] is x (dictOf_nil_H a) (fun _ q => nomatch q) .nil rfl rfl T
      | cons p r => have := hall p (.head _); rw [b.kk kk_int p (.head _), e2] at this; cases this
    | str xs a b =>
      cases kvs with
      | nil => obtain rfl := b.nil_of; exact .tup [] is x (dictOf_nil_H a) (fun _ q => nomatch q) .nil rfl rfl T
      | cons p r => have := hall p (.head _); rw [b.kk kk_str p (.head _), e2] at this; cases this
end
end Mini

end
section
set_option autoImplicit false
set_option maxRecDepth 100000
namespace Mini
open PySem

section
variable {prog : Program} {w : World} {K : Type} [DecidableEq K] {knd : KeyKind prog w K} {A : Around} {E : Value → Shared → Prop} {s : Shared}
end

section
variable {c : Cx} {A : Around} {D O : OM} {F : FM} {H : MH} {s : Shared}

theorem Rel.notMods (R : Rel c D O F H s) (hm : True) {d : Addr} {ob : Ob} (e : H d = some ob) : (d == sysModules) = false :=
  beq_eq_false_iff_ne.mpr (R.lo d (.inl ⟨_, e⟩))

theorem in_dict_snd {a : Value} {d : Addr} {k : V} {kvs : List (V × V)} (R : Rel c D O F H s) (M : Room A) (hm : True) (ha : VR D a k) (e : H d = some (.dict kvs)) (ok : dOK kvs k = true) :
    W c A (compareOp .In a (.ref d)) (Fin c D O F H (.val (.bool (dfind kvs k).isSome))) s ∧ W c A (compareOp .NotIn a (.ref d)) (Fin c D O F H (.val (.bool (!(dfind kvs k).isSome)))) s := by
  have nm := R.notMods hm e
  obtain ⟨X, hl⟩ := R.dictAt e
  have inI : ∀ {b : Bool} {t : Nat}, Fin c D O F H (.val (.bool b)) (.bool b) { s with toks := t } := .valT (.bool _) R
  have hn : ∀ {b : Bool}, W c A (compareOp .In a (.ref d)) (fun v s' => v = .bool b ∧ ∃ t, s' = { s with toks := t }) s → W c A (compareOp .NotIn a (.ref d)) (Fin c D O F H (.val (.bool (!b)))) s := fun {b} h => by
    have h' : W c A (contains (.ref d) a >>= fun x => pure (Value.bool x)) (fun v s' => v = .bool b ∧ ∃ t, s' = { s with toks := t }) s := h
    show W c A (contains (.ref d) a >>= fun x => pure (Value.bool (!x))) _ s
    refine wpAny_bind (fun Γ p hΓ => ?_)
    have h2 := h' Γ p hΓ
    rw [Sem.wp_bind'] at h2
    refine Sem.wp_mono _ Γ _ (fun x p' s' hx => ?_) (fun _ _ _ y => y) p s h2
    obtain ⟨q1, t, rfl⟩ := hx
    injection q1 with q1; subst q1
    exact wpAny_pure (.valT (.bool _) R)
  have both : ∀ {b : Bool}, W c A (compareOp .In a (.ref d)) (fun v s' => v = .bool b ∧ ∃ t, s' = { s with toks := t }) s →
      W c A (compareOp .In a (.ref d)) (Fin c D O F H (.val (.bool b))) s ∧ W c A (compareOp .NotIn a (.ref d)) (Fin c D O F H (.val (.bool (!b)))) s := fun h =>
    ⟨wpAny_mono h (fun v s' ⟨q, t, q'⟩ => by subst q q'; exact .valT (.bool _) R) fun _ _ x => x, hn h⟩
  refine both ?_
  cases dictKey_of X ha ok with
  | int xs i h1 h2 h3 h4 =>
    subst h3
    refine wpAny_in_of h4 nm h1.mapOf ⟨?_, _, rfl⟩
    congr 1
    cases q : dfind kvs (.int i) with
    | none => rw [(h2.find int_inj).2 q]; rfl
    | some v => obtain ⟨cv, q1, _⟩ := (h2.find int_inj).1 v q; rw [q1]; rfl
  | tup xs is x h1 h2 h3 h4 h5 h6 =>
    subst h4 h5
    refine wpAny_in_heap (tupleKind_room_in1 (by have := M.u; (first | lia | omega))) (h6.key R) nm h1 ⟨?_, _, rfl⟩
    congr 1
    have ev := PyProof.Rows.valueAt_kvsOf xs is
    cases q : dfind kvs (encT is) with
    | none => rw [(h3.find encT_inj).2 q] at ev; cases q2 : atKey xs is with
      | none => rfl
      | some p => rw [q2] at ev; cases ev
    | some v => obtain ⟨cv, q1, _⟩ := (h3.find encT_inj).1 v q; rw [q1] at ev; cases q2 : atKey xs is with
      | none => rw [q2] at ev; cases ev
      | some p => rfl

theorem getItem_dict_snd {a : Value} {d : Addr} {k r : V} {kvs : List (V × V)} (R : Rel c D O F H s) (M : Room A) (ha : VR D a k) (e : H d = some (.dict kvs)) (ok : dOK kvs k = true) (hr : dfind kvs k = some r) :
    W c A (getItem (.ref d) a) (Fin c D O F H (.val r)) s := by
  obtain ⟨X, hl⟩ := R.dictAt e
  cases dictKey_of X ha ok with
  | int xs i h1 h2 h3 h4 =>
    subst h3
    obtain ⟨cv, q1, q2⟩ := (h2.find int_inj).1 _ hr
    exact wpAny_getItem_of h4 h1.mapOf q1 (.valT q2 R)
  | tup xs is x h1 h2 h3 h4 h5 h6 =>
    subst h4 h5
    obtain ⟨cv, q1, q2⟩ := (h3.find encT_inj).1 _ hr
    rw [PyProof.Rows.valueAt_kvsOf] at q1
    obtain ⟨p, q3, rfl⟩ := Option.map_eq_some_iff.mp q1
    exact wpAny_getItem_heap (tupleKind_room_in1 (by have := M.u; (first | lia | omega))) (h6.key R) h1 q3 (.valT q2 R)

theorem idx_dict_snd {value slice : Expr} {a : Value} {d : Addr} {k r : V} {kvs : List (V × V)} (R : Rel c D O F H s) (M : Room A) (ha : VR D a k) (e : H d = some (.dict kvs)) (ok : dOK kvs k = true) (hr : dfind kvs k = some r)
    (hs : ∀ l u p, slice ≠ .Slice l u none p) : W c A (PyProof.Rows.subscriptTail value slice (.ref d) a) (Fin c D O F H (.val r)) s := by
  have hT : s.TypeIs (.ref d) "dict" := by
    obtain ⟨_, o, ho, q⟩ := R.own _ _ e
    cases q with
    | dict x _ _ _ => exact ⟨o, ho, x.1⟩
  exact tail_snd hT slot_dict_getitem.lookup (getItem_dict_snd R M ha e ok hr) hs

theorem DictR.obj {d : Addr} {kvs : List (V × V)} {h' : Heap} (hl : kvs.length ≤ lim) : (∃ xs, h'.DictOf (intKind c.prog c.w) d xs ∧ KV D V.int xs kvs) ∨ (∃ xs, h'.DictOf (strKind c.prog c.w) d xs ∧ KV D V.str xs kvs) ∨
    (∃ xs, h'.DictOfH (tupleKind (intKind c.prog c.w)) d xs ∧ (∀ x ∈ xs, TupInts D x.1 x.2.1) ∧ KV D encT (PyProof.Rows.kvsOf xs) kvs) → ∃ o, h'.get? d = some o ∧ OR c D o (.dict kvs) := by
  rintro (⟨xs, ⟨o, es, ep, h1, h2, h3, h4, h5, h6⟩, kv⟩ | ⟨xs, ⟨o, es, ep, h1, h2, h3, h4, h5, h6⟩, kv⟩ | ⟨xs, ⟨o, es, ep, h1, h2, h3, h4, h5, h6⟩, ht, kv⟩)
  · exact ⟨o, h1, .dict h2 h3 (.int xs h4 h5 h6 kv) hl⟩
  · exact ⟨o, h1, .dict h2 h3 (.str xs h4 h5 h6 kv) hl⟩
  · exact ⟨o, h1, .dict h2 h3 (.tup xs h4 ht h6 kv) hl⟩

theorem setItem_dict_snd {a b : Value} {d : Addr} {k v : V} {kvs : List (V × V)} (R : Rel c D O F H s) (M : Room A) (ha : VR D a k) (hb : VR D b v) (e : H d = some (.dict kvs)) (ok : dOK kvs k = true) (hlt : kvs.length < lim) :
    W c A (setItem (.ref d) a b) (fun _ s' => Rel c D O F (hupd H d (.dict (dput kvs k v))) s') s := by
  obtain ⟨X, hl⟩ := R.dictAt e
  have hl' : (dput kvs k v).length ≤ lim := Nat.le_trans (dput_length kvs) hlt
  have hsz : ∀ {n : Nat}, n = kvs.length → n ≤ sizeLine := fun q => by rw [q, sizeLine_eq]; unfold lim at hl; (first | lia | omega)
  cases dictKey_of X ha ok with
  | int xs i h1 h2 h3 h4 =>
    subst h3
    refine wpAny_setItem_pairs h4 h1 (fun h' hd hs => ?_) (hsz h2.1)
    obtain ⟨o, q1, q2⟩ := DictR.obj (c := c) (D := D) (h' := h') (d := d) hl' (.inl ⟨_, hd, KV.put int_inj hb (let ⟨_, _, _, _, _, _, _, _, n⟩ := h1; n) h2⟩)
    exact R.setH e hs q1 q2
  | tup xs is x h1 h2 h3 h4 h5 h6 =>
    subst h4 h5
    refine wpAny_setItem_heap (tupleKind_room_in1 (by have := M.u; (first | lia | omega))) (h6.key R) h1 (fun h' hd hs => ?_) (hsz (by have := h3.1; simpa [PyProof.Rows.kvsOf] using this))
    have hn : ((PyProof.Rows.kvsOf xs).map (·.1)).Nodup := by
      obtain ⟨_, _, _, _, _, _, _, _, n⟩ := h1
      simpa [PyProof.Rows.kvsOf, List.map_map, Function.comp_def] using n
    obtain ⟨o, q1, q2⟩ := DictR.obj (c := c) (D := D) (h' := h') (d := d) hl' (.inr (.inr ⟨_, hd, fun y hy => by
        rcases PyProof.Rows.mem_storedH hy with ⟨z, hz, e1, e2⟩ | ⟨e1, e2⟩
        · rw [e1, e2]; exact h2 z hz
        · rw [e1, e2]; exact h6, by rw [PyProof.Rows.kvsOf_storedH]; exact KV.put encT_inj hb hn h3⟩))
    exact R.setH e hs q1 q2

theorem meets_len_any (d : Addr) (hd : (d == sysModules) = false) :
    MeetsIn c.prog c.w (Builtin.«dict.__len__» ⟨[.ref d], []⟩) (fun _ R s => ∃ o es ep, s.heap.get? d = some o ∧ o.data = .dict es ep ∧ R (.ok (.ret (.int es.size s.toks))) { s with toks := s.toks + 1 }) :=
  .of_wp fun A R s ⟨o, es, ep, ho, hdat, h⟩ => by
    show wpAny _ _ (dictSize d >>= _) _ _ s
    unfold dictSize
    refine wpAny_bind (wpAny_bind (wpAny_dictEntries ho hdat (wpAny_pure ?_)))
    show wpAny _ _ (Builtin.Dict.pendingCount d >>= _) _ _ s
    refine wpAny_bind (wpAny_pendingCount_other hd ?_)
    refine wpAny_ret_mkInt ?_
    rw [Nat.add_zero]; exact h
theorem len_any {d : Addr} {o : Obj} {es : Array DictEntry} {ep : Nat} {Q : Value → Shared → Prop} (hd : (d == sysModules) = false) (ho : s.heap.get? d = some o) (hc : o.cls = .type "dict") (hdat : o.data = .dict es ep) (hfit : (es.size : Int) < 2 ^ 63)
    (h : Q (.int es.size (s.toks + 1)) { s with toks := s.toks + 1 + 1 }) : W c A (call (.builtin "len") [.ref d]) Q s := by
  refine Calls.call_function_entry kind_len plain_len entry_len (args_len1 _) ?_
  unfold Builtin.«len»
  have hT : s.TypeIs (.ref d) "dict" := ⟨o, ho, hc⟩
  refine wpAny_bind (m := oneArg "len" _) (wpAny_pure ?_)
  refine wpAny_bind (m := callSpecial? (.ref d) (Str.ofString "__len__")) (wpAny_callSpecial?_slot (name := Str.ofString "__len__") hT PySem.F.slot_dict_len
    (call_meetsIn PySem.F.slot_dict_len hT PySem.F.entry_dict_len (PySem.F.args_dict_len_1 _) (meets_len_any d hd) ⟨o, es, ep, ho, hdat, ?_⟩))
  show wpAny _ _ _ _ _ { s with toks := s.toks + 1 }
  refine wpAny_bind (wpAny_holding (wpAny_pure ?_))
  refine wpAny_bind (wpAny_letGo ?_)
  show wpAny _ _ (if ((es.size : Nat) : Int) < 0 then _ else _) _ _ _
  rw [if_neg (by (first | lia | omega))]
  show wpAny _ _ (if ((es.size : Nat) : Int) ≥ 2 ^ 63 then _ else _) _ _ _
  rw [if_neg (by (first | lia | omega))]
  exact wpAny_bind (wpAny_mkInt (wpAny_pure ⟨_, rfl, h⟩))

theorem len_dict_snd {d : Addr} {kvs : List (V × V)} (R : Rel c D O F H s) (hm : True) (e : H d = some (.dict kvs)) : W c A (call (.builtin "len") [.ref d]) (Fin c D O F H (.val (.int kvs.length))) s := by
  have nm := R.notMods hm e
  obtain ⟨X, hl⟩ := R.dictAt e
  unfold lim at hl
  cases X with
  | int xs h1 h2 => refine call_len_dict nm h1 (by rw [h2.1]; (first | lia | omega)) ?_; rw [h2.1]; exact .valT (.int _ _) R
  | str xs h1 h2 => refine call_len_dict nm h1 (by rw [h2.1]; (first | lia | omega)) ?_; rw [h2.1]; exact .valT (.int _ _) R
  | tup xs h1 h2 h3 =>
    obtain ⟨o, es, ep, q1, q2, q3, q4, _, _⟩ := h1
    have hz : es.size = kvs.length := by
      have e1 : es.toList.length = xs.length := by rw [q4]; simp
      have e2 := h3.1
      simp only [PyProof.Rows.kvsOf, List.length_map] at e2
      simpa [e2] using e1
    refine len_any nm q1 q2.1 q3 (by rw [hz]; (first | lia | omega)) ?_
    rw [hz]; exact .valT (.int _ _) R

theorem dictOf_snd {d : Addr} {kvs : List (V × V)} (R : Rel c D O F H s) (hm : True) (e : H d = some (.dict kvs)) (hk : ∀ p ∈ kvs, kk p.1 ≠ 2) : W c A (call (.type "dict") [.ref d]) (Fin c D O F H (.new (.dict kvs))) s := by
  have nm := R.notMods hm e
  obtain ⟨X, hl⟩ := R.dictAt e
  have hsz : ∀ {n : Nat}, n = kvs.length → n ≤ sizeLine := fun q => by rw [q, sizeLine_eq]; unfold lim at hl; (first | lia | omega)
  obtain ⟨f1, f2, f3, f4⟩ := R.fresh
  have fin : ∀ h', Heap.SameBut s.heap.objs.size (s.heap.push { cls := .type "dict", data := .dict #[] }) h' → (∃ o, h'.get? s.heap.objs.size = some o ∧ OR c D o (.dict kvs)) → Fin c D O F H (.new (.dict kvs)) (.ref s.heap.objs.size) { s with heap := h' } := fun h' hs ⟨o, q1, q2⟩ =>
    ⟨D, .refl D, _, rfl, f4, (R.grow (tk := s.toks) fun b x q => (hs.2 b (Nat.ne_of_lt (Heap.lt_size q))).trans (Heap.get?_push_of_some _ q)).newH q1 f1 f2 f3 q2 (R.freshLo (Nat.le_refl _))⟩
  cases X with
  | int xs h1 h2 => exact kt_call_dict nm h1 (hsz h2.1) fun h' hd hs => fin h' hs (DictR.obj hl (.inl ⟨_, hd, h2⟩))
  | str xs h1 h2 => exact kt_call_dict nm h1 (hsz h2.1) fun h' hd hs => fin h' hs (DictR.obj hl (.inr (.inl ⟨_, hd, h2⟩)))
  | tup xs h1 h2 h3 =>
    cases kvs with
    | cons p r => exact absurd (h3.kk kk_encT p (.head _)) (hk p (.head _))
    | nil =>
      have e' := h3.nil_of
      have : xs = [] := by cases xs with | nil => rfl | cons x y => simp [PyProof.Rows.kvsOf] at e'
      subst this
      exact kt_call_dict nm (dictOfH_nil_any (k' := intKind c.prog c.w) h1) (by decide) fun h' hd hs => fin h' hs (DictR.obj hl (.inl ⟨_, hd, .nil⟩))
end
end Mini

end
section
set_option autoImplicit false
set_option maxRecDepth 100000
namespace Mini
open PySem

noncomputable def okIter (o : Obj) : Bool := match o.cls with
  | .type n => !(["enumerate", "zip", "dict_itemiterator", "dict_reverseitemiterator", "odict_iterator", "itertools.zip_longest", "itertools.pairwise"].contains n)
  | _ => true
theorem okIter_of {o : Obj} {n : String} (h : o.cls = .type n) (k : (["enumerate", "zip", "dict_itemiterator", "dict_reverseitemiterator", "odict_iterator", "itertools.zip_longest", "itertools.pairwise"].contains n) = false) : okIter o = true := by
  unfold okIter; rw [h]; simp only [k]; rfl
inductive It (c : Cx) (A : Around) (D : OM) (I : Addr) (w : Option (Addr × List V)) (vs : List V) (i : Nat) (h : Heap) : Prop
  | gen (fp : List Addr) (P : Nat → Value → Prop) (St : Nat → Heap → Prop) : w = none → Walks c.prog c.w A I fp [I] vs.length P St → St i h → (∀ b ∈ fp, b = I ∨ ∃ o, D b = some o) → (∀ j v, P j v → ∀ hj : j < vs.length, VR D v vs[j]) →
      (∀ j h, St j h → ∃ o, h.get? I = some o ∧ okIter o = true) → It c A D I w vs i h
  | list (ax : Addr) : w = some (ax, vs) → h.IsListIter I ax i → It c A D I w vs i h

section
variable {c : Cx} {A : Around} {D O : OM} {F : FM} {H : MH} {s : Shared} {I : Addr} {w : Option (Addr × List V)} {vs : List V} {i : Nat}

theorem It.keep {h h' : Heap} (x : It c A D I w vs i h) (k : ∀ b o, (b = I ∨ ∃ x, D b = some x) → h.get? b = some o → h'.get? b = some o) : It c A D I w vs i h' := by
  cases x with
  | gen fp P St hw W st hfp hP hx => exact .gen fp P St hw W (W.frame _ _ _ st fun b hb o e => k b o (hfp b hb) e) hfp hP hx
  | list ax hw hi => exact .list ax hw (let ⟨o, ho, r⟩ := hi; ⟨o, k _ _ (.inl rfl) ho, r⟩)
theorem It.monoD {D' : OM} {h : Heap} (x : It c A D I w vs i h) (k : OLe D D') : It c A D' I w vs i h := by
  cases x with
  | gen fp P St hw W st hfp hP hx => exact .gen fp P St hw W st (fun b hb => (hfp b hb).imp id fun ⟨o, e⟩ => ⟨o, k _ _ e⟩) (fun j v p hj => (hP j v p hj).mono k) hx
  | list ax hw hi => exact .list ax hw hi

theorem It.okIter {h : Heap} (x : It c A D I w vs i h) : ∃ o, h.get? I = some o ∧ okIter o = true := by
  cases x with
  | gen fp P St hw W st hfp hP hx => exact hx _ _ st
  | list ax hw hi => obtain ⟨o, ho, hc, _⟩ := hi; exact ⟨o, ho, okIter_of hc (by decide)⟩
theorem it_self {Q : Value → Shared → Prop} {E : Value → Shared → Prop} (x : It c A D I w vs i s.heap) (h : Q (.ref I) s) : wpAny (model c.prog c.w) A (pyIter (.ref I)) Q E s := by
  cases x with
  | gen fp P St hw W st hfp hP hx => exact W.self _ _ _ _ st h
  | list ax hw hi => exact wpAny_pyIter_listiter hi h
theorem Rel.stepO {o : Obj} {h' : Heap} {tk : Nat} (R : Rel c D (oput O I o) F H s) (hx : ∃ o', h'.get? I = some o') (hk : ∀ b x, b ≠ I → s.heap.get? b = some x → h'.get? b = some x) :
    ∃ o', h'.get? I = some o' ∧ Rel c D (oput O I o') F H { s with heap := h', toks := tk } := by
  obtain ⟨o', ho'⟩ := hx
  obtain ⟨g, hD, hF, hH⟩ := R.oth I o (oput_same ..)
  refine ⟨o', ho', R.base, fun b x q => ?_, fun b x q => ?_, fun b x q => ?_, fun b x q => ?_, (fun b hb => R.lo b (hb.imp id fun ⟨x, e⟩ => by
    by_cases p : b = I
    · exact ⟨o, by rw [p]; exact oput_same ..⟩
    · exact ⟨x, by rw [oput_ne p] at e ⊢; exact e⟩)), R.gens, R.os, R.frs⟩
  · exact hk b x (fun p => by rw [p, hD] at q; cases q) (R.dat b x q)
  · by_cases p : b = I
    · subst p; rw [oput_same] at q; cases q; exact ⟨ho', hD, hF, hH⟩
    · rw [oput_ne p] at q
      have y := R.oth b x (by rw [oput_ne p]; exact q)
      exact ⟨hk b x p y.1, y.2⟩
  · obtain ⟨⟨oF, es, ep, y, r⟩, z⟩ := R.frm b x q
    exact ⟨⟨oF, es, ep, hk b oF (fun p => by rw [p, hF] at q; cases q) y, r⟩, z⟩
  · obtain ⟨x1, o1, x2, x3⟩ := R.own b x q
    exact ⟨x1, o1, hk b o1 (fun p => by rw [p, hH] at q; cases q) x2, x3⟩
theorem Rel.dropO {o : Obj} {h' : Heap} {tk : Nat} (R : Rel c D (oput O I o) F H s) (hO : O I = none) (hk : ∀ b x, b ≠ I → s.heap.get? b = some x → h'.get? b = some x) :
    Rel c D O F H { s with heap := h', toks := tk } := by
  obtain ⟨g, hD, hF, hH⟩ := R.oth I o (oput_same ..)
  refine ⟨R.base, fun b x q => ?_, fun b x q => ?_, fun b x q => ?_, fun b x q => ?_, (fun b hb => R.lo b (hb.imp id fun ⟨x, e⟩ => ⟨x, by
    have p : b ≠ I := fun p => by rw [p, hO] at e; cases e
    rw [oput_ne p]; exact e⟩)), R.gens, R.os, R.frs⟩
  · exact hk b x (fun p => by rw [p, hD] at q; cases q) (R.dat b x q)
  · have p : b ≠ I := fun p => by rw [p, hO] at q; cases q
    have y := R.oth b x (by rw [oput_ne p]; exact q)
    exact ⟨hk b x p y.1, y.2⟩
  · obtain ⟨⟨oF, es, ep, y, r⟩, z⟩ := R.frm b x q
    exact ⟨⟨oF, es, ep, hk b oF (fun p => by rw [p, hF] at q; cases q) y, r⟩, z⟩
  · obtain ⟨x1, o1, x2, x3⟩ := R.own b x q
    exact ⟨x1, o1, hk b o1 (fun p => by rw [p, hH] at q; cases q) x2, x3⟩

theorem it_next {o : Obj} {Q : Option Value → Shared → Prop} (R : Rel c D (oput O I o) F H s) (x : It c A D I w vs i s.heap) (hw : watch w H) (hi : i < vs.length)
    (hQ : ∀ cv s' o', VR D cv vs[i] → Rel c D (oput O I o') F H s' → It c A D I w vs (i + 1) s'.heap → Q (some cv) s') : W c A (pyNext (.ref I)) Q s := by
  cases x with
  | gen fp P St hw' W st hfp hP hx =>
    refine W.item i s _ _ hi st fun v h' tk hp st' hk => ?_
    obtain ⟨o', ho', R'⟩ := R.stepO (tk := tk) (let ⟨o, ho, _⟩ := hx _ _ st'; ⟨o, ho⟩) fun b y hb e => hk b y (by simpa using hb) e
    exact hQ v _ o' (hP i v hp hi) R' (.gen fp P St hw' W st' hfp hP hx)
  | list ax hw' hit =>
    subst hw'
    have hw2 : H ax = some (.list vs) := hw
    obtain ⟨cs, n, v1, g, hl⟩ := R.listAt hw2
    have hi' : i < cs.length := by rw [v1.1]; exact hi
    refine wpAny_pyNext_list_item hit ⟨_, g, rfl, n, rfl⟩ (x := cs[i]) (by simp [hi']) fun h' hit' hs => ?_
    obtain ⟨o', ho', R'⟩ := R.stepO (tk := s.toks) (let ⟨o, ho, _⟩ := hit'; ⟨o, ho⟩) fun b y hb e => (hs.2 b hb).trans e
    exact hQ _ _ o' (v1.2 i hi' hi) R' (.list ax rfl hit')

theorem it_done {o : Obj} {Q : Option Value → Shared → Prop} (M : A.handled = none) (R : Rel c D (oput O I o) F H s) (hO : O I = none) (x : It c A D I w vs vs.length s.heap) (hw : watch w H)
    (hQ : ∀ s', Rel c D O F H s' → Q none s') : W c A (pyNext (.ref I)) Q s := by
  cases x with
  | gen fp P St hw' W st hfp hP hx =>
    refine W.done s _ _ st fun h' tk hk => hQ _ (R.dropO hO fun b y hb e => hk b y (by simpa using hb) e)
  | list ax hw' hit =>
    subst hw'
    have hw2 : H ax = some (.list vs) := hw
    obtain ⟨cs, n, v1, g, hl⟩ := R.listAt hw2
    exact wpAny_pyNext_list_end M hit ⟨_, g, rfl, n, rfl⟩ (by simp [v1.1]) fun h' hs => hQ _ (R.dropO (tk := s.toks) hO fun b y hb e => hs b y hb e)

noncomputable def ItStart (c : Cx) (A : Around) (D O : OM) (F : FM) (H : MH) (w : Option (Addr × List V)) (vs : List V) (iv : Value) (s' : Shared) : Prop :=
  ∃ I o, iv = .ref I ∧ D I = none ∧ O I = none ∧ F I = none ∧ H I = none ∧ Rel c D (oput O I o) F H s' ∧ It c A D I w vs 0 s'.heap

theorem start_push {o : Obj} {x : It c A D s.heap.objs.size w vs 0 (s.heap.push o)} (R : Rel c D O F H s) (hf : o.isFreed = false) : ItStart c A D O F H w vs (.ref s.heap.objs.size) { s with heap := s.heap.push o } := by
  obtain ⟨f1, f2, f3, f4⟩ := R.fresh
  exact ⟨_, o, rfl, f1, f2, f3, f4, (R.grow (tk := s.toks) fun b y e => Heap.get?_push_of_some _ e).newO (Heap.get?_push_size _ hf) f1 f3 f4 (R.freshLo (Nat.le_refl _)), x⟩

theorem iter_plain {cv : Value} {v : V} (M : A.handled = none) (R : Rel c D O F H s) (hv : VR D cv v) (h : srcItems .plain H v = some (vs, w)) : W c A (pyIter cv) (ItStart c A D O F H w vs) s := by
  cases v <;> simp only [srcItems] at h <;> (try (cases h; done))
  case tup us =>
    cases h
    obtain ⟨a, cs, n, rfl, e, v1, hl⟩ := hv.tup_inv
    have g := R.dat _ _ e
    have hT : s.heap.IsTuple a cs.toArray := ⟨_, g, rfl, n, rfl⟩
    refine wpAny_pyIter_tuple hT (start_push (x := ?_) R rfl)
    have hne : a ≠ s.heap.objs.size := Nat.ne_of_lt (Heap.lt_size g)
    have hW := Walks.tuple (prog := c.prog) (w := c.w) (A := A) M s.heap.objs.size a hne cs.toArray
    have hsz : cs.toArray.size = vs.length := by rw [List.size_toArray]; exact v1.1
    rw [hsz] at hW
    refine .gen _ _ _ rfl hW ⟨⟨_, Heap.get?_push_size _ rfl, rfl, rfl⟩, hT.push _⟩ (fun b hb => ?_) (fun j x hx hj => ?_) (fun j h st => let ⟨⟨o, ho, hc, _⟩, _⟩ := st; ⟨o, ho, okIter_of hc (by decide)⟩)
    · simp at hb; rcases hb with rfl | rfl
      · exact .inl rfl
      · exact .inr ⟨_, e⟩
    · have hx' : cs[j]? = some x := by simpa using hx
      obtain ⟨hj', rfl⟩ := List.getElem?_eq_some_iff.mp hx'
      exact v1.2 j hj' hj
  case str x =>
    cases h
    obtain ⟨t, rfl⟩ := hv.str_inv
    have hlen : (chars x).length = x.cps.size := by simp [chars]
    have hP : ∀ j v, SignAt x j v → ∀ hj : j < (chars x).length, VR D v (chars x)[j] := fun j v hv hj => by
      obtain ⟨cc, u, e1, rfl⟩ := hv
      have hj' : j < x.cps.size := by simpa [chars] using hj
      have e2 : x.cps[j] = cc := by rw [Array.getElem?_eq_getElem hj'] at e1; exact Option.some.inj e1
      have e3 : (chars x)[j] = .str ⟨#[cc]⟩ := by simp [chars, e2]
      rw [e3]; exact .str _ _ (by show 1 ≤ lim; decide)
    cases ha : x.cps.all (· < 128)
    · refine wpAny_pyIter_wide ha (start_push (x := ?_) R rfl)
      have hW := Walks.strWide (prog := c.prog) (w := c.w) (A := A) M s.heap.objs.size x t
      rw [← hlen] at hW
      exact .gen _ _ _ rfl hW ⟨_, Heap.get?_push_size _ rfl, rfl, rfl⟩ (fun b hb => .inl (by simpa using hb)) hP (fun j h st => let ⟨o, ho, hc, _⟩ := st; ⟨o, ho, okIter_of hc (by decide)⟩)
    · refine wpAny_pyIter_ascii ha (start_push (x := ?_) R rfl)
      have hW := Walks.strAscii (prog := c.prog) (w := c.w) (A := A) M s.heap.objs.size x t
      rw [← hlen] at hW
      exact .gen _ _ _ rfl hW ⟨_, Heap.get?_push_size _ rfl, rfl, rfl⟩ (fun b hb => .inl (by simpa using hb)) hP (fun j h st => let ⟨o, ho, hc, _⟩ := st; ⟨o, ho, okIter_of hc (by decide)⟩)
  case ref a =>
    obtain rfl := hv.ref_inv
    split at h
    · rename_i us e
      cases h
      obtain ⟨cs, n, v1, g, hl⟩ := R.listAt e
      exact wpAny_pyIter_list ⟨_, g, rfl, n, rfl⟩ (start_push (x := .list a rfl ⟨_, Heap.get?_push_size _ rfl, rfl, rfl⟩) R rfl)
    · cases h

theorem iter_range {cv : Value} {v : V} (M : A.handled = none) (R : Rel c D O F H s) (hv : VR D cv v) (h : srcItems .range H v = some (vs, w)) :
    W c A (call (.type "range") [cv]) (fun rv s' => W c A (pyIter rv) (ItStart c A D O F H w vs) s') s := by
  cases v <;> simp only [srcItems] at h <;> (try (cases h; done))
  case int n =>
    split at h
    · rename_i hn
      cases h
      obtain ⟨t, rfl⟩ := hv.int_inv
      refine call_range_1 ?_
      have hR := IsRange.new s.heap 0 n 1 s.toks t (s.toks + 1)
      have hn0 : 0 ≤ n ∧ n ≤ (lim : Int) := by simpa using hn
      unfold lim at hn0
      have hlo : -(2 ^ 62) ≤ n := by (first | lia | omega)
      · have hsm : Builtin.Range.small 0 n 1 = true := small_one (by decide) (by decide) hlo (by (first | lia | omega))
        refine wpAny_pyIter_range hR hsm ?_
        have R1 : Rel c D O F H { s with heap := s.heap.push { cls := .type "range", data := .fields #[.int 0 s.toks, .int n t, .int 1 (s.toks + 1)] }, toks := s.toks + 1 + 1 } := R.grow fun b y e => Heap.get?_push_of_some _ e
        refine start_push (x := ?_) R1 rfl
        have hlen : ((List.range n.toNat).map fun (i : Nat) => V.int i).length = n.toNat := by simp
        have hW := Walks.range (prog := c.prog) (w := c.w) (A := A) M (s.heap.push { cls := .type "range", data := .fields #[.int 0 s.toks, .int n t, .int 1 (s.toks + 1)] }).objs.size 0 1 n.toNat
        rw [← hlen] at hW
        refine .gen _ _ _ rfl hW ?_ (fun b hb => .inl (by simpa using hb)) (fun j x hx hj => ?_) (fun j h st => ⟨_, st, okIter_of rfl (by decide)⟩)
        · show IsRangeIter _ _ (0 + ((0 : Nat) : Int) * 1) ((((List.range n.toNat).map fun (i : Nat) => V.int i).length : Int) - ((0 : Nat) : Int)) 1
          have e : (((List.range n.toNat).map fun (i : Nat) => V.int i).length : Int) - ((0 : Nat) : Int) = Builtin.Range.rangeSize 0 n 1 := by
            rw [hlen, rangeSize_one]; split <;> (first | lia | omega)
          rw [e]
          exact Heap.get?_push_size _ rfl
        · obtain ⟨tk, rfl⟩ := hx
          have e : ((List.range n.toNat).map fun (i : Nat) => V.int i)[j] = V.int (0 + (j : Int) * 1) := by simp
          rw [e]; exact .int _ _
    · cases h
end
end Mini

end
section
set_option autoImplicit false
set_option maxRecDepth 100000
namespace Mini
open PySem

abbrev nm (x : String) : Str := Str.ofString x
theorem nm_inj {x y : String} (h : nm x = nm y) : x = y := by
  rw [show nm x = _ from Str.ofString_eq_toList x, show nm y = _ from Str.ofString_eq_toList y] at h
  have h1 : x.toList.map Char.toNat = y.toList.map Char.toNat := by simpa using h
  have h2 : x.toList = y.toList := by
    revert h1
    generalize x.toList = a
    generalize y.toList = b
    intro h1
    induction a generalizing b with
    | nil => cases b with
      | nil => rfl
      | cons _ _ => simp at h1
    | cons c r ih => cases b with
      | nil => simp at h1
      | cons d t =>
        simp only [List.map_cons, List.cons.injEq] at h1
        have e : c = d := by
          have := h1.1
          exact Char.toNat_inj.mp this
        rw [e, ih t h1.2]
  exact String.toList_inj.mp h2

structure FOK (env : PySem.Env) : Prop where
  kind : env.scope.kind = .function
  globals : env.globals = mainGlobals
  builtins : env.builtins = builtinsNs

structure FS (env : PySem.Env) (D O : OM) (F : FM) (ρ : Env) : Prop where
  fr : ∃ m, F env.locals = some m ∧ ∀ x v, ρ x = some v → env.kindOf (nm x) = some .local → x ≠ ".0" → ∃ cv, m (nm x) = some cv ∧ VR D cv v
  ce : ∀ x v, ρ x = some v → (env.kindOf (nm x) = some .cell ∨ env.kindOf (nm x) = some .free) → ∃ a o cv, env.cells.lookup (nm x) = some a ∧ O a = some o ∧ o.data = .cell (some cv) ∧ VR D cv v
  own : ∀ n : Str, (env.kindOf n = some .cell ∨ env.kindOf n = some .free) → ∃ a o cv, env.cells.lookup n = some a ∧ O a = some o ∧ o.data = .cell cv
  cel : ∀ n a, env.cells.lookup n = some a → ∃ o, O a = some o

structure Out (env : PySem.Env) (O : OM) (F : FM) (O' : OM) (F' : FM) : Prop where
  f : ∀ a, a ≠ env.locals → F' a = F a
  o : ∀ a, (∀ n, env.cells.lookup n ≠ some a) → O' a = O a
  oc : ∀ a, O a = none → O' a = none
  fc : ∀ a, F a = none → F' a = none
theorem Out.refl (env : PySem.Env) (O : OM) (F : FM) : Out env O F O F := ⟨fun _ _ => rfl, fun _ _ => rfl, fun _ h => h, fun _ h => h⟩
theorem Out.trans {env : PySem.Env} {O O' O'' : OM} {F F' F'' : FM} (h : Out env O F O' F') (k : Out env O' F' O'' F'') : Out env O F O'' F'' :=
  ⟨fun a x => (k.f a x).trans (h.f a x), fun a x => (k.o a x).trans (h.o a x), fun a x => k.oc a (h.oc a x), fun a x => k.fc a (h.fc a x)⟩

section
variable {c : Cx} {A : Around} {D O : OM} {F : FM} {H : MH} {s : Shared} {env : PySem.Env} {ρ : Env}

theorem FS.mono {D' : OM} (h : FS env D O F ρ) (k : OLe D D') : FS env D' O F ρ :=
  ⟨let ⟨m, e, p⟩ := h.fr; ⟨m, e, fun x v q l z => let ⟨cv, a, b⟩ := p x v q l z; ⟨cv, a, b.mono k⟩⟩,
   fun x v q l => let ⟨a, o, cv, h1, h2, h3, h4⟩ := h.ce x v q l; ⟨a, o, cv, h1, h2, h3, h4.mono k⟩, h.own, h.cel⟩

theorem load_snd {x : String} {v : V} {Q : Value → Shared → Prop} {E : Value → Shared → Prop} (hF : FOK env) (fs : FS env D O F ρ) (R : Rel c D O F H s) (hv : ρ x = some v) (hk : env.kindOf (nm x) = some .local ∨ env.kindOf (nm x) = some .cell ∨ env.kindOf (nm x) = some .free)
    (hn : (nm x == ("__classdict__" : Str)) = false) (h0 : x ≠ ".0") (hQ : ∀ cv, VR D cv v → Q cv s) : wpAny (model c.prog c.w) A (loadName env (nm x)) Q E s := by
  rcases hk with hk | hk | hk
  · obtain ⟨m, e, p⟩ := fs.fr
    obtain ⟨cv, e1, e2⟩ := p x v hv hk h0
    exact wpAny_loadName_local hF.kind hk (R.frm _ _ e).1 e1 (hQ cv e2)
  · obtain ⟨a, o, cv, h1, h2, h3, h4⟩ := fs.ce x v hv (.inl hk)
    exact wpAny_loadName_cell hF.kind hk h1 ⟨o, (R.oth _ _ h2).1, h3⟩ (hQ cv h4)
  · obtain ⟨a, o, cv, h1, h2, h3, h4⟩ := fs.ce x v hv (.inr hk)
    exact wpAny_loadName_free hF.kind hk h1 ⟨o, (R.oth _ _ h2).1, h3⟩ (hQ cv h4) hn

theorem store_snd {x : String} {v : V} {cv : Value} {Q : Unit → Shared → Prop} {E : Value → Shared → Prop} (hF : FOK env) (fs : FS env D O F ρ) (R : Rel c D O F H s) (hv : VR D cv v) (hk : env.kindOf (nm x) = some .local ∨ env.kindOf (nm x) = some .cell) (ap : env.kindOf (nm x) = some .cell → env.cells.Pairwise fun x y => x.2 ≠ y.2)
    (hQ : ∀ O' F' s', Out env O F O' F' → (env.kindOf (nm x) = some .local → O' = O) → FS env D O' F' (upd ρ x v) → Rel c D O' F' H s' → Q () s') : wpAny (model c.prog c.w) A (storeName env (nm x) cv) Q E s := by
  rcases hk with hk | hk
  · obtain ⟨m, e, p⟩ := fs.fr
    refine wpAny_storeName_local hk (R.frm _ _ e).1 (fun h' hn hs => ?_) (by rw [hF.kind]; rfl)
    refine hQ O (fput F env.locals _) _ ⟨fun a ha => fput_ne ha, fun _ _ => rfl, fun _ h => h, fun a ha => ?_⟩ (fun _ => rfl) ⟨⟨_, fput_same .., fun y u hu hl h0 => ?_⟩, fun y u hu hl => ?_, fs.own, fs.cel⟩ (R.setF (tk := s.toks + 1) e hs hn)
    · have : a ≠ env.locals := fun q => by rw [q, e] at ha; cases ha
      rw [fput_ne this]; exact ha
    · by_cases q : y = x
      · subst q; simp [upd] at hu; subst hu; exact ⟨cv, by simp, hv⟩
      · simp [upd, q] at hu
        obtain ⟨cv', e1, e2⟩ := p y u hu hl h0
        exact ⟨cv', by rw [if_neg fun z => q (nm_inj z)]; exact e1, e2⟩
    · have q : y ≠ x := fun q => by subst q; rw [hk] at hl; rcases hl with hl | hl <;> cases hl
      simp [upd, q] at hu
      exact fs.ce y u hu hl
  · obtain ⟨a, o, ov, h1, h2, h3⟩ := fs.own (nm x) (.inl hk)
    refine wpAny_storeName_cell hF.kind hk h1 ⟨o, (R.oth _ _ h2).1, h3⟩ fun h' hc hs => ?_
    obtain ⟨o', ho', hd'⟩ := hc
    refine hQ (oput O a o') F _ ⟨fun _ _ => rfl, fun b hb => oput_ne fun q => hb (nm x) (q ▸ h1), fun b hb => ?_, fun _ h => h⟩ (fun q => by rw [hk] at q; cases q)
      ⟨let ⟨m, e, p⟩ := fs.fr; ⟨m, e, fun y u hu hl h0 => ?_⟩, fun y u hu hl => ?_, fun y hl => ?_, fun y b hb => ?_⟩ (R.setO (tk := s.toks) h2 hs ho')
    · have : b ≠ a := fun q => by rw [q, h2] at hb; cases hb
      rw [oput_ne this]; exact hb
    · have q : y ≠ x := fun q => by subst q; rw [hk] at hl; cases hl
      simp [upd, q] at hu
      exact p y u hu hl h0
    · by_cases q : y = x
      · subst q; simp [upd] at hu; subst hu; exact ⟨a, o', cv, h1, oput_same .., hd', hv⟩
      · simp [upd, q] at hu
        obtain ⟨b, ob, cv', e1, e2, e3, e4⟩ := fs.ce y u hu hl
        have hb : b ≠ a := fun z => q (nm_inj (name_of_addr (ap hk) (mem_of_lookup e1) (z ▸ mem_of_lookup h1)))
        exact ⟨b, ob, cv', e1, by rw [oput_ne hb]; exact e2, e3, e4⟩
    · obtain ⟨b, ob, cv', e1, e2, e3⟩ := fs.own y hl
      by_cases hb : b = a
      · subst hb; exact ⟨b, o', _, e1, oput_same .., hd'⟩
      · exact ⟨b, ob, cv', e1, by rw [oput_ne hb]; exact e2, e3⟩
    · by_cases q : b = a
      · subst q; exact ⟨o', oput_same ..⟩
      · rw [oput_ne q]; exact fs.cel y b hb
end
end Mini

end
section
set_option autoImplicit false
set_option maxRecDepth 100000
namespace Mini
open PySem

abbrev Kn := List (Str × NameKind)

noncomputable def binP : Operator → Option Prim
  | .Add => some .add
  | .Sub => some .sub
  | .Mult => some .mul
  | .Mod => some .mod
  | .FloorDiv => some .fdiv
  | _ => none
noncomputable def cmpP : CmpOp → Option Prim
  | .Eq => some .eq
  | .NotEq => some .ne
  | .Lt => some .lt
  | .LtE => some .le
  | .Gt => some .gt
  | .GtE => some .ge
  | .In => some .isin
  | .NotIn => some .notin
  | _ => none
noncomputable def bfn : Prim → Option (String × Value)
  | .len => some ("len", .builtin "len")
  | .toInt => some ("int", .type "int")
  | .tupleOf => some ("tuple", .type "tuple")
  | .listOf => some ("list", .type "list")
  | .sorted => some ("sorted", .builtin "sorted")
  | .min2 => some ("min", .builtin "min")
  | .max2 => some ("max", .builtin "max")
  | .minL => some ("min", .builtin "min")
  | .maxL => some ("max", .builtin "max")
  | .any => some ("any", .builtin "any")
  | .all => some ("all", .builtin "all")
  | .dictOf => some ("dict", .type "dict")
  | _ => none
noncomputable def methN : Prim → Option String
  | .append => some "append"
  | .index => some "index"
  | _ => none

noncomputable def varK : Option NameKind → Bool
  | some .local => true
  | some .cell => true
  | some .free => true
  | _ => false
noncomputable def stoK : Option NameKind → Bool
  | some .local => true
  | some .cell => true
  | _ => false
noncomputable def gloK (K : Kn) (x : String) : Bool := K.lookup (nm x) == some .globalImplicit && !(nm x == ("__debug__" : Str))

noncomputable def relabelK (K names : Kn) : Kn := names.map fun (n, k) => if (k == .free && K.lookup n == some .cell) then (n, .cell) else (n, k)
noncomputable def scOK (K : Kn) (sc : Scope) : Bool :=
  sc.kind == .function && sc.names.all fun y => y.2 != .cell && (y.2 != .local || sc.names.lookup y.1 == some .local) && (y.2 != .free || (K.lookup y.1 == some .cell || K.lookup y.1 == some .free) && sc.names.lookup y.1 == some .free)

noncomputable def scTgt (K : Kn) (tgt : List String) : Bool := (tgt.all fun x => K.lookup (nm x) == some .local) && K.all fun y => y.2 != .local || y.1 == nm ".0" || tgt.any fun x => nm x == y.1
inductive SrcTr (K : Kn) : SK → Expr → Expr → Prop
  | plain {e : Expr} : SrcTr K .plain e e
  | range {e : Expr} {p q : Pos} : gloK K "range" = true → SrcTr K .range e (.Call (.Name (nm "range") p) [e] [] q)

inductive TgtNames (K : Kn) : List String → List Expr → Prop
  | nil : TgtNames K [] []
  | cons {x : String} {p : Pos} {xs : List String} {es : List Expr} : stoK (K.lookup (nm x)) = true → TgtNames K xs es → TgtNames K (x :: xs) (.Name (nm x) p :: es)
inductive TgtTr (K : Kn) : List String → Bool → Expr → Prop
  | one {x : String} {p : Pos} : stoK (K.lookup (nm x)) = true → TgtTr K [x] false (.Name (nm x) p)
  | tup {xs : List String} {es : List Expr} {k : Nat} {p : Pos} : TgtNames K xs es → TgtTr K xs true (.Tuple es k p)

mutual
inductive TrE (G : List String) : Kn → X → Expr → Prop
  | none {K : Kn} {k : Nat} {p : Pos} : TrE G K (.cst .none) (.Constant .none k p)
  | bool {K : Kn} {b : Bool} {k : Nat} {p : Pos} : TrE G K (.cst (.bool b)) (.Constant (.bool b) k p)
  | int {K : Kn} {i : Int} {k : Nat} {p : Pos} : TrE G K (.cst (.int i)) (.Constant (.int i) k p)
  | str {K : Kn} {x : Str} {k : Nat} {p : Pos} : x.length ≤ lim → TrE G K (.cst (.str x)) (.Constant (.str x) k p)
  | var {K : Kn} {x : String} {p : Pos} : varK (K.lookup (nm x)) = true → (nm x == ("__debug__" : Str)) = false → (nm x == ("__classdict__" : Str)) = false → (x == ".0") = false → TrE G K (.var x) (.Name (nm x) p)
  | bin {K : Kn} {op : Operator} {q : Prim} {a b : X} {l r : Expr} {p : Pos} : binP op = some q → TrE G K a l → TrE G K b r → TrE G K (.prim q [a, b]) (.BinOp l op r p)
  | neg {K : Kn} {a : X} {e : Expr} {p : Pos} : TrE G K a e → TrE G K (.prim .neg [a]) (.UnaryOp .USub e p)
  | not {K : Kn} {a : X} {e : Expr} {p : Pos} : TrE G K a e → TrE G K (.prim .not [a]) (.UnaryOp .Not e p)
  | cmp {K : Kn} {op : CmpOp} {q : Prim} {a b : X} {l r : Expr} {p : Pos} : cmpP op = some q → TrE G K a l → TrE G K b r → TrE G K (.prim q [a, b]) (.Compare l [op] [r] p)
  | one {K : Kn} {op : BoolOp} {a : X} {e : Expr} {p : Pos} : TrE G K a e → TrE G K a (.BoolOp op [e] p)
  | and {K : Kn} {a b : X} {e e' : Expr} {es : List Expr} {p : Pos} : TrE G K a e → TrE G K b (.BoolOp .And (e' :: es) p) → TrE G K (.and a b) (.BoolOp .And (e :: e' :: es) p)
  | or {K : Kn} {a b : X} {e e' : Expr} {es : List Expr} {p : Pos} : TrE G K a e → TrE G K b (.BoolOp .Or (e' :: es) p) → TrE G K (.or a b) (.BoolOp .Or (e :: e' :: es) p)
  | idx {K : Kn} {a b : X} {l r : Expr} {p : Pos} : TrE G K a l → TrE G K b r → TrE G K (.prim .idx [a, b]) (.Subscript l r p)
  | sliceTo {K : Kn} {a b : X} {l r : Expr} {p q : Pos} : TrE G K a l → TrE G K b r → TrE G K (.prim .sliceTo [a, b]) (.Subscript l (.Slice Option.none (some r) Option.none q) p)
  | sliceFrom {K : Kn} {a b : X} {l r : Expr} {p q : Pos} : TrE G K a l → TrE G K b r → TrE G K (.prim .sliceFrom [a, b]) (.Subscript l (.Slice (some r) Option.none Option.none q) p)
  | tuple {K : Kn} {xs : List X} {es : List Expr} {k : Nat} {p : Pos} : TrEs G K xs es → TrE G K (.prim .tuple xs) (.Tuple es k p)
  | list {K : Kn} {xs : List X} {es : List Expr} {p : Pos} : TrEs G K xs es → TrE G K (.prim .list xs) (.List es p)
  | dict0 {K : Kn} {p : Pos} : TrE G K (.prim .dict0 []) (.Dict [] [] p)
  | dict1 {K : Kn} {a b : X} {l r : Expr} {p : Pos} : TrE G K a l → TrE G K b r → TrE G K (.prim .dict1 [a, b]) (.Dict [some l] [r] p)
  | bcall {K : Kn} {q : Prim} {x : String} {fv : Value} {xs : List X} {e : Expr} {es : List Expr} {p p' : Pos} : bfn q = some (x, fv) → gloK K x = true → TrEs G K xs (e :: es) → TrE G K (.prim q xs) (.Call (.Name (nm x) p') (e :: es) [] p)
  | isi {K : Kn} {t : Ty} {a : X} {e : Expr} {p p' p'' : Pos} : gloK K "isinstance" = true → gloK K t.name = true → TrE G K a e → TrE G K (.prim (.isi t) [a]) (.Call (.Name (nm "isinstance") p') [e, .Name (nm t.name) p''] [] p)
  | listRev {K : Kn} {a : X} {e : Expr} {p p' p'' q : Pos} : gloK K "list" = true → gloK K "reversed" = true → TrE G K a e → TrE G K (.prim .listRev [a]) (.Call (.Name (nm "list") p') [.Call (.Name (nm "reversed") p'') [e] [] q] [] p)
  | sortedSet {K : Kn} {a : X} {e : Expr} {p p' p'' q : Pos} : gloK K "sorted" = true → gloK K "set" = true → TrE G K a e → TrE G K (.prim .sortedSet [a]) (.Call (.Name (nm "sorted") p') [.Call (.Name (nm "set") p'') [e] [] q] [] p)
  | meth1 {K : Kn} {q : Prim} {x : String} {a b : X} {o e : Expr} {p p' : Pos} : methN q = some x → (p'.endLine == p.line) = true → TrE G K a o → TrE G K b e → TrE G K (.meth q a [b]) (.Call (.Attribute o (nm x) p') [e] [] p)
  | meth2 {K : Kn} {q : Prim} {x : String} {a b d : X} {o e e' : Expr} {p p' : Pos} : methN q = some x → (p'.endLine == p.line) = true → TrE G K a o → TrE G K b e → TrE G K d e' → TrE G K (.meth q a [b, d]) (.Call (.Attribute o (nm x) p') [e, e'] [] p)
  | call {K : Kn} {f : String} {xs : List X} {e : Expr} {es : List Expr} {p p' : Pos} : G.contains f = true → gloK K f = true → TrEs G K xs (e :: es) → TrE G K (.call f xs) (.Call (.Name (nm f) p') (e :: es) [] p)
  | lc {K : Kn} {x : X} {e : Expr} : TrC G K x e → TrE G K x e
inductive TrC (G : List String) : Kn → X → Expr → Prop
  | comp {K : Kn} {x : X} {tgt : List String} {isT : Bool} {sk : SK} {a : X} {elt te src it : Expr} {sc : Scope} {p : Pos} : TrE G K a src → SrcTr K sk src it → scOK K sc = true → TgtTr (relabelK K sc.names) tgt isT te → scTgt (relabelK K sc.names) tgt = true → TrE G (relabelK K sc.names) x elt →
      TrC G K (.comp x tgt isT sk a) (.ListComp elt [⟨te, it, [], 0⟩] sc p)
  | compIf {K : Kn} {x : X} {tgt : List String} {isT : Bool} {sk : SK} {a y : X} {elt te src it cond : Expr} {sc : Scope} {p : Pos} : TrE G K a src → SrcTr K sk src it → scOK K sc = true → TgtTr (relabelK K sc.names) tgt isT te → scTgt (relabelK K sc.names) tgt = true → TrE G (relabelK K sc.names) x elt →
      TrE G (relabelK K sc.names) y cond → TrC G K (.compIf x tgt isT sk a y) (.ListComp elt [⟨te, it, [cond], 0⟩] sc p)
inductive TrEs (G : List String) : Kn → List X → List Expr → Prop
  | nil {K : Kn} : TrEs G K [] []
  | cons {K : Kn} {x : X} {xs : List X} {e : Expr} {es : List Expr} : TrE G K x e → TrEs G K xs es → TrEs G K (x :: xs) (e :: es)
end

noncomputable def isComp : Expr → Bool
  | .ListComp .. => true
  | .SetComp .. => true
  | .DictComp .. => true
  | _ => false
noncomputable def isTupE : Expr → Bool
  | .Tuple .. => true
  | _ => false

noncomputable def okE : Expr → Bool
  | .Starred .. => false
  | .Set .. => false
  | .Slice .. => false
  | .Call (.Name _ _) [] [] _ => false
  | _ => true
mutual
inductive TrS (G : List String) : Kn → S → Stmt → Prop
  | asg {K : Kn} {x : String} {a : X} {e : Expr} {p p' : Pos} : stoK (K.lookup (nm x)) = true → isComp e = false → TrE G K a e → TrS G K (.asg x a) (.Assign [.Name (nm x) p'] e p)
  | asgC {K : Kn} {x : String} {a : X} {e : Expr} {p p' : Pos} : stoK (K.lookup (nm x)) = true → TrC G K a e → TrS G K (.asg x a) (.Assign [.Name (nm x) p'] e p)
  | asgT {K : Kn} {xs : List String} {a : X} {e : Expr} {es : List Expr} {k : Nat} {p p' : Pos} : TgtNames K xs es → isTupE e = false → TrE G K a e → TrS G K (.asgT xs a) (.Assign [.Tuple es k p'] e p)
  | asgI {K : Kn} {a b d : X} {o i e : Expr} {p p' : Pos} : TrE G K a o → TrE G K b i → TrE G K d e → TrS G K (.asgI a b d) (.Assign [.Subscript o i p'] e p)
  | ex {K : Kn} {a : X} {e : Expr} {p : Pos} : isComp e = false → TrE G K a e → TrS G K (.ex a) (.Expr e p)
  | ifs {K : Kn} {a : X} {t u : List S} {e : Expr} {t' u' : List Stmt} {p : Pos} : TrE G K a e → TrSs G K t t' → TrSs G K u u' → TrS G K (.ifs a t u) (.If e t' u' p)
  | for {K : Kn} {tgt : List String} {isT : Bool} {sk : SK} {a : X} {t : List S} {te src it : Expr} {t' : List Stmt} {p : Pos} : TrE G K a src → SrcTr K sk src it → TgtTr K tgt isT te → TrSs G K t t' → TrS G K (.for tgt isT sk a t) (.For te it t' [] p)
  | whl {K : Kn} {a : X} {t : List S} {e : Expr} {t' : List Stmt} {p : Pos} : TrE G K a e → TrSs G K t t' → TrS G K (.whl a t) (.While e t' [] p)
  | ret {K : Kn} {a : X} {e : Expr} {p : Pos} : TrE G K a e → TrS G K (.ret a) (.Return (some e) p)
  | pass {K : Kn} {p : Pos} : TrS G K .pass (.Pass p)
  | raise {K : Kn} {cls : String} {e c : Option Expr} {pos : Pos} : TrS G K (.raise cls) (.Raise e c pos)
inductive TrSs (G : List String) : Kn → List S → List Stmt → Prop
  | nil {K : Kn} : TrSs G K [] []
  | cons {K : Kn} {x : S} {xs : List S} {e : Stmt} {es : List Stmt} : TrS G K x e → TrSs G K xs es → TrSs G K (x :: xs) (e :: es)
end

theorem okE.star {e : Expr} (h : okE e = true) (rest : List Expr) (env : PySem.Env) : starEach (e :: rest) env = (false, eval e env) :: starEach rest env := by
  cases e <;> first | rfl | cases h
theorem okE.behind {e : Expr} (h : okE e = true) (op : CmpOp) : behindInMarks op e = false := by
  cases e <;> first | rfl | cases h
theorem okE.fold {e : Expr} (h : okE e = true) (env : PySem.Env) (x : Value) : foldedSetIterable e env x = pure x := by
  cases e <;> first | rfl | cases h
theorem okE.base {e : Expr} (h : okE e = true) (attr : Str) (env : PySem.Env) (wh : Sem Value) : attributeBase e attr env wh = wh := by
  cases e <;> first | rfl | skip
  rename_i f as ks p
  cases f <;> first | rfl | skip
  cases as <;> first | rfl | skip
  cases ks <;> first | rfl | cases h
theorem okE.slice {e : Expr} (h : okE e = true) : ∀ l u p, e ≠ .Slice l u none p := by
  intro l u p q; subst q; cases h
theorem okEs_any {es : List Expr} (h : ∀ e ∈ es, okE e = true) (pos : Pos) (env : PySem.Env) : (backTo pos (starEach es env)).any (·.1) = false := by
  induction es with
  | nil => rfl
  | cons e es ih => rw [okE.star (h e (.head _)) es env]; exact ih fun x hx => h x (.tail _ hx)
theorem SrcTr.ok {K : Kn} {sk : SK} {src it : Expr} (h : SrcTr K sk src it) (k : okE src = true) : okE it = true := by
  cases h <;> first | exact k | rfl
theorem not_comp_swaps {e : Expr} (h : isComp e = false) (tg : Option Expr) (line : Nat) (env : PySem.Env) : swapsWith e tg line env = pure false := by
  cases e <;> first | rfl | cases h
theorem swaps_tup (e : Expr) (es : List Expr) (k : Nat) (p : Pos) (line : Nat) (env : PySem.Env) : swapsWith e (some (.Tuple es k p)) line env = pure false := by
  cases e <;> rfl
theorem swaps_sub (e o i : Expr) (p : Pos) (line : Nat) (env : PySem.Env) : swapsWith e (some (.Subscript o i p)) line env = pure false := by
  cases e <;> rfl
theorem not_tup_stores {e : Expr} (h : isTupE e = false) (es : List Expr) (k : Nat) (p : Pos) (env : PySem.Env) : swappedStores [.Tuple es k p] e env = pure none := by
  cases e <;> first | rfl | cases h
end Mini

end
section
set_option autoImplicit false
set_option linter.unusedVariables false
set_option linter.unusedSectionVars false
set_option maxRecDepth 100000
namespace Mini
open PySem

noncomputable def bNames : List String := ["len", "int", "tuple", "list", "sorted", "min", "max", "any", "all", "dict", "isinstance", "range", "reversed", "set", "bool", "str", "ValueError"]
noncomputable def ClsAll (h : Heap) (mg : Str → Option Value) : Prop := True
structure Gl (c : Cx) (mg : Str → Option Value) (G : List String) : Prop where
  g : c.s0.heap.Ns mainGlobals mg
  b : ∃ mb, c.s0.heap.Ns builtinsNs mb ∧ ∀ x : Str, x ≠ "__name__" → mb x = bootBuiltins x
  bl : ∀ x, x ∈ bNames → mg (nm x) = none
  nolimit : c.s0.heap.NoLimit
  mods : ClsAll c.s0.heap mg
  fn : ∀ f, G.contains f = true → ∃ a o fd, mg (nm f) = some (.ref a) ∧ c.s0.heap.get? a = some o ∧ o.data = .func fd
structure AOK (A : Around) : Prop where
  h : A.handled = none
  u : A.units + 200 < cLine
  d : A.depth < recursionLimit
theorem AOK.room {A : Around} (h : AOK A) : Room A := ⟨h.u, h.d⟩

noncomputable def ExcIs (c : Cx) (D O : OM) (F : FM) (H : MH) (e : Value) (cls : String) (s : Shared) : Prop := False
theorem ExcIs.sub {c : Cx} {D O O' : OM} {F F' : FM} {H : MH} {e : Value} {cls : String} {s : Shared} (ko : OLe O O') (kf : FLe F F') (x : ExcIs c D O' F' H e cls s) : ExcIs c D O F H e cls s := x.elim
noncomputable def EX (c : Cx) (D O : OM) (F : FM) (Z : Z0) (e : Value) (s : Shared) : Prop := ∃ D' H' cls, OLe D D' ∧ Rel c D' O F H' s ∧ ExcIs c D' O F H' e cls s ∧ Z cls H'
theorem EX.mono {c : Cx} {D D' O : OM} {F : FM} {Z : Z0} {e : Value} {s : Shared} (k : OLe D D') (h : EX c D' O F Z e s) : EX c D O F Z e s :=
  let ⟨D2, H', cls, a, b, d, z⟩ := h; ⟨D2, H', cls, k.trans a, b, d, z⟩

noncomputable def PostB (c : Cx) (D O : OM) (F : FM) (Q : Bool → MH → Prop) (b : Bool) (s' : Shared) : Prop := ∃ D' H', OLe D D' ∧ Rel c D' O F H' s' ∧ Q b H'
noncomputable def PostL (c : Cx) (D O : OM) (F : FM) (Q : List V → MH → Prop) (cs : List Value) (s' : Shared) : Prop := ∃ D' vs H', OLe D D' ∧ VRs D' cs vs ∧ Rel c D' O F H' s' ∧ Q vs H'
theorem Post.mono {c : Cx} {D D' O : OM} {F : FM} {Q : V → MH → Prop} {cv : Value} {s : Shared} (k : OLe D D') (h : Post c D' O F Q cv s) : Post c D O F Q cv s :=
  let ⟨D2, v, H', a, b⟩ := h; ⟨D2, v, H', k.trans a, b⟩
theorem PostB.mono {c : Cx} {D D' O : OM} {F : FM} {Q : Bool → MH → Prop} {b : Bool} {s : Shared} (k : OLe D D') (h : PostB c D' O F Q b s) : PostB c D O F Q b s :=
  let ⟨D2, H', a, b⟩ := h; ⟨D2, H', k.trans a, b⟩
abbrev WE {α : Type} (c : Cx) (A : Around) (t : Sem α) (Q : α → Shared → Prop) (E : Value → Shared → Prop) (s : Shared) : Prop := wpAny (model c.prog c.w) A t Q E s

theorem W.then {α : Type} {c : Cx} {A : Around} {t : Sem α} {P Q : α → Shared → Prop} {E : Value → Shared → Prop} {s : Shared} (h : W c A t P s) (k : ∀ a s', P a s' → Q a s') : WE c A t Q E s :=
  wpAny_mono h k fun _ _ f => f.elim

noncomputable def CallOK (c : Cx) (mg : Str → Option Value) (A : Around) (C : CallSem) : Prop := ∀ (f : String) (a : Addr) (D O : OM) (F : FM) (H : MH) (s : Shared) (cs : List Value) (vs : List V) (Q : V → MH → Prop) (Z : Z0),
  mg (nm f) = some (.ref a) → C f vs Q Z H → VRs D cs vs → Rel c D O F H s → WE c A (call (.ref a) cs) (Post c D O F Q) (EX c D O F Z) s

structure PF (c : Cx) (A : Around) : Prop where
  bc : ∀ {q : Prim} {x : String} {fv : Value} {D O : OM} {F : FM} {H : MH} {s : Shared} {cs : List Value} {vs : List V} {r : Res}, bfn q = some (x, fv) → primOp q H vs = some r → VRs D cs vs → Rel c D O F H s → W c A (call fv cs) (Fin c D O F H r) s
  bin : ∀ {op : Operator} {q : Prim} {D O : OM} {F : FM} {H : MH} {s : Shared} {a b : Value} {va vb : V} {r : Res}, binP op = some q → primOp q H [va, vb] = some r → VR D a va → VR D b vb → Rel c D O F H s → W c A (binaryOp op a b) (Fin c D O F H r) s
  cmp : ∀ {op : CmpOp} {q : Prim} {D O : OM} {F : FM} {H : MH} {s : Shared} {a b : Value} {va vb : V} {r : Res}, cmpP op = some q → primOp q H [va, vb] = some r → VR D a va → VR D b vb → Rel c D O F H s → W c A (compareOp op a b) (Fin c D O F H r) s
  meth : ∀ {q : Prim} {x : String} {D O : OM} {F : FM} {H : MH} {s : Shared} {ov : Value} {o : V}, methN q = some x → (methT q H o).isSome = true → VR D ov o → Rel c D O F H s → ∃ T id, PlainAttrs T ∧ Slot T (nm x) id ∧ typeOf (.builtin id) = pure (.type "method_descriptor") ∧ s.TypeIs ov T ∧
    (∀ a, ov = .ref a → ∃ ob, s.heap.get? a = some ob ∧ ob.dict = none) ∧ ∀ {D' : OM} {H' : MH} {s' : Shared} {cs : List Value} {vs : List V} {r : Res}, OLe D D' → primOp q H' (o :: vs) = some r → VRs D' cs vs → Rel c D' O F H' s' → W c A (call (.builtin id) (ov :: cs)) (Fin c D' O F H' r) s'
  idx : ∀ {value slice : Expr} {o i : Value} {vo vi : V} {D O : OM} {F : FM} {H : MH} {s : Shared} {r : Res}, (∀ l u p, slice ≠ .Slice l u none p) → primOp .idx H [vo, vi] = some r → VR D o vo → VR D i vi → Rel c D O F H s → W c A (PyProof.Rows.subscriptTail value slice o i) (Fin c D O F H r) s
  sl : ∀ {q : Prim} {value : Expr} {l u : Option Expr} {p : Pos} {o vl vu : Value} {vo vi : V} {D O : OM} {F : FM} {H : MH} {s : Shared} {r : Res}, primOp q H [vo, vi] = some r → (q = .sliceTo ∧ vl = .none ∧ VR D vu vi ∨ q = .sliceFrom ∧ VR D vl vi ∧ vu = .none) → VR D o vo → Rel c D O F H s →
    W c A (PyProof.Rows.subscriptTail value (.Slice l u none p) o (.ref s.heap.objs.size)) (Fin c D O F H r) { s with heap := s.heap.push { cls := .type "slice", data := .fields #[vl, vu, .none] } }
  lr : ∀ {a : Value} {va : V} {D O : OM} {F : FM} {H : MH} {s : Shared} {r : Res}, primOp .listRange H [va] = some r → VR D a va → Rel c D O F H s → W c A (call (.type "range") [a]) (fun rv s' => W c A (call (.type "list") [rv]) (Fin c D O F H r) s') s
  lrev : ∀ {a : Value} {va : V} {D O : OM} {F : FM} {H : MH} {s : Shared} {r : Res}, primOp .listRev H [va] = some r → VR D a va → Rel c D O F H s → W c A (call (.type "reversed") [a]) (fun rv s' => W c A (call (.type "list") [rv]) (Fin c D O F H r) s') s
  sset : ∀ {a : Value} {va : V} {D O : OM} {F : FM} {H : MH} {s : Shared} {r : Res}, primOp .sortedSet H [va] = some r → VR D a va → Rel c D O F H s → W c A (call (.type "set") [a]) (fun rv s' => W c A (call (.builtin "sorted") [rv]) (Fin c D O F H r) s') s
  si : ∀ {o i v : Value} {vo vi vv : V} {r : Res} {D O : OM} {F : FM} {H : MH} {s : Shared}, setOp H vo vi vv = some r → VR D o vo → VR D i vi → VR D v vv → Rel c D O F H s → W c A (setItem o i v) (fun _ s' => Fin c D O F H r .none s') s
  isi : ∀ {t : Ty} {a : Value} {va : V} {r : Res} {D O : OM} {F : FM} {H : MH} {s : Shared}, primOp (.isi t) H [va] = some r → VR D a va → Rel c D O F H s → W c A (call (.builtin "isinstance") [a, .type t.name]) (Fin c D O F H r) s
end Mini

end
section
set_option autoImplicit false
set_option linter.unusedVariables false
set_option linter.unusedSectionVars false
set_option maxRecDepth 100000
namespace Mini
open PySem

noncomputable def EvalOK (c : Cx) (A : Around) (C : CallSem) (K : Kn) (x : X) (e : Expr) : Prop := ∀ (env : PySem.Env) (ρ : Env) (D O : OM) (F : FM) (H : MH) (s : Shared) (Q : V → MH → Prop) (Z : Z0),
  FOK env → env.scope.names = K → FS env D O F ρ → Rel c D O F H s → wpE C x ρ Q Z H → WE c A (eval e env) (Post c D O F Q) (EX c D O F Z) s
noncomputable def TrueOK (c : Cx) (A : Around) (C : CallSem) (K : Kn) (x : X) (e : Expr) : Prop := ∀ (env : PySem.Env) (ρ : Env) (D O : OM) (F : FM) (H : MH) (s : Shared) (Q : Bool → MH → Prop) (Z : Z0),
  FOK env → env.scope.names = K → FS env D O F ρ → Rel c D O F H s → wpE C x ρ (asB Q) Z H → WE c A (isTrue e env (eval e env)) (PostB c D O F Q) (EX c D O F Z) s
noncomputable def SndE (c : Cx) (A : Around) (C : CallSem) (K : Kn) (x : X) (e : Expr) : Prop := EvalOK c A C K x e ∧ TrueOK c A C K x e
noncomputable def SplOK (c : Cx) (A : Around) (C : CallSem) (K : Kn) (xs : List X) (es : List Expr) : Prop := ∀ (env : PySem.Env) (ρ : Env) (D O : OM) (F : FM) (H : MH) (s : Shared) (Q : List V → MH → Prop) (Z : Z0) (pos : Pos),
  FOK env → env.scope.names = K → FS env D O F ρ → Rel c D O F H s → wpL C xs ρ Q Z H → WE c A (spliced (backTo pos (starEach es env))) (PostL c D O F Q) (EX c D O F Z) s

section
variable {c : Cx} {mg : Str → Option Value} {G : List String} {A : Around} {C : CallSem} {K : Kn}

theorem truthy_post {D O : OM} {F : FM} {Q : Bool → MH → Prop} {cv : Value} {s : Shared} {E : Value → Shared → Prop} (h : Post c D O F (asB Q) cv s) : WE c A (truthy cv) (PostB c D O F Q) E s := by
  obtain ⟨D', v, H', k, hv, R, b, rfl, q⟩ := h
  obtain rfl := hv.bool_inv
  exact wpAny_truthy_bool ⟨D', H', k, R, q⟩

theorem true_of_eval {x : X} {e : Expr} (h : EvalOK c A C K x e) (he : ∀ env wh, isTrue e env wh = (do let v ← wh; standAt e.pos; holding [v] (truthy v))) : SndE c A C K x e :=
  ⟨h, fun env ρ D O F H s Q Z hF hK fs R w => PyProof.Rows.isTrue_plain (wpAny_mono (h env ρ D O F H s _ Z hF hK fs R w) (fun _ _ p => truthy_post p) fun _ _ e => e) (he env _)⟩

section
variable {env : PySem.Env} {ρ : Env} {D O : OM} {F : FM} {H : MH} {s : Shared} {Z : Z0}

theorem eval1 {a : X} {l : Expr} {Q : List V → MH → Prop} {P : Value → Shared → Prop} (ha : EvalOK c A C K a l) (hF : FOK env) (hK : env.scope.names = K) (fs : FS env D O F ρ) (R : Rel c D O F H s) (h : wpL C [a] ρ Q Z H)
    (hP : ∀ av s1 D1 va H1, OLe D D1 → VR D1 av va → Rel c D1 O F H1 s1 → Q [va] H1 → P av s1) : WE c A (eval l env) P (EX c D O F Z) s := by
  have h' : wpE C a ρ (fun va H1 => Q [va] H1) Z H := h
  refine wpAny_mono (ha env ρ D O F H s _ Z hF hK fs R h') (fun av s1 p1 => ?_) fun _ _ e => e
  obtain ⟨D1, va, H1, k1, v1, R1, q1⟩ := p1
  exact hP av s1 D1 va H1 k1 v1 R1 q1

theorem eval2 {a b : X} {l r : Expr} {Q : List V → MH → Prop} {P : Value → Value → Shared → Prop} (ha : EvalOK c A C K a l) (hb : EvalOK c A C K b r) (hF : FOK env) (hK : env.scope.names = K) (fs : FS env D O F ρ) (R : Rel c D O F H s) (h : wpL C [a, b] ρ Q Z H)
    (hP : ∀ av bv s2 D2 va vb H2, OLe D D2 → VR D2 av va → VR D2 bv vb → Rel c D2 O F H2 s2 → Q [va, vb] H2 → P av bv s2) :
    WE c A (eval l env) (fun av s1 => WE c A (eval r env) (fun bv s2 => P av bv s2) (EX c D O F Z) s1) (EX c D O F Z) s := by
  have h' : wpE C a ρ (fun va H1 => wpE C b ρ (fun vb H2 => Q [va, vb] H2) Z H1) Z H := h
  refine wpAny_mono (ha env ρ D O F H s _ Z hF hK fs R h') (fun av s1 p1 => ?_) fun _ _ e => e
  obtain ⟨D1, va, H1, k1, v1, R1, q1⟩ := p1
  refine wpAny_mono (hb env ρ D1 O F H1 s1 _ Z hF hK (fs.mono k1) R1 q1) (fun bv s2 p2 => ?_) fun _ _ e => e.mono k1
  obtain ⟨D2, vb, H2, k2, v2, R2, q2⟩ := p2
  exact hP av bv s2 D2 va vb H2 (k1.trans k2) (v1.mono k2) v2 R2 q2

theorem W.post {t : Sem Value} {D' : OM} {H' : MH} {r : Res} {Q : V → MH → Prop} {E : Value → Shared → Prop} {s : Shared} (h : W c A t (Fin c D' O F H' r) s) (q : fin Q H' r) (k : OLe D D') : WE c A t (Post c D O F Q) E s :=
  h.then fun _ _ f => (f.post q).mono k

theorem glo_name {x : String} {v : Value} {p : Pos} {Q : Value → Shared → Prop} {E : Value → Shared → Prop} (gl : Gl c mg G) (hF : FOK env) (hk : gloK env.scope.names x = true) (hx : x ∈ bNames) (hv : bootBuiltins (nm x) = some v) (hn : nm x ≠ "__name__") (R : Rel c D O F H s) (h : Q v s) :
    WE c A (eval (.Name (nm x) p) env) Q E s := by
  have hk' : env.kindOf (nm x) = some .globalImplicit ∧ (nm x == ("__debug__" : Str)) = false := by
    have := Bool.and_eq_true_iff.mp hk
    exact ⟨by simpa [PySem.Env.kindOf] using this.1, by simpa using this.2⟩
  obtain ⟨mb, nb, hb⟩ := gl.b
  have kk : ∀ b o, c.s0.heap.get? b = some o → s.heap.get? b = some o := fun b o e => R.dat _ _ (R.base _ _ e)
  refine Calls.Name_function_global hF.kind hk'.1 (Calls.loadGlobal_builtin (mg := mg) (mb := mb) ?_ (gl.bl x hx) ?_ ?_ h) hk'.2
  · rw [hF.globals]; exact gl.g.keeps kk
  · rw [hF.builtins]; exact nb.keeps kk
  · rw [hb _ hn]; exact hv
theorem fn_name {f : String} {p : Pos} {Q : Value → Shared → Prop} {E : Value → Shared → Prop} {v : Value} (gl : Gl c mg G) (hF : FOK env) (hk : gloK env.scope.names f = true) (hv : mg (nm f) = some v) (R : Rel c D O F H s) (h : Q v s) :
    WE c A (eval (.Name (nm f) p) env) Q E s := by
  have hk' : env.kindOf (nm f) = some .globalImplicit ∧ (nm f == ("__debug__" : Str)) = false := by
    have := Bool.and_eq_true_iff.mp hk
    exact ⟨by simpa [PySem.Env.kindOf] using this.1, by simpa using this.2⟩
  have kk : ∀ b o, c.s0.heap.get? b = some o → s.heap.get? b = some o := fun b o e => R.dat _ _ (R.base _ _ e)
  refine Calls.Name_function_global hF.kind hk'.1 (Calls.loadGlobal_global (mg := mg) ?_ hv h) hk'.2
  rw [hF.globals]; exact gl.g.keeps kk
end

theorem boot_sorted : bootBuiltins (nm "sorted") = some (.builtin "sorted") := by decide +kernel
theorem boot_reversed : bootBuiltins (nm "reversed") = some (.type "reversed") := by decide +kernel
theorem boot_range' : bootBuiltins (nm "range") = some (.type "range") := by decide +kernel
theorem boot_list' : bootBuiltins (nm "list") = some (.type "list") := by decide +kernel
theorem boot_set' : bootBuiltins (nm "set") = some (.type "set") := by decide +kernel
theorem boot_isi : bootBuiltins (nm "isinstance") = some (.builtin "isinstance") := by decide +kernel
theorem boot_of {q : Prim} {x : String} {fv : Value} (h : bfn q = some (x, fv)) : bootBuiltins (nm x) = some fv ∧ x ∈ bNames ∧ nm x ≠ "__name__" ∧ ((∃ id, fv = .builtin id) ∨ ∃ T, fv = .type T) := by
  cases q <;> simp only [bfn] at h <;> (try (cases h; done)) <;> (cases h; refine ⟨by decide +kernel, by decide +kernel, by decide +kernel, ?_⟩; first | exact .inl ⟨_, rfl⟩ | exact .inr ⟨_, rfl⟩)

theorem callWith_fv {pos : Pos} {fv : Value} {first : List Value} {args : List (Bool × Sem Value)} {x : Sem Value} {Q : Value → Shared → Prop} {E : Value → Shared → Prop} {s : Shared} (hf : (∃ id, fv = .builtin id) ∨ ∃ T, fv = .type T)
    (hp : ((false, x) :: args).any (·.1) = false) (h : WE c A (spliced ((false, x) :: args)) (fun vs s' => WE c A (call fv (first ++ vs)) Q E s') E s) : WE c A (callWith pos fv first ((false, x) :: args) []) Q E s := by
  rcases hf with ⟨id, rfl⟩ | ⟨T, rfl⟩
  · exact Calls.callWith_builtin hp (Calls.evalArgs_plain h)
  · exact callWith_type hp (Calls.evalArgs_plain h)

theorem snd_none {k : Nat} {p : Pos} : SndE c A C K (.cst .none) (.Constant .none k p) :=
  true_of_eval (fun _ _ D _ _ H _ _ _ _ _ _ R h => PyProof.Rows.Constant_none ⟨D, .none, H, .refl D, .none, R, h⟩) fun _ _ => rfl
theorem snd_bool {b : Bool} {k : Nat} {p : Pos} : SndE c A C K (.cst (.bool b)) (.Constant (.bool b) k p) :=
  true_of_eval (fun _ _ D _ _ H _ _ _ _ _ _ R h => PyProof.Rows.Constant_bool ⟨D, .bool b, H, .refl D, .bool b, R, h⟩) fun _ _ => rfl
theorem snd_int {i : Int} {k : Nat} {p : Pos} : SndE c A C K (.cst (.int i)) (.Constant (.int i) k p) :=
  true_of_eval (fun _ _ D _ _ H _ _ _ _ _ _ R h => wpAny_Constant_int ⟨D, .int i, H, .refl D, .int i _, R.toks _, h⟩) fun _ _ => rfl
theorem snd_str {x : Str} {k : Nat} {p : Pos} (hx : x.length ≤ lim) : SndE c A C K (.cst (.str x)) (.Constant (.str x) k p) :=
  true_of_eval (fun _ _ D _ _ H _ _ _ _ _ _ R h => Calls.Constant_str ⟨D, .str x, H, .refl D, .str x _ hx, R.toks _, h⟩) fun _ _ => rfl
theorem snd_var {x : String} {p : Pos} (hk : varK (K.lookup (nm x)) = true) (hd : (nm x == ("__debug__" : Str)) = false) (hc : (nm x == ("__classdict__" : Str)) = false) (h0 : (x == ".0") = false) : SndE c A C K (.var x) (.Name (nm x) p) :=
  true_of_eval (fun env ρ D O F H s Q Z hF hK fs R h => by
    obtain ⟨v, hv, q⟩ := (h : ∃ v, ρ x = some v ∧ Q v H)
    refine wpAny_Name (load_snd hF fs R hv ?_ hc (by simpa using h0) fun cv r => ⟨D, v, H, .refl D, r, R, q⟩) hd
    have e : env.kindOf (nm x) = K.lookup (nm x) := by rw [← hK]; rfl
    rw [e]
    revert hk
    cases K.lookup (nm x) with
    | none => intro h; cases h
    | some k => cases k <;> intro h <;> first | exact .inl rfl | exact .inr (.inl rfl) | exact .inr (.inr rfl) | cases h) fun _ _ => rfl

theorem snd_bin (pf : PF c A) {op : Operator} {q : Prim} {a b : X} {l r : Expr} {p : Pos} (hq : binP op = some q) (ha : SndE c A C K a l) (hb : SndE c A C K b r) : SndE c A C K (.prim q [a, b]) (.BinOp l op r p) :=
  true_of_eval (fun env ρ D O F H s Q Z hF hK fs R h => wpAny_BinOp (eval2 ha.1 hb.1 hF hK fs R h fun av bv s2 D2 va vb H2 k v1 v2 R2 z => by
    obtain ⟨r, e, f⟩ := z
    exact (pf.bin hq e v1 v2 R2).post f k)) fun _ _ => rfl
theorem snd_neg {a : X} {e : Expr} {p : Pos} (ha : SndE c A C K a e) : SndE c A C K (.prim .neg [a]) (.UnaryOp .USub e p) :=
  true_of_eval (fun env ρ D O F H s Q Z hF hK fs R h => PyProof.Rows.UnaryOp_ (eval1 ha.1 hF hK fs R h fun av s1 D1 va H1 k v1 R1 z => by
    obtain ⟨r, e, f⟩ := z
    cases va <;> try (cases e; done)
    cases e
    exact (neg_snd R1 v1).post f k)) fun _ _ => rfl
theorem snd_not (hC : MonoC C) {a : X} {e : Expr} {p : Pos} (ha : SndE c A C K a e) : SndE c A C K (.prim .not [a]) (.UnaryOp .Not e p) :=
  ⟨fun env ρ D O F H s Q Z hF hK fs R h => PyProof.Rows.UnaryOp_ (eval1 ha.1 hF hK fs R h fun av s1 D1 va H1 k v1 R1 z => by
    obtain ⟨r, e, f⟩ := z
    cases va <;> try (cases e; done)
    cases e
    exact (not_snd R1 v1).post f k),
   fun env ρ D O F H s Q Z hF hK fs R h => PyProof.Rows.isTrue_not (by
    have h' : wpE C a ρ (fun va H1 => ∃ r, primOp .not H1 [va] = some r ∧ fin (asB Q) H1 r) Z H := h
    have h2 : wpE C a ρ (asB fun b H1 => Q (!b) H1) Z H := by
      refine wpE_mono hC h' (fun v H1 z => ?_) fun _ _ z => z
      obtain ⟨r, e, f⟩ := z
      cases v <;> try (cases e; done)
      cases e
      obtain ⟨b, e, q⟩ := f
      cases e
      exact ⟨_, rfl, q⟩
    exact ha.2 env ρ D O F H s _ Z hF hK fs R h2)⟩

theorem true_cmp {op : CmpOp} {q : Prim} {a b : X} {l r : Expr} {p : Pos} (hr : okE r = true) (h : ∀ (env : PySem.Env) (ρ : Env) (D O : OM) (F : FM) (H : MH) (s : Shared) (Q : V → MH → Prop) (Z : Z0),
    FOK env → env.scope.names = K → FS env D O F ρ → Rel c D O F H s → wpE C (.prim q [a, b]) ρ Q Z H → WE c A (eval l env) (fun av s1 => WE c A (eval r env) (fun bv s2 => WE c A (compareOp op av bv) (Post c D O F Q) (EX c D O F Z) s2) (EX c D O F Z) s1) (EX c D O F Z) s) :
    SndE c A C K (.prim q [a, b]) (.Compare l [op] [r] p) :=
  ⟨fun env ρ D O F H s Q Z hF hK fs R w => wpAny_Compare1 (h env ρ D O F H s Q Z hF hK fs R w) (hr |> fun k => okE.behind k op),
   fun env ρ D O F H s Q Z hF hK fs R w => wpAny_isTrue_Compare1 (wpAny_mono (h env ρ D O F H s _ Z hF hK fs R w) (fun _ _ p => wpAny_mono p (fun _ _ p => wpAny_mono p (fun _ _ p => truthy_post p) fun _ _ e => e) fun _ _ e => e) fun _ _ e => e) (hr |> fun k => okE.behind k op)⟩
theorem snd_cmp (pf : PF c A) {op : CmpOp} {q : Prim} {a b : X} {l r : Expr} {p : Pos} (hq : cmpP op = some q) (hr : okE r = true) (ha : SndE c A C K a l) (hb : SndE c A C K b r) : SndE c A C K (.prim q [a, b]) (.Compare l [op] [r] p) :=
  true_cmp hr fun env ρ D O F H s Q Z hF hK fs R h => eval2 ha.1 hb.1 hF hK fs R h fun av bv s2 D2 va vb H2 k v1 v2 R2 z => by
    obtain ⟨r, e, f⟩ := z
    exact (pf.cmp hq e v1 v2 R2).post f k
theorem true_cmp1 {op : CmpOp} {q : Prim} {a : X} {l : Expr} {p p' : Pos} {k : Nat} (h : ∀ (env : PySem.Env) (ρ : Env) (D O : OM) (F : FM) (H : MH) (s : Shared) (Q : V → MH → Prop) (Z : Z0),
    FOK env → env.scope.names = K → FS env D O F ρ → Rel c D O F H s → wpE C (.prim q [a]) ρ Q Z H → WE c A (eval l env) (fun av s1 => WE c A (compareOp op av .none) (Post c D O F Q) (EX c D O F Z) s1) (EX c D O F Z) s) :
    SndE c A C K (.prim q [a]) (.Compare l [op] [.Constant .none k p'] p) :=
  ⟨fun env ρ D O F H s Q Z hF hK fs R w => wpAny_Compare1 (wpAny_mono (h env ρ D O F H s Q Z hF hK fs R w) (fun _ _ p => PyProof.Rows.Constant_none p) fun _ _ e => e) rfl,
   fun env ρ D O F H s Q Z hF hK fs R w => wpAny_isTrue_Compare1 (wpAny_mono (h env ρ D O F H s _ Z hF hK fs R w) (fun _ _ p => PyProof.Rows.Constant_none (wpAny_mono p (fun _ _ p => truthy_post p) fun _ _ e => e)) fun _ _ e => e) rfl⟩
theorem snd_one {op : BoolOp} {a : X} {e : Expr} {p : Pos} (ha : SndE c A C K a e) : SndE c A C K a (.BoolOp op [e] p) :=
  ⟨fun env ρ D O F H s Q Z hF hK fs R h => PyProof.Rows.BoolOp_one (ha.1 env ρ D O F H s Q Z hF hK fs R h),
   fun env ρ D O F H s Q Z hF hK fs R h => by
    have := ha.2 env ρ D O F H s Q Z hF hK fs R h
    cases op with
    | And => exact PyProof.Rows.isTrue_and (wpAny_mono this (fun b s' p => by cases b with
        | true => exact PyProof.Rows.isTrue_and_nil p
        | false => exact p) fun _ _ e => e)
    | Or => exact PyProof.Rows.isTrue_or (wpAny_mono this (fun b s' p => by cases b with
        | true => exact p
        | false => exact PyProof.Rows.isTrue_or_nil p) fun _ _ e => e)⟩
theorem isTrue_bool_whole {op : BoolOp} {es : List Expr} {p : Pos} {env : PySem.Env} (w w' : Sem Value) : isTrue (.BoolOp op es p) env w = isTrue (.BoolOp op es p) env w' := rfl
theorem snd_and {a b : X} {e e' : Expr} {es : List Expr} {p : Pos} (ha : SndE c A C K a e) (hb : SndE c A C K b (.BoolOp .And (e' :: es) p)) : SndE c A C K (.and a b) (.BoolOp .And (e :: e' :: es) p) :=
  ⟨fun env ρ D O F H s Q Z hF hK fs R h => PyProof.Rows.BoolOp_and (by
    have h' : wpE C a ρ (asB fun b' H' => (b' = true → wpE C b ρ Q Z H') ∧ (b' = false → Q (.bool false) H')) Z H := h
    refine wpAny_mono (ha.1 env ρ D O F H s _ Z hF hK fs R h') (fun av s1 p1 => ?_) fun _ _ e => e
    obtain ⟨D1, v, H1, k, hv, R1, b', rfl, q1, q2⟩ := p1
    obtain rfl := hv.bool_inv
    refine wpAny_truthy_bool ?_
    cases b' with
    | true => exact wpAny_mono (hb.1 env ρ D1 O F H1 s1 Q Z hF hK (fs.mono k) R1 (q1 rfl)) (fun _ _ p => p.mono k) fun _ _ e => e.mono k
    | false => exact ⟨D1, _, H1, k, hv, R1, q2 rfl⟩),
   fun env ρ D O F H s Q Z hF hK fs R h => PyProof.Rows.isTrue_and (by
    have h' : wpE C a ρ (asB fun b' H' => (b' = true → wpE C b ρ (asB Q) Z H') ∧ (b' = false → asB Q (.bool false) H')) Z H := h
    refine wpAny_mono (ha.2 env ρ D O F H s _ Z hF hK fs R h') (fun b' s1 p1 => ?_) fun _ _ e => e
    obtain ⟨D1, H1, k, R1, q1, q2⟩ := p1
    cases b' with
    | true =>
      rw [if_pos rfl, isTrue_bool_whole _ (eval (.BoolOp .And (e' :: es) p) env)]
      exact wpAny_mono (hb.2 env ρ D1 O F H1 s1 Q Z hF hK (fs.mono k) R1 (q1 rfl)) (fun _ _ p => p.mono k) fun _ _ e => e.mono k
    | false =>
      obtain ⟨b2, e2, q⟩ := q2 rfl
      cases e2
      exact ⟨D1, H1, k, R1, q⟩)⟩
theorem snd_or {a b : X} {e e' : Expr} {es : List Expr} {p : Pos} (ha : SndE c A C K a e) (hb : SndE c A C K b (.BoolOp .Or (e' :: es) p)) : SndE c A C K (.or a b) (.BoolOp .Or (e :: e' :: es) p) :=
  ⟨fun env ρ D O F H s Q Z hF hK fs R h => PyProof.Rows.BoolOp_or (by
    have h' : wpE C a ρ (asB fun b' H' => (b' = false → wpE C b ρ Q Z H') ∧ (b' = true → Q (.bool true) H')) Z H := h
    refine wpAny_mono (ha.1 env ρ D O F H s _ Z hF hK fs R h') (fun av s1 p1 => ?_) fun _ _ e => e
    obtain ⟨D1, v, H1, k, hv, R1, b', rfl, q1, q2⟩ := p1
    obtain rfl := hv.bool_inv
    refine wpAny_truthy_bool ?_
    cases b' with
    | false => exact wpAny_mono (hb.1 env ρ D1 O F H1 s1 Q Z hF hK (fs.mono k) R1 (q1 rfl)) (fun _ _ p => p.mono k) fun _ _ e => e.mono k
    | true => exact ⟨D1, _, H1, k, hv, R1, q2 rfl⟩),
   fun env ρ D O F H s Q Z hF hK fs R h => PyProof.Rows.isTrue_or (by
    have h' : wpE C a ρ (asB fun b' H' => (b' = false → wpE C b ρ (asB Q) Z H') ∧ (b' = true → asB Q (.bool true) H')) Z H := h
    refine wpAny_mono (ha.2 env ρ D O F H s _ Z hF hK fs R h') (fun b' s1 p1 => ?_) fun _ _ e => e
    obtain ⟨D1, H1, k, R1, q1, q2⟩ := p1
    cases b' with
    | false =>
      rw [if_neg (by decide), isTrue_bool_whole _ (eval (.BoolOp .Or (e' :: es) p) env)]
      exact wpAny_mono (hb.2 env ρ D1 O F H1 s1 Q Z hF hK (fs.mono k) R1 (q1 rfl)) (fun _ _ p => p.mono k) fun _ _ e => e.mono k
    | true =>
      obtain ⟨b2, e2, q⟩ := q2 rfl
      cases e2
      exact ⟨D1, H1, k, R1, q⟩)⟩
theorem snd_idx (pf : PF c A) {a b : X} {l r : Expr} {p : Pos} (hr : okE r = true) (ha : SndE c A C K a l) (hb : SndE c A C K b r) : SndE c A C K (.prim .idx [a, b]) (.Subscript l r p) :=
  true_of_eval (fun env ρ D O F H s Q Z hF hK fs R h => PyProof.Rows.Subscript_ (eval2 ha.1 hb.1 hF hK fs R h fun av bv s2 D2 va vb H2 k v1 v2 R2 z => by
    obtain ⟨r, e, f⟩ := z
    exact (pf.idx (okE.slice hr) e v1 v2 R2).post f k)) fun _ _ => rfl
theorem snd_sliceTo (pf : PF c A) {a b : X} {l r : Expr} {p q : Pos} (ha : SndE c A C K a l) (hb : SndE c A C K b r) : SndE c A C K (.prim .sliceTo [a, b]) (.Subscript l (.Slice none (some r) none q) p) :=
  true_of_eval (fun env ρ D O F H s Q Z hF hK fs R h => PyProof.Rows.Subscript_ (wpAny_mono (eval2 ha.1 hb.1 hF hK fs R h (P := fun av bv s2 => WE c A (PyProof.Rows.subscriptTail l (.Slice none (some r) none q) av (.ref s2.heap.objs.size)) (Post c D O F Q) (EX c D O F Z) { s2 with heap := s2.heap.push { cls := .type "slice", data := .fields #[.none, bv, .none] } })
    fun av bv s2 D2 va vb H2 k v1 v2 R2 z => by
      obtain ⟨r, e, f⟩ := z
      exact (pf.sl e (.inl ⟨rfl, rfl, v2⟩) v1 R2).post f k) (fun av s1 p1 => wpAny_Slice (wpAny_pure (a := Value.none) (wpAny_mono p1 (fun bv s2 p2 => wpAny_pure (a := Value.none) p2) fun _ _ e => e))) fun _ _ e => e)) fun _ _ => rfl
theorem snd_sliceFrom (pf : PF c A) {a b : X} {l r : Expr} {p q : Pos} (ha : SndE c A C K a l) (hb : SndE c A C K b r) : SndE c A C K (.prim .sliceFrom [a, b]) (.Subscript l (.Slice (some r) none none q) p) :=
  true_of_eval (fun env ρ D O F H s Q Z hF hK fs R h => PyProof.Rows.Subscript_ (wpAny_mono (eval2 ha.1 hb.1 hF hK fs R h (P := fun av bv s2 => WE c A (PyProof.Rows.subscriptTail l (.Slice (some r) none none q) av (.ref s2.heap.objs.size)) (Post c D O F Q) (EX c D O F Z) { s2 with heap := s2.heap.push { cls := .type "slice", data := .fields #[bv, .none, .none] } })
    fun av bv s2 D2 va vb H2 k v1 v2 R2 z => by
      obtain ⟨r, e, f⟩ := z
      exact (pf.sl e (.inr ⟨rfl, v2, rfl⟩) v1 R2).post f k) (fun av s1 p1 => wpAny_Slice (wpAny_mono p1 (fun bv s2 p2 => wpAny_pure (a := Value.none) (wpAny_pure (a := Value.none) p2)) fun _ _ e => e)) fun _ _ e => e)) fun _ _ => rfl

theorem spl_nil : SplOK c A C K [] [] := fun env ρ D O F H s Q Z pos hF hK fs R h => Calls.spliced_nil ⟨D, [], H, .refl D, .nil, R, h⟩
theorem spl_cons {x : X} {xs : List X} {e : Expr} {es : List Expr} (ho : okE e = true) (he : SndE c A C K x e) (hes : SplOK c A C K xs es) : SplOK c A C K (x :: xs) (e :: es) := fun env ρ D O F H s Q Z pos hF hK fs R h => by
  rw [ho |> fun k => okE.star k es env]
  refine Calls.spliced_cons ?_
  have h' : wpE C x ρ (fun v H' => wpL C xs ρ (fun vs H'' => Q (v :: vs) H'') Z H') Z H := h
  refine wpAny_mono (he.1 env ρ D O F H s _ Z hF hK fs R h') (fun av s1 p1 => ?_) fun _ _ e => e
  obtain ⟨D1, va, H1, k1, v1, R1, q1⟩ := p1
  refine wpAny_mono (hes env ρ D1 O F H1 s1 _ Z pos hF hK (fs.mono k1) R1 q1) (fun cs s2 p2 => ?_) fun _ _ e => e.mono k1
  obtain ⟨D2, vs, H2, k2, v2, R2, q2⟩ := p2
  exact ⟨D2, va :: vs, H2, k1.trans k2, .cons (v1.mono k2) v2, R2, q2⟩

theorem snd_tuple {xs : List X} {es : List Expr} {k : Nat} {p : Pos} (h : SplOK c A C K xs es) : SndE c A C K (.prim .tuple xs) (.Tuple es k p) :=
  true_of_eval (fun env ρ D O F H s Q Z hF hK fs R w => wpAny_Tuple_spliced (wpAny_mono (h env ρ D O F H s _ Z p hF hK fs R w) (fun cs s1 p1 => by
    obtain ⟨D1, vs, H1, k1, v1, R1, r, e, f⟩ := p1
    have e' : (if vs.length ≤ lim then some (Res.val (.tup vs)) else none) = some r := e
    split at e'
    · rename_i hl
      cases e'
      refine ⟨by rw [v1.1]; unfold lim at hl; rw [sizeLine_eq]; (first | lia | omega), ?_⟩
      exact ((fin_newTup (tk := s1.toks) R1 v1 hl rfl).post f).mono k1
    · cases e') fun _ _ e => e)) fun _ _ => rfl
theorem snd_list {xs : List X} {es : List Expr} {p : Pos} (h : SplOK c A C K xs es) : SndE c A C K (.prim .list xs) (.List es p) :=
  true_of_eval (fun env ρ D O F H s Q Z hF hK fs R w => wpAny_List_spliced (wpAny_mono (h env ρ D O F H s _ Z p hF hK fs R w) (fun cs s1 p1 => by
    obtain ⟨D1, vs, H1, k1, v1, R1, r, e, f⟩ := p1
    have e' : (if vs.length ≤ lim then some (Res.new (.list vs)) else none) = some r := e
    split at e'
    · rename_i hl
      cases e'
      refine ⟨by rw [v1.1]; unfold lim at hl; rw [sizeLine_eq]; (first | lia | omega), ?_⟩
      exact ((fin_newList (tk := s1.toks) R1 v1 hl rfl).post f).mono k1
    · cases e') fun _ _ e => e)) fun _ _ => rfl
end
end Mini

end
section
set_option autoImplicit false
set_option linter.unusedVariables false
set_option linter.unusedSectionVars false
set_option maxRecDepth 100000
namespace Mini
open PySem

theorem Rel.o2h {c : Cx} {D O : OM} {F : FM} {H : MH} {s : Shared} {d : Addr} {o o' : Obj} {ob : Ob} {h' : Heap} {tk : Nat} (R : Rel c D (oput O d o) F H s) (hO : O d = none) (hs : Heap.SameBut d s.heap h') (e : h'.get? d = some o') (k : OR c D o' ob) :
    H d = none ∧ Rel c D O F (hupd H d ob) { s with heap := h', toks := tk } := by
  obtain ⟨_, hD, hF, hH⟩ := R.oth d o (oput_same ..)
  refine ⟨hH, ?_⟩
  have R1 := (R.setO (tk := tk) (oput_same ..) hs e)
  have R2 : Rel c D O F H { s with heap := h', toks := tk } := R1.subO fun b x q => by
    have : b ≠ d := fun z => by rw [z, hO] at q; cases q
    rw [oput_ne this, oput_ne this]; exact q
  exact R2.newH e hD hO hF k (R.lo d (.inr ⟨_, oput_same ..⟩))

theorem orEmpty {c : Cx} {D : OM} {o : Obj} (h : o = { cls := .type "dict", data := .dict #[] }) : OR c D o (.dict []) := by
  subst h
  exact .dict (es := #[]) ⟨rfl, rfl, rfl⟩ rfl (.int [] (fun e he => by simp at he) .nil (by simp) .nil) (Nat.zero_le _)

section
variable {c : Cx} {mg : Str → Option Value} {G : List String} {A : Around} {C : CallSem} {K : Kn}

theorem snd_bcall (pf : PF c A) (gl : Gl c mg G) {q : Prim} {x : String} {fv : Value} {xs : List X} {e : Expr} {es : List Expr} {p p' : Pos} (hq : bfn q = some (x, fv)) (hg : gloK K x = true) (ho : okE e = true)
    (hn : ∀ pos env, (backTo pos (starEach (e :: es) env)).any (·.1) = false) (h : SplOK c A C K xs (e :: es)) : SndE c A C K (.prim q xs) (.Call (.Name (nm x) p') (e :: es) [] p) :=
  true_of_eval (fun env ρ D O F H s Q Z hF hK fs R w => by
    obtain ⟨b1, b2, b3, b4⟩ := boot_of hq
    refine wpAny_Call_Name_kw (glo_name gl hF (by rw [hK]; exact hg) b2 b1 b3 R ?_)
    have hs := hn p env
    have h1 := h env ρ D O F H s _ Z p hF hK fs R w
    rw [okE.star ho] at hs h1 ⊢
    refine callWith_fv b4 hs (wpAny_mono h1 (fun cs s1 p1 => ?_) fun _ _ e => e)
    obtain ⟨D1, vs, H1, k1, v1, R1, r, e, f⟩ := p1
    exact (pf.bc hq e v1 R1).post f k1) fun _ _ => rfl
theorem snd_isi (pf : PF c A) (gl : Gl c mg G) {t : Ty} {a : X} {e : Expr} {p p' p'' : Pos} (hg : gloK K "isinstance" = true) (ht : gloK K t.name = true) (ho : okE e = true) (ha : SndE c A C K a e) :
    SndE c A C K (.prim (.isi t) [a]) (.Call (.Name (nm "isinstance") p') [e, .Name (nm t.name) p''] [] p) :=
  true_of_eval (fun env ρ D O F H s Q Z hF hK fs R w => by
    refine wpAny_Call_Name_kw (glo_name gl hF (by rw [hK]; exact hg) (by decide) boot_isi (by decide +kernel) R ?_)
    rw [okE.star ho]
    refine callWith_fv (.inl ⟨_, rfl⟩) rfl (Calls.spliced_cons (eval1 ha.1 hF hK fs R w fun av s1 D1 va H1 k v1 R1 z => ?_))
    show WE c A (spliced [(false, eval (.Name (nm t.name) p'') env)]) _ _ _
    refine Calls.spliced_cons (glo_name (v := .type t.name) gl hF (by rw [hK]; exact ht) (by cases t <;> decide) (by cases t <;> decide +kernel) (by cases t <;> decide +kernel) R1 (Calls.spliced_nil ?_))
    obtain ⟨r, e, f⟩ := z
    exact (pf.isi e v1 R1).post f k) fun _ _ => rfl
theorem call_call (gl : Gl c mg G) {x y : String} {fv gv : Value} {q : Prim} {a : X} {e : Expr} {p p' p'' p3 : Pos} (hx : gloK K x = true) (hy : gloK K y = true) (xb : x ∈ bNames) (yb : y ∈ bNames) (xv : bootBuiltins (nm x) = some fv) (yv : bootBuiltins (nm y) = some gv)
    (xn : nm x ≠ "__name__") (yn : nm y ≠ "__name__") (xf : (∃ id, fv = .builtin id) ∨ ∃ T, fv = .type T) (yf : (∃ id, gv = .builtin id) ∨ ∃ T, gv = .type T) (ho : okE e = true) (ha : SndE c A C K a e)
    (hp : ∀ {a : Value} {va : V} {D O : OM} {F : FM} {H : MH} {s : Shared} {r : Res}, primOp q H [va] = some r → VR D a va → Rel c D O F H s → W c A (call gv [a]) (fun rv s' => W c A (call fv [rv]) (Fin c D O F H r) s') s) :
    SndE c A C K (.prim q [a]) (.Call (.Name (nm x) p') [.Call (.Name (nm y) p'') [e] [] p3] [] p) :=
  true_of_eval (fun env ρ D O F H s Q Z hF hK fs R w => by
    refine wpAny_Call_Name_kw (glo_name gl hF (by rw [hK]; exact hx) xb xv xn R ?_)
    show WE c A (callWith p fv [] [(false, eval (.Call (.Name (nm y) p'') [e] [] p3) env)] []) _ _ _
    refine callWith_fv xf rfl (Calls.spliced_cons ?_)
    refine wpAny_Call_Name_kw (glo_name gl hF (by rw [hK]; exact hy) yb yv yn R ?_)
    rw [okE.star ho]
    refine callWith_fv yf rfl (Calls.spliced_cons (eval1 ha.1 hF hK fs R w fun av s1 D1 va H1 k v1 R1 z => Calls.spliced_nil ?_))
    obtain ⟨r, e, f⟩ := z
    exact (hp e v1 R1).then fun rv s2 h2 => Calls.spliced_nil (h2.post f k)) fun _ _ => rfl
theorem snd_listRev (pf : PF c A) (gl : Gl c mg G) {a : X} {e : Expr} {p p' p'' q : Pos} (h1 : gloK K "list" = true) (h2 : gloK K "reversed" = true) (ho : okE e = true) (ha : SndE c A C K a e) :
    SndE c A C K (.prim .listRev [a]) (.Call (.Name (nm "list") p') [.Call (.Name (nm "reversed") p'') [e] [] q] [] p) :=
  call_call gl h1 h2 (by decide) (by decide) boot_list' boot_reversed (by decide +kernel) (by decide +kernel) (.inr ⟨_, rfl⟩) (.inr ⟨_, rfl⟩) ho ha pf.lrev
theorem snd_sortedSet (pf : PF c A) (gl : Gl c mg G) {a : X} {e : Expr} {p p' p'' q : Pos} (h1 : gloK K "sorted" = true) (h2 : gloK K "set" = true) (ho : okE e = true) (ha : SndE c A C K a e) :
    SndE c A C K (.prim .sortedSet [a]) (.Call (.Name (nm "sorted") p') [.Call (.Name (nm "set") p'') [e] [] q] [] p) :=
  call_call gl h1 h2 (by decide) (by decide) boot_sorted boot_set' (by decide +kernel) (by decide +kernel) (.inl ⟨_, rfl⟩) (.inr ⟨_, rfl⟩) ho ha pf.sset

theorem snd_meth1 (pf : PF c A) {q : Prim} {x : String} {a b : X} {o e : Expr} {p p' : Pos} (hq : methN q = some x) (hl : (p'.endLine == p.line) = true) (oo : okE o = true) (oe : okE e = true) (ha : SndE c A C K a o) (hb : SndE c A C K b e) :
    SndE c A C K (.meth q a [b]) (.Call (.Attribute o (nm x) p') [e] [] p) :=
  true_of_eval (fun env ρ D O F H s Q Z hF hK fs R w => by
    refine Call_method1 (okE.base oo _ _ _) (okE.star oe _ _) hl ?_
    have w' : wpE C a ρ (fun ov H1 => (methT q H1 ov).isSome = true ∧ wpL C [b] ρ (fun vs H2 => ∃ r, primOp q H2 (ov :: vs) = some r ∧ fin Q H2 r) Z H1) Z H := w
    refine wpAny_mono (ha.1 env ρ D O F H s _ Z hF hK fs R w') (fun ov s1 p1 => ?_) fun _ _ e => e
    obtain ⟨D1, vo, H1, k1, v1, R1, q1, q2⟩ := p1
    obtain ⟨T, id, m1, m2, m3, m4, m5, m6⟩ := pf.meth hq q1 v1 R1
    refine ⟨T, id, m1, m2, m3, m4, m5, Calls.callWith_builtin rfl (Calls.evalArgs_plain (Calls.spliced_cons ?_))⟩
    refine wpAny_mono (eval1 hb.1 hF hK (fs.mono k1) R1 q2 (P := fun bv s2 => WE c A (call (.builtin id) (ov :: [bv])) (Post c D O F Q) (EX c D O F Z) s2) fun bv s2 D2 vb H2 k2 v2 R2 z => ?_) (fun _ _ h => Calls.spliced_nil h) fun _ _ e => e.mono k1
    obtain ⟨r, e, f⟩ := z
    exact (m6 k2 e (.cons v2 .nil) R2).post f (k1.trans k2)) fun _ _ => rfl
theorem snd_meth2 (pf : PF c A) {q : Prim} {x : String} {a b d : X} {o e e' : Expr} {p p' : Pos} (hq : methN q = some x) (hl : (p'.endLine == p.line) = true) (oo : okE o = true) (oe : okE e = true) (oe' : okE e' = true) (ha : SndE c A C K a o) (hb : SndE c A C K b e) (hd : SndE c A C K d e') :
    SndE c A C K (.meth q a [b, d]) (.Call (.Attribute o (nm x) p') [e, e'] [] p) :=
  true_of_eval (fun env ρ D O F H s Q Z hF hK fs R w => by
    refine Call_method2 (okE.base oo _ _ _) (by rw [okE.star oe, okE.star oe']; rfl) hl ?_
    have w' : wpE C a ρ (fun ov H1 => (methT q H1 ov).isSome = true ∧ wpL C [b, d] ρ (fun vs H2 => ∃ r, primOp q H2 (ov :: vs) = some r ∧ fin Q H2 r) Z H1) Z H := w
    refine wpAny_mono (ha.1 env ρ D O F H s _ Z hF hK fs R w') (fun ov s1 p1 => ?_) fun _ _ e => e
    obtain ⟨D1, vo, H1, k1, v1, R1, q1, q2⟩ := p1
    obtain ⟨T, id, m1, m2, m3, m4, m5, m6⟩ := pf.meth hq q1 v1 R1
    refine ⟨T, id, m1, m2, m3, m4, m5, Calls.callWith_builtin rfl (Calls.evalArgs_plain (Calls.spliced_cons ?_))⟩
    refine wpAny_mono (eval2 hb.1 hd.1 hF hK (fs.mono k1) R1 q2 (P := fun bv dv s2 => WE c A (call (.builtin id) (ov :: [bv, dv])) (Post c D O F Q) (EX c D O F Z) s2) fun bv dv s2 D2 vb vd H2 k2 v2 v3 R2 z => ?_)
      (fun _ _ h => Calls.spliced_cons (wpAny_mono h (fun _ _ h => Calls.spliced_nil h) fun _ _ e => e.mono k1)) fun _ _ e => e.mono k1
    obtain ⟨r, e, f⟩ := z
    exact (m6 k2 e (.cons v2 (.cons v3 .nil)) R2).post f (k1.trans k2)) fun _ _ => rfl
theorem snd_call (gl : Gl c mg G) (hc : CallOK c mg A C) {f : String} {xs : List X} {e : Expr} {es : List Expr} {p p' : Pos} (hf : G.contains f = true) (hg : gloK K f = true) (ho : okE e = true) (h : SplOK c A C K xs (e :: es)) :
    SndE c A C K (.call f xs) (.Call (.Name (nm f) p') (e :: es) [] p) :=
  true_of_eval (fun env ρ D O F H s Q Z hF hK fs R w => by
    obtain ⟨a, o, fd, f1, f2, f3⟩ := gl.fn f hf
    refine wpAny_Call_Name_kw (fn_name gl hF (by rw [hK]; exact hg) f1 R ?_)
    have h1 := h env ρ D O F H s _ Z p hF hK fs R w
    rw [okE.star ho] at h1 ⊢
    refine Calls.callWith_function (o := o) (fd := fd) (Calls.evalArgs_plain (wpAny_mono h1 (fun cs s1 p1 => ?_) fun _ _ e => e))
    obtain ⟨D1, vs, H1, k1, v1, R1, q1⟩ := p1
    refine ⟨⟨R1.dat _ _ (R1.base _ _ f2), f3⟩, ?_⟩
    exact wpAny_mono (hc f a D1 O F H1 s1 cs vs Q Z f1 q1 v1 R1) (fun _ _ p => p.mono k1) fun _ _ e => e.mono k1) fun _ _ => rfl
theorem snd_dict0 {p : Pos} : SndE c A C K (.prim .dict0 []) (.Dict [] [] p) :=
  true_of_eval (fun env ρ D O F H s Q Z hF hK fs R w => by
    obtain ⟨r, e, f⟩ := (w : ∃ r, primOp .dict0 H [] = some r ∧ fin Q H r)
    cases e
    refine wpAny_Dict_empty ?_
    obtain ⟨f1, f2, f3, f4⟩ := R.fresh
    refine ⟨D, .ref s.heap.objs.size, _, .refl D, .ref _, (R.grow (tk := s.toks) fun b o e => Heap.get?_push_of_some _ e).newH (Heap.get?_push_size _ rfl) f1 f2 f3 ?_ (R.freshLo (Nat.le_refl _)), f _ f4⟩
    exact orEmpty rfl) fun _ _ => rfl
end
end Mini

end
section
set_option autoImplicit false
set_option linter.unusedVariables false
set_option linter.unusedSectionVars false
set_option maxRecDepth 100000
namespace Mini
open PySem

theorem hupd_hupd (H : MH) (a : Addr) (o o' : Ob) : hupd (hupd H a o) a o' = hupd H a o' := by
  funext b; by_cases h : b = a <;> simp [hupd, h]
theorem hupd_same (H : MH) (a : Addr) (o : Ob) : hupd H a o a = some o := by simp [hupd]

section
variable {c : Cx} {A : Around} {D O : OM} {F : FM} {H : MH} {s : Shared}
theorem dictSet_snd {a b : Value} {d : Addr} {k v : V} {kvs : List (V × V)} (R : Rel c D O F H s) (M : AOK A) (ha : VR D a k) (hb : VR D b v) (e : H d = some (.dict kvs)) (ok : dOK kvs k = true) (hlt : kvs.length < lim) :
    W c A (dictSet d a b) (fun _ s' => Rel c D O F (hupd H d (.dict (dput kvs k v))) s') s := by
  obtain ⟨X, hl⟩ := R.dictAt e
  have hl' : (dput kvs k v).length ≤ lim := Nat.le_trans (dput_length kvs) hlt
  have hsz : ∀ {n : Nat}, n = kvs.length → n ≤ sizeLine := fun q => by rw [q, sizeLine_eq]; unfold lim at hl; (first | lia | omega)
  cases dictKey_of X ha ok with
  | int xs i h1 h2 h3 h4 =>
    subst h3
    refine wpAny_dictSet_pairs h4 h1 (fun h' hd hs => ?_) (hsz h2.1)
    obtain ⟨o, q1, q2⟩ := DictR.obj (c := c) (D := D) (h' := h') (d := d) hl' (.inl ⟨_, hd, KV.put int_inj hb (let ⟨_, _, _, _, _, _, _, _, n⟩ := h1; n) h2⟩)
    exact R.setH e hs q1 q2
  | tup xs is x h1 h2 h3 h4 h5 h6 =>
    subst h4 h5
    refine wpAny_dictSet_heap (knd := tupleKind (intKind c.prog c.w)) (by have := M.u; show A.units < cLine; (first | lia | omega)) (h6.key R) h1 (fun h' hd hs => ?_) (hsz (by have := h3.1; simpa [PyProof.Rows.kvsOf] using this))
    have hn : ((PyProof.Rows.kvsOf xs).map (·.1)).Nodup := by
      obtain ⟨_, _, _, _, _, _, _, _, n⟩ := h1
      simpa [PyProof.Rows.kvsOf, List.map_map, Function.comp_def] using n
    obtain ⟨o, q1, q2⟩ := DictR.obj (c := c) (D := D) (h' := h') (d := d) hl' (.inr (.inr ⟨_, hd, fun y hy => by
        rcases PyProof.Rows.mem_storedH hy with ⟨z, hz, e1, e2⟩ | ⟨e1, e2⟩
        · rw [e1, e2]; exact h2 z hz
        · rw [e1, e2]; exact h6, by rw [PyProof.Rows.kvsOf_storedH]; exact KV.put encT_inj hb hn h3⟩))
    exact R.setH e hs q1 q2
end

section
variable {c : Cx} {mg : Str → Option Value} {G : List String} {A : Around} {C : CallSem} {K : Kn}

theorem EX.sub {D O : OM} {F : FM} {Z : Z0} {e : Value} {s : Shared} {d : Addr} {o : Obj} (hO : O d = none) (h : EX c D (oput O d o) F Z e s) : EX c D O F Z e s := by
  obtain ⟨D', H', cls, k, R, x, z⟩ := h
  have ko : OLe O (oput O d o) := fun b y q => by rw [oput_ne]; exact q; rintro rfl; rw [hO] at q; cases q
  exact ⟨D', H', cls, k, R.subO ko, x.sub ko fun _ _ q => q, z⟩
theorem FS.newO {env : PySem.Env} {D O : OM} {F : FM} {ρ : Env} {d : Addr} {o : Obj} (fs : FS env D O F ρ) (hO : O d = none) : FS env D (oput O d o) F ρ := by
  have q : ∀ {a : Addr} {x : Obj}, O a = some x → oput O d o a = some x := fun {a x} e => by rw [oput_ne]; exact e; rintro rfl; rw [hO] at e; cases e
  exact ⟨fs.fr, fun x v h k => let ⟨a, o', cv, h1, h2, h3, h4⟩ := fs.ce x v h k; ⟨a, o', cv, h1, q h2, h3, h4⟩, fun x k => let ⟨a, o', cv, h1, h2, h3⟩ := fs.own x k; ⟨a, o', cv, h1, q h2, h3⟩, fun n a h => let ⟨x, e⟩ := fs.cel n a h; ⟨x, q e⟩⟩

theorem snd_dict1 (M : AOK A) {a b : X} {l r : Expr} {p : Pos} (ha : SndE c A C K a l) (hb : SndE c A C K b r) : SndE c A C K (.prim .dict1 [a, b]) (.Dict [some l] [r] p) :=
  true_of_eval (fun env ρ D O F H s Q Z hF hK fs R w => by
    obtain ⟨f1, f2, f3, f4⟩ := R.fresh
    have hshape : (evalEachOpt [some l] env).zip ((evalEach [r] env).map fun v => do let x ← v; standAt p; pure x) = [(eval l env, (do let x ← eval r env; standAt p; pure x : Sem Value))].map fun p => (some p.1, p.2) := rfl
    rw [arm_eval_Dict, hshape, dictDisplay_pairs _ (by simp) (by simp)]
    refine wpAny_bind (wpAny_standAt (wpAny_bind ?_))
    unfold subDict
    refine wpAny_bind (wpAny_alloc ?_)
    refine wpAny_bind (wpAny_holding ?_)
    rw [if_pos (by simp)]
    have R1 : Rel c D (oput O s.heap.objs.size { cls := .type "dict", data := .dict #[] }) F H { s with heap := s.heap.push { cls := .type "dict", data := .dict #[] } } :=
      (R.grow (tk := s.toks) fun b y e => Heap.get?_push_of_some _ e).newO (Heap.get?_push_size _ rfl) f1 f3 f4 (R.freshLo (Nat.le_refl _))
    refine wpAny_bind (evalPairs_cons (wpAny_mono (eval2 ha.1 hb.1 hF hK (fs.newO f2) R1 w
      (P := fun av bv s2 => ∃ D2 va vb H2, OLe D D2 ∧ VR D2 av va ∧ VR D2 bv vb ∧ Rel c D2 (oput O s.heap.objs.size { cls := .type "dict", data := .dict #[] }) F H2 s2 ∧ ∃ r, primOp .dict1 H2 [va, vb] = some r ∧ fin Q H2 r)
      fun av bv s2 D2 va vb H2 k v1 v2 R2 z => ⟨D2, va, vb, H2, k, v1, v2, R2, z⟩)
      (fun av s1 p1 => wpAny_bind (wpAny_mono p1 (fun bv s2 p2 => wpAny_bind (wpAny_standAt (wpAny_pure (evalPairs_nil ?_)))) fun _ _ e => e.sub f2)) fun _ _ e => e.sub f2))
    obtain ⟨D2, va, vb, H2, k, v1, v2, R2, r, e, f⟩ := p2
    have e' : (if kk va < 3 then some (Res.new (.dict [(va, vb)])) else none) = some r := e
    split at e'
    case isFalse => cases e'
    rename_i hk
    cases e'
    refine wpAny_holding ?_
    obtain ⟨q1, q2⟩ := R2.o2h (tk := s2.toks) f2 (Heap.SameBut.refl ..) (R2.oth _ _ (oput_same ..)).1 (orEmpty rfl)
    have hd : dOK ([] : List (V × V)) va = true := by simp [dOK, hk]
    have ds := dictSet_snd q2 M v1 v2 (hupd_same ..) hd (by show 0 < lim; decide)
    show WE c A (forIn [(av, bv)] PUnit.unit (fun (x : Value × Value) (_ : PUnit) => (do dictSet s.heap.objs.size x.1 x.2; pure (ForInStep.yield PUnit.unit) : Sem (ForInStep PUnit))) >>= _) _ _ _
    rw [List.forIn_cons]
    refine wpAny_bind (wpAny_bind (wpAny_bind (ds.then fun _ s3 R3 => wpAny_pure ?_)))
    dsimp only
    rw [List.forIn_nil]
    refine wpAny_pure (wpAny_pure (wpAny_pure (wpAny_pure ?_)))
    rw [hupd_hupd] at R3
    exact ⟨D2, .ref _, _, k, .ref _, R3, f _ q1⟩) fun _ _ => rfl
end
end Mini

end
section
set_option autoImplicit false
set_option linter.unusedVariables false
set_option linter.unusedSectionVars false
set_option maxRecDepth 100000
namespace Mini
open PySem

theorem oput_comm {O : OM} {a b : Addr} {x y : Obj} (h : a ≠ b) : oput (oput O a x) b y = oput (oput O b y) a x := by
  funext d
  by_cases p : d = a
  · subst p; rw [oput_same, oput_ne h, oput_same]
  · by_cases q : d = b
    · subst q; rw [oput_same, oput_ne (Ne.symm h), oput_same]
    · rw [oput_ne q, oput_ne p, oput_ne p, oput_ne q]
theorem oput_oput {O : OM} {a : Addr} {x y : Obj} : oput (oput O a x) a y = oput O a y := by
  funext d
  by_cases p : d = a
  · subst p; rw [oput_same, oput_same]
  · rw [oput_ne p, oput_ne p, oput_ne p]

section
variable {c : Cx} {mg : Str → Option Value} {G : List String} {A : Around} {C : CallSem} {K : Kn} {D O : OM} {F : FM} {H : MH} {s : Shared} {env : PySem.Env} {ρ : Env}

theorem Rel.dropF {a : Addr} {m : Str → Option Value} {h' : Heap} {tk : Nat} (R : Rel c D O (fput F a m) H s) (hF : F a = none) (hO : O a = none) (hs : Heap.SameBut a s.heap h') (hfr : Frs c F) : Rel c D O F H { s with heap := h', toks := tk } := by
  obtain ⟨_, hD, hH⟩ := R.frm a m (fput_same ..)
  refine ⟨R.base, fun b x q => ?_, fun b x q => ?_, fun b x q => ?_, fun b x q => ?_, R.lo, R.gens, R.os, hfr⟩
  · have p : b ≠ a := fun p => by rw [p, hD] at q; cases q
    exact (hs.2 b p).trans (R.dat b x q)
  · have p : b ≠ a := fun p => by rw [p, hO] at q; cases q
    have y := R.oth b x q
    rw [fput_ne p] at y
    exact ⟨(hs.2 b p).trans y.1, y.2⟩
  · have p : b ≠ a := fun p => by rw [p, hF] at q; cases q
    obtain ⟨y, z⟩ := R.frm b x (by rw [fput_ne p]; exact q)
    exact ⟨y.sameBut hs p, z⟩
  · have p : b ≠ a := fun p => by rw [p, hH] at q; cases q
    obtain ⟨x1, o1, x2, x3⟩ := R.own b x q
    exact ⟨x1, o1, (hs.2 b p).trans x2, x3⟩

theorem src_len {sk : SK} {v : V} {cv : Value} {vs : List V} {w : Option (Addr × List V)} (h : srcItems sk H v = some (vs, w)) (hv : VR D cv v) (R : Rel c D O F H s) : vs.length ≤ lim := by
  cases sk <;> cases v <;> simp only [srcItems] at h <;> (try (cases h; done))
  case plain.tup us => cases h; obtain ⟨_, _, _, _, _, _, l⟩ := hv.tup_inv; exact l
  case plain.str x => cases h; have := hv.str_len; simp only [chars, List.length_map, Array.length_toList]; exact this
  case plain.ref a =>
    split at h
    · rename_i us e; cases h; obtain ⟨_, _, _, _, l⟩ := R.listAt e; exact l
    · cases h
  case range.int n =>
    split at h
    · rename_i q; cases h; simp at q ⊢; (first | lia | omega)
    · cases h
theorem src_snd (gl : Gl c mg G) (M : AOK A) {sk : SK} {a : X} {src it : Expr} {P : List V → Option (Addr × List V) → MH → Prop} {Z : Z0} (hs : SrcTr K sk src it) (ho : okE src = true) (ha : EvalOK c A C K a src) (hF : FOK env) (hK : env.scope.names = K) (fs : FS env D O F ρ) (R : Rel c D O F H s)
    (w : wpE C a ρ (fun sv H1 => ∃ vs w, srcItems sk H1 sv = some (vs, w) ∧ P vs w H1) Z H) :
    WE c A (eval it env) (fun xv s1 => WE c A (pyIter xv) (fun iv s2 => ∃ D2 H2 vs w, OLe D D2 ∧ P vs w H2 ∧ vs.length ≤ lim ∧ ItStart c A D2 O F H2 w vs iv s2) (EX c D O F Z) s1) (EX c D O F Z) s := by
  cases hs with
  | plain =>
    refine wpAny_mono (ha env ρ D O F H s _ Z hF hK fs R w) (fun xv s1 p1 => ?_) fun _ _ e => e
    obtain ⟨D1, sv, H1, k, hv, R1, vs, w, e, p⟩ := p1
    exact (iter_plain M.h R1 hv e).then fun iv s2 h2 => ⟨D1, H1, vs, w, k, p, src_len e hv R1, h2⟩
  | range hg =>
    refine wpAny_Call_Name_kw (glo_name gl hF (by rw [hK]; exact hg) (by decide) boot_range' (by decide +kernel) R ?_)
    rw [okE.star ho]
    refine callWith_fv (.inr ⟨_, rfl⟩) rfl (Calls.spliced_cons (wpAny_mono (ha env ρ D O F H s _ Z hF hK fs R w) (fun xv s1 p1 => Calls.spliced_nil ?_) fun _ _ e => e))
    obtain ⟨D1, sv, H1, k, hv, R1, vs, w, e, p⟩ := p1
    exact (iter_range M.h R1 hv e).then fun rv s2 h2 => h2.then fun iv s3 h3 => ⟨D1, H1, vs, w, k, p, src_len e hv R1, h3⟩

theorem own_tuple_go {te : Expr} {I : Addr} {cv : Value} {Q : Unit → Shared → Prop} {E : Value → Shared → Prop} {o : Obj} (ho : s.heap.get? I = some o) (k : okIter o = true) (h : Q () s) : WE c A (letOwnedTupleGo te (.ref I) cv) Q E s := by
  have main : WE c A (match ((.ref I : Value), cv) with
    | (.ref r, .ref a) => (do
      let o ← load r
      match o.cls, o.data with
      | .type n, .fields vs =>
        if ["enumerate", "zip", "dict_itemiterator", "dict_reverseitemiterator", "odict_iterator", "itertools.zip_longest", "itertools.pairwise"].contains n && vs[0]? == some (rawInt a) then
          rule "for.unpacks-the-owned-tuple"
          updateField r 0 .none
      | _, _ => pure () : Sem Unit)
    | _ => pure ()) Q E s := by
    cases cv <;> (try exact wpAny_pure h)
    refine wpAny_bind (wpAny_load ho ?_)
    unfold okIter at k
    split at k
    · rename_i n hn
      rw [hn]
      cases o.data <;> (try exact wpAny_pure h)
      have k' : (["enumerate", "zip", "dict_itemiterator", "dict_reverseitemiterator", "odict_iterator", "itertools.zip_longest", "itertools.pairwise"].contains n) = false := by simpa using k
      simp only [k', Bool.false_and, Bool.false_eq_true, if_false]
      exact wpAny_pure h
    · rename_i hn
      cases hc : o.cls <;> first
        | exact absurd hc (hn _)
        | (cases o.data <;> exact wpAny_pure h)
  cases te <;> first | exact wpAny_pure h | exact main

theorem store_all {E : Value → Shared → Prop} {Q : Unit → Shared → Prop} (hF : FOK env) : ∀ (xs : List String) (es : List Expr) (vs : List V) (cs : List Value) (ρ ρ1 : Env) (O : OM) (F : FM) (s : Shared),
    TgtNames env.scope.names xs es → (∀ x ∈ xs, env.kindOf (nm x) = some .cell → env.cells.Pairwise fun x y => x.2 ≠ y.2) → bindAll xs vs ρ = some ρ1 → VRs D cs vs → FS env D O F ρ → Rel c D O F H s →
    (∀ O' F' s', Out env O F O' F' → ((∀ x ∈ xs, env.kindOf (nm x) = some .local) → O' = O) → FS env D O' F' ρ1 → Rel c D O' F' H s' → Q () s') → WE c A (assignInOrder ((assignEach es env).map (·.2)) cs) Q E s
  | [], [], [], cs, ρ, ρ1, O, F, s, t, ap, b, v, fs, R, h => by
    cases b
    obtain rfl := v.nil_inv
    exact wpAny_pure (h O F s (.refl ..) (fun _ => rfl) fs R)
  | x :: xs, e :: es, v :: vs, cs, ρ, ρ1, O, F, s, t, ap, b, hv, fs, R, h => by
    obtain ⟨cv, ds, rfl, h1, h2⟩ := hv.cons_inv
    cases t with
    | cons hk t =>
      have hk' : env.kindOf (nm x) = some .local ∨ env.kindOf (nm x) = some .cell := by
        revert hk
        show stoK (env.kindOf (nm x)) = true → _
        cases env.kindOf (nm x) with
        | none => intro h; cases h
        | some k => cases k <;> intro h <;> first | exact .inl rfl | exact .inr rfl | cases h
      refine wpAny_bind (wpAny_holding (wpAny_assign_Name (store_snd hF fs R h1 hk' (ap x (.head _)) fun O' F' s' o1 o2 fs' R' => ?_)))
      exact store_all hF xs es vs ds (upd ρ x v) ρ1 O' F' s' t (fun y hy => ap y (.tail _ hy)) b h2 fs' R' fun O'' F'' s'' q1 q2 q3 q4 => h O'' F'' s'' (o1.trans q1) (fun z => (q2 fun y hy => z y (.tail _ hy)).trans (o2 (z x (.head _)))) q3 q4
  | [], _ :: _, _, _, _, _, _, _, _, t, _, _, _, _, _, _ => by cases t
  | _ :: _, [], _, _, _, _, _, _, _, t, _, _, _, _, _, _ => by cases t
  | _ :: _, _, [], _, _, _, _, _, _, _, _, b, _, _, _, _ => by cases b
  | [], _, _ :: _, _, _, _, _, _, _, _, _, b, _, _, _, _ => by cases b

theorem star_none {xs : List String} {es : List Expr} (h : TgtNames K xs es) (env : PySem.Env) : (assignEach es env).length = xs.length ∧ (assignEach es env).findIdx? (·.1) = none := by
  induction h with
  | nil => exact ⟨rfl, rfl⟩
  | cons _ _ ih =>
    refine ⟨by show (_ :: assignEach _ env).length = _; simp [ih.1], ?_⟩
    show ((false, _) :: assignEach _ env).findIdx? (·.1) = none
    rw [List.findIdx?_cons]; simp [ih.2]
theorem bindAll_len : ∀ (xs : List String) (vs : List V) (ρ ρ1 : Env), bindAll xs vs ρ = some ρ1 → xs.length = vs.length
  | [], [], _, _, _ => rfl
  | _ :: xs, _ :: vs, _, _, h => by simp [bindAll_len xs vs _ _ h]
  | [], _ :: _, _, _, h => by cases h
  | _ :: _, [], _, _, h => by cases h

theorem tgt_snd {te : Expr} {tgt : List String} {isT : Bool} {v : V} {cv : Value} {ρ1 : Env} {Q : Unit → Shared → Prop} {E : Value → Shared → Prop} (M : AOK A) (hF : FOK env) (hK : env.scope.names = K) (ap : ∀ x ∈ tgt, env.kindOf (nm x) = some .cell → env.cells.Pairwise fun x y => x.2 ≠ y.2) (t : TgtTr K tgt isT te)
    (b : bindT isT tgt v ρ = some ρ1) (hv : VR D cv v) (fs : FS env D O F ρ) (R : Rel c D O F H s)
    (h : ∀ O' F' s', Out env O F O' F' → ((∀ x ∈ tgt, env.kindOf (nm x) = some .local) → O' = O) → FS env D O' F' ρ1 → Rel c D O' F' H s' → Q () s') : WE c A (assign te env cv) Q E s := by
  subst hK
  cases t with
  | one hk =>
    rename_i x p
    cases b
    have hk' : env.kindOf (nm x) = some .local ∨ env.kindOf (nm x) = some .cell := by
      revert hk
      show stoK (env.kindOf (nm x)) = true → _
      cases env.kindOf (nm x) with
      | none => intro h; cases h
      | some k => cases k <;> intro h <;> first | exact .inl rfl | exact .inr rfl | cases h
    exact wpAny_assign_Name (store_snd hF fs R hv hk' (ap x (.head _)) fun O' F' s' o1 o2 fs' R' => h O' F' s' o1 (fun z => o2 (z x (.head _))) fs' R')
  | tup t =>
    cases v <;> (try (cases b; done))
    case tup vs =>
      have b' : bindAll tgt vs ρ = some ρ1 := b
      obtain ⟨a, cs, n, rfl, e, v1, hl⟩ := hv.tup_inv
      obtain ⟨l1, l2⟩ := star_none t env
      refine wpAny_assign_Tuple M.h (t := a) (items := cs.toArray) ⟨_, R.dat _ _ e, rfl, n, rfl⟩ (by rw [l1, bindAll_len _ _ _ _ b', List.size_toArray]; exact v1.1.symm) l2 fun h' he => ?_
      have R1 : Rel c D O F H { s with heap := h' } := R.grow (tk := s.toks) fun b o e => he b o (Nat.ne_of_lt (Heap.lt_size e)) e
      exact store_all hF _ _ vs cs ρ ρ1 O F _ t ap b' v1 fs R1 h
end
end Mini

end
section
set_option autoImplicit false
set_option linter.unusedVariables false
set_option linter.unusedSectionVars false
set_option maxRecDepth 100000
namespace Mini
open PySem

noncomputable def clFrom (env : PySem.Env) : Kn → List (Str × Addr) → List (Str × Addr)
  | [], acc => acc
  | y :: r, acc => clFrom env r (if y.2 == .free then (y.1, (env.cells.lookup y.1).getD 0) :: acc else acc)
theorem clos_ok (env : PySem.Env) (f : Str × NameKind → List (Str × Addr) → Sem (ForInStep (List (Str × Addr)))) (hf : ∀ n k acc, f (n, k) acc = if k == .free then (do let a ← cellOf env n; pure (.yield ((n, a) :: acc))) else pure (.yield acc)) :
    ∀ (names : Kn) (acc : List (Str × Addr)), (∀ y ∈ names, y.2 = .free → ∃ a, env.cells.lookup y.1 = some a) → forIn names acc f = (pure (clFrom env names acc) : Sem _)
  | [], acc, _ => by rw [List.forIn_nil]; rfl
  | (n, k) :: r, acc, h => by
    rw [List.forIn_cons, hf]
    have ih := fun acc => clos_ok env f hf r acc fun y hy => h y (.tail _ hy)
    by_cases hk : (k == .free) = true
    · obtain ⟨a, ha⟩ := h (n, k) (.head _) (by simpa using hk)
      have ha' : env.cells.lookup n = some a := ha
      rw [if_pos hk]
      unfold cellOf
      rw [ha']
      simp only [pure_bind]
      rw [ih]
      simp [clFrom, hk, ha']
    · rw [if_neg hk]
      simp only [pure_bind]
      rw [ih]
      simp [clFrom, hk]
theorem closureFor_ok {env : PySem.Env} {sc : Scope} (h : ∀ y ∈ sc.names, y.2 = .free → ∃ a, env.cells.lookup y.1 = some a) : closureFor sc env = pure (clFrom env sc.names []) := by
  unfold closureFor
  dsimp only
  rw [clos_ok env _ (fun n k acc => by cases hk : k == NameKind.free <;> simp [hk]) sc.names [] h]
  rfl
theorem clFrom_mem (env : PySem.Env) : ∀ (names : Kn) (acc : List (Str × Addr)), (∀ y ∈ names, y.2 = .free → ∃ a, env.cells.lookup y.1 = some a) → (∀ z ∈ acc, env.cells.lookup z.1 = some z.2) →
    (∀ z ∈ clFrom env names acc, env.cells.lookup z.1 = some z.2) ∧ (∀ z ∈ acc, z ∈ clFrom env names acc) ∧ (∀ y ∈ names, y.2 = .free → ∃ a, (y.1, a) ∈ clFrom env names acc)
  | [], acc, _, h => ⟨h, fun _ hz => hz, fun _ hy => nomatch hy⟩
  | y :: r, acc, hn, h => by
    unfold clFrom
    by_cases hk : (y.2 == .free) = true
    · obtain ⟨a, ha⟩ := hn y (.head _) (by simpa using hk)
      rw [if_pos hk, ha]
      obtain ⟨i1, i2, i3⟩ := clFrom_mem env r ((y.1, a) :: acc) (fun z hz => hn z (.tail _ hz)) (fun z hz => by
        rcases List.mem_cons.mp hz with rfl | hz
        · exact ha
        · exact h z hz)
      refine ⟨i1, fun z hz => i2 z (.tail _ hz), fun z hz e => ?_⟩
      rcases List.mem_cons.mp hz with rfl | hz
      · exact ⟨a, i2 _ (.head _)⟩
      · exact i3 z hz e
    · rw [if_neg hk]
      obtain ⟨i1, i2, i3⟩ := clFrom_mem env r acc (fun z hz => hn z (.tail _ hz)) h
      refine ⟨i1, i2, fun z hz e => ?_⟩
      rcases List.mem_cons.mp hz with rfl | hz
      · exact absurd (by simp [e]) hk
      · exact i3 z hz e
theorem lookup_some_of_mem {α : Type} : ∀ {l : List (Str × α)} {n : Str} {a : α}, (n, a) ∈ l → ∃ b, l.lookup n = some b
  | (k, v) :: r, n, a, h => by
    rw [List.lookup_cons]
    cases hb : n == k with
    | true => exact ⟨v, rfl⟩
    | false =>
      rcases List.mem_cons.mp h with e | h
      · cases e; simp at hb
      · exact lookup_some_of_mem h
theorem clFrom_lookup {env : PySem.Env} {names : Kn} {n : Str} (hn : ∀ y ∈ names, y.2 = .free → ∃ a, env.cells.lookup y.1 = some a) (h : (n, NameKind.free) ∈ names) : (clFrom env names []).lookup n = env.cells.lookup n := by
  obtain ⟨i1, _, i3⟩ := clFrom_mem env names [] hn (fun _ hz => nomatch hz)
  obtain ⟨a, ha⟩ := i3 _ h rfl
  obtain ⟨b, hb⟩ := lookup_some_of_mem ha
  rw [hb, i1 _ (mem_of_lookup hb)]

theorem lookup_relabelK (K : Kn) (n : Str) : ∀ (names : Kn), (relabelK K names).lookup n = (names.lookup n).map fun k => if (k == .free && K.lookup n == some .cell) then .cell else k
  | [] => rfl
  | (m, k) :: r => by
    have ih := lookup_relabelK K n r
    show List.lookup n ((if (k == .free && K.lookup m == some .cell) then (m, .cell) else (m, k)) :: relabelK K r) = _
    rw [List.lookup_cons]
    cases hb : n == m with
    | true =>
      have e : n = m := by simpa using hb
      subst e
      by_cases hc : (k == .free && K.lookup n == some .cell) = true
      · rw [if_pos hc, List.lookup_cons, hb]; show _ = some (if _ then _ else _); rw [if_pos hc]
      · rw [if_neg hc, List.lookup_cons, hb]; show _ = some (if _ then _ else _); rw [if_neg hc]
    | false =>
      by_cases hc : (k == .free && K.lookup m == some .cell) = true
      · rw [if_pos hc, List.lookup_cons, hb]; exact ih
      · rw [if_neg hc, List.lookup_cons, hb]; exact ih

structure ScOK (K : Kn) (sc : Scope) : Prop where
  kind : sc.kind = .function
  nocell : ∀ y ∈ sc.names, y.2 ≠ .cell
  loc : ∀ y ∈ sc.names, y.2 = .local → sc.names.lookup y.1 = some .local
  free : ∀ y ∈ sc.names, y.2 = .free → K.lookup y.1 = some .cell ∨ K.lookup y.1 = some .free
theorem scOK.prop {K : Kn} {sc : Scope} (h : scOK K sc = true) : ScOK K sc := by
  unfold scOK at h
  rw [Bool.and_eq_true, List.all_eq_true] at h
  obtain ⟨h1, h2⟩ := h
  refine ⟨by simpa using h1, fun y hy e => ?_, fun y hy e => ?_, fun y hy e => ?_⟩
  · have := h2 y hy; simp [e] at this
  · have := h2 y hy; simpa [e] using this
  · have := h2 y hy; simp [e] at this; exact this.1

section
variable {c : Cx} {A : Around} {K : Kn} {D O : OM} {F : FM} {H : MH} {env : PySem.Env} {ρ : Env} {sc : Scope} {L : Addr}

noncomputable abbrev cEnv (sc : Scope) (L : Addr) (env : PySem.Env) : PySem.Env := compEnvC sc (clFrom env sc.names []) L env
theorem relabel_names (hF : FOK env) (hK : env.scope.names = K) : (relabel sc env).names = relabelK K sc.names := by
  subst hK
  unfold relabel relabelK
  refine List.map_congr_left fun y _ => ?_
  simp [hF.kind, PySem.Env.kindOf]
theorem cEnv_names (hF : FOK env) (hK : env.scope.names = K) : (cEnv sc L env).scope.names = relabelK K sc.names := relabel_names hF hK
theorem cEnv_kind (hF : FOK env) (hK : env.scope.names = K) (n : Str) : (cEnv sc L env).kindOf n = (relabelK K sc.names).lookup n := by
  show (relabel sc env).names.lookup n = _
  rw [relabel_names hF hK]
theorem cEnv_FOK (hF : FOK env) (hs : ScOK K sc) : FOK (cEnv sc L env) := ⟨hs.kind, hF.globals, hF.builtins⟩

theorem frees {sc : Scope} (hs : ScOK K sc) (hK : env.scope.names = K) (fs : FS env D O F ρ) : ∀ y ∈ sc.names, y.2 = .free → ∃ a, env.cells.lookup y.1 = some a := fun y hy e => by
  have := hs.free y hy e
  rw [← hK] at this
  obtain ⟨a, o, cv, h1, _⟩ := fs.own y.1 this
  exact ⟨a, h1⟩
theorem kind_free (hs : ScOK K sc) {n : Str} (h : (relabelK K sc.names).lookup n = some .cell ∨ (relabelK K sc.names).lookup n = some .free) : (n, NameKind.free) ∈ sc.names := by
  rw [lookup_relabelK] at h
  cases hl : sc.names.lookup n with
  | none => rw [hl] at h; rcases h with h | h <;> cases h
  | some k =>
    have hm := mem_of_lookup hl
    cases k <;> rw [hl] at h <;> first
      | exact hm
      | exact absurd rfl (hs.nocell _ hm)
      | (rcases h with h | h <;> simp at h)

noncomputable def maskE (K' : Kn) (ρ : Env) : Env := fun x => if K'.lookup (nm x) = some .local then none else ρ x
theorem mask_fs {O' : OM} {F' : FM} {m : Str → Option Value} (hF : FOK env) (hK : env.scope.names = K) (hs : ScOK K sc) (fs : FS env D O F ρ) (ho : OLe O O') (hm : F' L = some m) : FS (cEnv sc L env) D O' F' (maskE (relabelK K sc.names) ρ) := by
  have fr := frees hs hK fs
  refine ⟨⟨m, hm, fun x v h1 h2 _ => ?_⟩, fun x v h1 h2 => ?_, fun n h2 => ?_, fun n a hn => ?_⟩
  · rw [cEnv_kind hF hK] at h2
    simp [maskE, h2] at h1
  · rw [cEnv_kind hF hK] at h2
    have hf := kind_free hs h2
    have h1' : ρ x = some v := by
      unfold maskE at h1
      split at h1
      · cases h1
      · exact h1
    have hk := hs.free _ hf rfl
    rw [← hK] at hk
    obtain ⟨a, o, cv, q1, q2, q3, q4⟩ := fs.ce x v h1' hk
    refine ⟨a, o, cv, ?_, ho _ _ q2, q3, q4⟩
    show (clFrom env sc.names []).lookup (nm x) = _
    rw [clFrom_lookup fr hf]; exact q1
  · rw [cEnv_kind hF hK] at h2
    have hf := kind_free hs h2
    have hk := hs.free _ hf rfl
    rw [← hK] at hk
    obtain ⟨a, o, cv, q1, q2, q3⟩ := fs.own n hk
    refine ⟨a, o, cv, ?_, ho _ _ q2, q3⟩
    show (clFrom env sc.names []).lookup n = _
    rw [clFrom_lookup fr hf]; exact q1
  · have := (clFrom_mem env sc.names [] fr fun _ hz => nomatch hz).1 _ (mem_of_lookup hn)
    obtain ⟨o, ho'⟩ := fs.cel n a this
    exact ⟨o, ho _ _ ho'⟩

theorem bindAll_mask : ∀ (xs : List String) (vs : List V) (ρ ρc ρ1 : Env), bindAll xs vs ρ = some ρ1 → ∃ ρ1c, bindAll xs vs ρc = some ρ1c ∧ (∀ y, (y ∈ xs → ρ1c y = ρ1 y) ∧ (y ∉ xs → ρ1 y = ρ y ∧ ρ1c y = ρc y)) ∧ ∀ y, ρ y = ρc y → ρ1 y = ρ1c y
  | [], [], ρ, ρc, ρ1, h => by cases h; exact ⟨ρc, rfl, fun y => ⟨fun h => (List.not_mem_nil h).elim, fun _ => ⟨rfl, rfl⟩⟩, fun _ e => e⟩
  | x :: xs, v :: vs, ρ, ρc, ρ1, h => by
    obtain ⟨ρ1c, h1, h2, h3⟩ := bindAll_mask xs vs (upd ρ x v) (upd ρc x v) ρ1 h
    refine ⟨ρ1c, h1, fun y => ⟨fun hy => ?_, fun hy => ?_⟩, fun y e => h3 y ?_⟩
    · rcases List.mem_cons.mp hy with rfl | hy
      · exact (h3 y (by simp [upd])).symm
      · exact (h2 y).1 hy
    · have q := (h2 y).2 fun z => hy (.tail _ z)
      have ne : y ≠ x := fun z => hy (z ▸ .head _)
      simpa [upd, ne] using q
    · by_cases ne : y = x <;> simp [upd, ne, e]
  | [], _ :: _, _, _, _, h => by cases h
  | _ :: _, [], _, _, _, h => by cases h
theorem bindT_mask {isT : Bool} {tgt : List String} {v : V} {ρ ρc ρ1 : Env} (h : bindT isT tgt v ρ = some ρ1) : ∃ ρ1c, bindT isT tgt v ρc = some ρ1c ∧ (∀ y, (y ∈ tgt → ρ1c y = ρ1 y) ∧ (y ∉ tgt → ρ1 y = ρ y ∧ ρ1c y = ρc y)) := by
  unfold bindT at h ⊢
  cases isT with
  | false =>
    cases tgt with
    | nil => cases h
    | cons x r =>
      cases r with
      | cons _ _ => cases h
      | nil =>
        cases h
        refine ⟨_, rfl, fun y => ⟨fun hy => ?_, fun hy => ?_⟩⟩
        · have e : y = x := by simpa using hy
          simp [upd, e]
        · have e : y ≠ x := by simpa using hy
          simp [upd, e]
  | true =>
    cases v <;> (try (cases h; done))
    obtain ⟨ρ1c, h1, h2, _⟩ := bindAll_mask tgt _ ρ ρc ρ1 h
    exact ⟨ρ1c, h1, h2⟩
theorem unmask_fs {O' : OM} {F' : FM} {tgt : List String} {ρ1 ρ1c : Env} (hF : FOK env) (hK : env.scope.names = K) (ht : scTgt (relabelK K sc.names) tgt = true) (fs : FS (cEnv sc L env) D O' F' ρ1c)
    (h : ∀ y, (y ∈ tgt → ρ1c y = ρ1 y) ∧ (y ∉ tgt → ρ1 y = ρ y ∧ ρ1c y = maskE (relabelK K sc.names) ρ y)) : FS (cEnv sc L env) D O' F' ρ1 := by
  unfold scTgt at ht
  rw [Bool.and_eq_true, List.all_eq_true, List.all_eq_true] at ht
  obtain ⟨t1, t2⟩ := ht
  obtain ⟨m, hm, hfr⟩ := fs.fr
  refine ⟨⟨m, hm, fun x v h1 h2 h0 => ?_⟩, fun x v h1 h2 => ?_, fs.own, fs.cel⟩
  · rw [cEnv_kind hF hK] at h2
    have := t2 _ (mem_of_lookup h2)
    simp only [bne_self_eq_false, Bool.false_or, Bool.or_eq_true, beq_iff_eq, List.any_eq_true] at this
    have hx : x ∈ tgt := by
      rcases this with e | ⟨y, hy, e⟩
      · exact absurd (nm_inj e) h0
      · rw [← nm_inj e]; exact hy
    exact hfr x v (((h x).1 hx).trans h1) (by rw [cEnv_kind hF hK]; exact h2) h0
  · have h2' := h2
    rw [cEnv_kind hF hK] at h2'
    have hx : x ∉ tgt := fun hx => by
      have := t1 x hx
      have e : (relabelK K sc.names).lookup (nm x) = some .local := by simpa using this
      rw [e] at h2'; rcases h2' with z | z <;> cases z
    obtain ⟨e1, e2⟩ := (h x).2 hx
    refine fs.ce x v ?_ h2
    rw [e2]
    unfold maskE
    rw [if_neg, ← e1]; exact h1
    intro e; rw [e] at h2'; rcases h2' with z | z <;> cases z
end
end Mini

end
section
set_option autoImplicit false
set_option linter.unusedVariables false
set_option linter.unusedSectionVars false
set_option maxRecDepth 100000
namespace Mini
open PySem

section
variable {c : Cx} {mg : Str → Option Value} {G : List String} {A : Around} {C : CallSem} {K : Kn} {D O : OM} {F : FM} {H : MH} {s : Shared} {env : PySem.Env} {ρ : Env}

abbrev ifsF (cenv : PySem.Env) (e : Expr) (r : Bool) : Sem (ForInStep Bool) := if r = true then do let ok ← isTrue e cenv (eval e cenv); pure (ForInStep.yield ok) else pure (ForInStep.yield r)

theorem comp_loop {elt target iter : Expr} {ifs : List Expr} {scope : Scope} {pos : Pos} {it acc : Value} {cenv : PySem.Env} {R : Result → Shared → Prop} (I : Nat → Shared → Prop)
    (turn : ∀ n s, I n s → W c A (pyNext it) (fun r s₁ => match r with
      | none => R (.ok .next) s₁
      | some v => W c A (letOwnedTupleGo target it v) (fun _ s₁' => W c A (assign target cenv v) (fun _ s₂ =>
          W c A (forIn ifs true (ifsF cenv)) (fun ok s₃ =>
            if ok = true then W c A (eval elt cenv) (fun x s₄ => W c A (call (.builtin "list.append") [acc, x]) (fun _ s₅ => ∃ m, m < n ∧ I m s₅) s₄) s₃
            else ∃ m, m < n ∧ I m s₃) s₂) s₁') s₁) s)
    (n : Nat) (h : I n s) : codeAny (model c.prog c.w) A (.compLoop (.ListComp elt [⟨target, iter, ifs, 0⟩] scope pos) 0 it acc cenv) R s := by
  refine codeAny_loop rfl I (fun n s hI => ?_) n h
  show wpAny _ A ((compTurn (.ListComp elt [⟨target, iter, ifs, 0⟩] scope pos) 0 it acc cenv).onRaise (fun x => do noteFrame x cenv; theTreesLotGoes x)) _ _ s
  refine wpAny_noted ?_
  rw [compTurn_list]
  refine wpAny_bind (wpAny_standAt (wpAny_bind (wpAny_mono (turn n s hI) (fun r s₁ h₁ => ?_) fun _ _ h' => h'.elim)))
  cases r with
  | none => exact wpAny_pure h₁
  | some v =>
    refine wpAny_bind (wpAny_mono h₁ (fun _ s₁' h₁' => ?_) fun _ _ h' => h'.elim)
    refine wpAny_bind (wpAny_mono h₁' (fun _ s₂ h₂ => wpAny_bind (wpAny_mono h₂ (fun ok s₃ h₃ => ?_) fun _ _ h' => h'.elim)) fun _ _ h' => h'.elim)
    cases ok with
    | false => exact wpAny_pure ⟨rfl, h₃⟩
    | true =>
      exact wpAny_bind (wpAny_bind (wpAny_mono h₃ (fun x s₄ h₄ => wpAny_bind (wpAny_mono h₄ (fun _ s₅ h₅ => wpAny_pure (wpAny_pure ⟨rfl, h₅⟩)) fun _ _ h' => h'.elim)) fun _ _ h' => h'.elim))

noncomputable def BodyOK (c : Cx) (A : Around) (cenv : PySem.Env) (ifs : List Expr) (elt : Expr) (st : Env → List V → (List V → MH → Prop) → MH → Prop) : Prop :=
  ∀ (ρ1 : Env) (acc : List V) (k : List V → MH → Prop) (D O : OM) (F : FM) (H : MH) (s : Shared), FS cenv D O F ρ1 → Rel c D O F H s → st ρ1 acc k H →
    W c A (forIn ifs true (ifsF cenv)) (fun ok s3 => if ok = true then W c A (eval elt cenv) (fun x s4 => ∃ D4 ev H4, OLe D D4 ∧ VR D4 x ev ∧ Rel c D4 O F H4 s4 ∧ k (acc ++ [ev]) H4) s3
      else ∃ D3 H3, OLe D D3 ∧ Rel c D3 O F H3 s3 ∧ k acc H3) s

theorem iterC_drop {w : MH → Prop} {st : V → List V → (List V → MH → Prop) → MH → Prop} {vs acc : List V} {i : Nat} {K : List V → MH → Prop} {H : MH} (h : iterC w st (vs.drop i) acc K H) (hi : i < vs.length) : w H ∧ st vs[i] acc (fun acc' H' => iterC w st (vs.drop (i + 1)) acc' K H') H := by
  rw [List.drop_eq_getElem_cons hi] at h
  exact h

noncomputable def CInv (c : Cx) (A : Around) (D O : OM) (F : FM) (ρ : Env) (tgt : List String) (isT : Bool) (st : Env → List V → (List V → MH → Prop) → MH → Prop) (Q : V → MH → Prop) (w : Option (Addr × List V)) (vs : List V) (I L acc : Addr) (j : Nat) (s : Shared) : Prop :=
  ∃ D' H' oI cs n m us i, j = vs.length + 1 - i ∧ i ≤ vs.length ∧ OLe D D' ∧ Rel c D' (oput (oput O acc (listObj cs n)) I oI) (fput F L m) H' s ∧ It c A D' I w vs i s.heap ∧ VRs D' cs us ∧ us.length ≤ i ∧ vs.length ≤ lim ∧
    iterC (watch w) (fun v acc k H2 => ∃ ρ1, bindT isT tgt v ρ = some ρ1 ∧ st ρ1 acc k H2) (vs.drop i) us (doneC Q) H'

theorem It.stay {I : Addr} {w : Option (Addr × List V)} {vs : List V} {i : Nat} {D' O' O'' : OM} {F' F'' : FM} {H' H'' : MH} {s' s'' : Shared} {o : Obj} (x : It c A D I w vs i s'.heap) (R : Rel c D (oput O' I o) F' H' s') (R' : Rel c D' (oput O'' I o) F'' H'' s'') (k : OLe D D') : It c A D' I w vs i s''.heap :=
  (x.keep fun b o' hb e => by
    rcases hb with rfl | ⟨y, hy⟩
    · have e1 := (R.oth _ _ (oput_same ..)).1
      rw [e1] at e; cases e
      exact (R'.oth _ _ (oput_same ..)).1
    · have e1 := R.dat _ _ hy
      rw [e1] at e; cases e
      exact R'.dat _ _ (k _ _ hy)).monoD k

theorem comp_turns (M : AOK A) {te it elt : Expr} {ifs : List Expr} {sc : Scope} {p : Pos} {tgt : List String} {isT : Bool} {st : Env → List V → (List V → MH → Prop) → MH → Prop} {Q : V → MH → Prop} {w : Option (Addr × List V)} {vs : List V} {I L acc : Addr} {R : Result → Shared → Prop}
    (hF : FOK env) (hK : env.scope.names = K) (hs : ScOK K sc) (tt : TgtTr (relabelK K sc.names) tgt isT te) (ht : scTgt (relabelK K sc.names) tgt = true) (fs : FS env D O F ρ)
    (hb : BodyOK c A (cEnv sc L env) ifs elt st)
    (hOI : O I = none) (hOa : O acc = none) (hFL : F L = none) (hIa : I ≠ acc)
    (hR : ∀ D' H' (us : List V) cs n m s', OLe D D' → Rel c D' (oput O acc (listObj cs n)) (fput F L m) H' s' → VRs D' cs us → doneC Q us H' → R (.ok .next) s')
    (j : Nat) (s : Shared) (h0 : CInv c A D O F ρ tgt isT st Q w vs I L acc j s) :
      codeAny (model c.prog c.w) A (.compLoop (.ListComp elt [⟨te, it, ifs, 0⟩] sc p) 0 (.ref I) (.ref acc) (cEnv sc L env)) R s := by
  refine comp_loop (CInv c A D O F ρ tgt isT st Q w vs I L acc) ?_ j h0
  rintro n s' ⟨D', H', oI, cs, na, m, us, i, rfl, hi, hD, R1, x, v1, hl, hvl, itc⟩
  by_cases hlt : i < vs.length
  · obtain ⟨hw, ρ1, hb1, hst⟩ := iterC_drop itc hlt
    refine it_next R1 x hw hlt fun cv s1 o1 v2 R2 x2 => ?_
    obtain ⟨oi, ho1, ho2⟩ := x2.okIter
    refine own_tuple_go ho1 ho2 ?_
    obtain ⟨ρ1c, hb2, hm⟩ := bindT_mask (ρc := maskE (relabelK K sc.names) ρ) hb1
    have hle : OLe O (oput (oput O acc (listObj cs na)) I o1) := fun b y q => by
      have h1 : b ≠ I := fun e => by rw [e, hOI] at q; cases q
      have h2 : b ≠ acc := fun e => by rw [e, hOa] at q; cases q
      rw [oput_ne h1, oput_ne h2]; exact q
    have fsc := mask_fs (L := L) (F' := fput F L m) hF hK hs (fs.mono hD) hle (fput_same ..)
    have hloc : ∀ x ∈ tgt, (cEnv sc L env).kindOf (nm x) = some .local := fun x hx => by
      rw [cEnv_kind hF hK]
      unfold scTgt at ht
      rw [Bool.and_eq_true, List.all_eq_true] at ht
      simpa using ht.1 x hx
    refine tgt_snd M (cEnv_FOK hF hs) (cEnv_names hF hK) (fun y hy e => by rw [hloc y hy] at e; cases e) tt hb2 v2 fsc R2 fun O' F' s2 out ho fs2 R3 => ?_
    have hO' := ho hloc
    subst hO'
    have hF' : ∃ m', F' = fput F L m' := by
      obtain ⟨m', hm', _⟩ := fs2.fr
      refine ⟨m', funext fun a => ?_⟩
      by_cases e : a = L
      · subst e; rw [fput_same]; exact hm'
      · rw [fput_ne e, out.f a e, fput_ne e]
    obtain ⟨m', rfl⟩ := hF'
    have fs3 := unmask_fs hF hK ht fs2 hm
    refine wpAny_mono (hb ρ1 us _ D' _ _ H' s2 fs3 R3 hst) (fun ok s3 h3 => ?_) fun _ _ f => f
    cases ok with
    | false =>
      obtain ⟨D3, H3, k3, R4, q3⟩ := (h3 : ∃ D3 H3, OLe D' D3 ∧ Rel c D3 _ _ H3 s3 ∧ _)
      exact ⟨_, by (first | lia | omega), D3, H3, o1, cs, na, m', us, i + 1, rfl, hlt, hD.trans k3, R4, x2.stay R2 R4 k3, v1.mono k3, by (first | lia | omega), hvl, q3⟩
    | true =>
      refine wpAny_mono (h3 : W c A _ _ s3) (fun ev s4 h4 => ?_) fun _ _ f => f
      obtain ⟨D4, v, H4, k4, v4, R4, q4⟩ := h4
      have R4' := R4
      rw [oput_comm (Ne.symm hIa)] at R4'
      have ga := (R4'.oth _ _ (oput_same ..)).1
      refine wpAny_list_append_plain (items := cs.toArray) ⟨na, ga⟩ (fun h5 hp5 hs5 => ?_) (by rw [List.size_toArray, v1.1, sizeLine_eq]; unfold lim at hvl; (first | lia | omega))
      obtain ⟨n5, g5⟩ := hp5
      have g5' : h5.get? acc = some (listObj (cs ++ [ev]) n5) := by rw [g5]; simp [listObj]
      have R5 := R4'.setO (tk := s4.toks) (oput_same ..) hs5 g5'
      rw [oput_oput, oput_comm hIa] at R5
      refine ⟨_, by (first | lia | omega), D4, H4, o1, cs ++ [ev], n5, m', us ++ [v], i + 1, rfl, hlt, hD.trans k4, R5, x2.stay R2 R5 k4, (v1.mono k4).append (.cons v4 .nil), by simp; (first | lia | omega), hvl, q4⟩
  · have hin : i = vs.length := by (first | lia | omega)
    subst hin
    rw [List.drop_length] at itc
    obtain ⟨hw, hd⟩ := (itc : watch w H' ∧ doneC Q us H')
    have hOI' : oput O acc (listObj cs na) I = none := by rw [oput_ne hIa]; exact hOI
    exact it_done M.h R1 hOI' x hw fun s1 R2 => hR D' H' us cs na m s1 hD R2 v1 hd
end
end Mini

end
section
set_option autoImplicit false
set_option linter.unusedVariables false
set_option linter.unusedSectionVars false
set_option maxRecDepth 100000
namespace Mini
open PySem

section
variable {c : Cx} {mg : Str → Option Value} {G : List String} {A : Around} {C : CallSem} {K : Kn} {D O : OM} {F : FM} {H : MH} {s : Shared} {env : PySem.Env} {ρ : Env}

theorem comp_core (gl : Gl c mg G) (M : AOK A) {te src it elt : Expr} {ifs : List Expr} {sc : Scope} {p pp : Pos} {sk : SK} {a : X} {tgt : List String} {isT : Bool} {st : Env → List V → (List V → MH → Prop) → MH → Prop} {Q : V → MH → Prop} {Z : Z0} {use : Option (Value → Sem Unit)} {Qf : Value → Shared → Prop}
    (hsrc : SrcTr K sk src it) (ho : okE src = true) (ha : EvalOK c A C K a src)
    (hF : FOK env) (hK : env.scope.names = K) (hs : ScOK K sc) (tt : TgtTr (relabelK K sc.names) tgt isT te) (ht : scTgt (relabelK K sc.names) tgt = true) (fs : FS env D O F ρ) (R : Rel c D O F H s)
    (hb : ∀ L, BodyOK c A (cEnv sc L env) ifs elt st)
    (w : wpE C a ρ (fun sv H1 => ∃ vs w, srcItems sk H1 sv = some (vs, w) ∧ iterC (watch w) (fun v acc k H2 => ∃ ρ1, bindT isT tgt v ρ = some ρ1 ∧ st ρ1 acc k H2) vs [] (doneC Q) H1) Z H)
    (hu : ∀ (D' : OM) (H' : MH) (us : List V) (L acc : Addr) (cs : List Value) (n : Nat) (m : Str → Option Value) (s' : Shared), OLe D D' → Rel c D' (oput O acc (listObj cs n)) (fput F L m) H' s' → VRs D' cs us → doneC Q us H' → O acc = none → F L = none → O L = none → L ≠ acc →
      compPost (model c.prog c.w) A (EX c D O F Z) use Qf (.ref acc) L (.ok .next) s') :
    WE c A (comprehension (.ListComp elt [⟨te, it, ifs, 0⟩] sc p) sc env pp (newList []) false (eval it env) use) Qf (EX c D O F Z) s := by
  have hcl := closureFor_ok (frees hs hK fs)
  refine wpAny_comprehension_free (use := use) rfl (fun x => okE.fold (hsrc.ok ho) env x) hcl hs.kind hs.loc ?_
  refine wpAny_mono (src_snd gl M hsrc ho ha hF hK fs R w) (fun xv s1 p1 => wpAny_mono p1 (fun iv s2 p2 => ?_) fun _ _ e => e) fun _ _ e => e
  obtain ⟨D2, H2, vs, w2, k2, hit, hvl, I, oI, rfl, i1, i2, i3, i4, R2, x2⟩ := p2
  obtain ⟨f1, f2, f3, f4⟩ := R2.fresh
  have hIa : I ≠ s2.heap.objs.size := fun e => by
    rw [← e] at f2; rw [oput_same] at f2; cases f2
  have hOa : O s2.heap.objs.size = none := by rw [oput_ne (Ne.symm hIa)] at f2; exact f2
  refine wpAny_newList ?_ (by simp [sizeLine_eq])
  have R3 : Rel c D2 (oput (oput O I oI) s2.heap.objs.size (listObj [] 0)) F H2 { s2 with heap := s2.heap.push (listObj [] 0) } := (R2.grow (tk := s2.toks) fun b o e => Heap.get?_push_of_some _ e).newO (Heap.get?_push_size _ rfl) f1 f3 f4 (R2.freshLo (Nat.le_refl _))
  rw [oput_comm hIa] at R3
  generalize hs3 : ({ s2 with heap := s2.heap.push (listObj [] 0) } : Shared) = s3 at R3
  have x3 : It c A D2 I w2 vs 0 s3.heap := x2.stay R2 R3 (.refl _)
  show WE c A _ _ _ ({ s2 with heap := s2.heap.push (listObj [] 0) } : Shared)
  rw [hs3]
  obtain ⟨g1, g2, g3, g4⟩ := R3.fresh
  refine wpAny_newFunctionEnv hs.nocell (fun y hy => nomatch hy) (fun h' hn hsb => ?_) hs.kind
  try dsimp only at hn hsb ⊢
  have kp : ∀ b o, s3.heap.get? b = some o → h'.get? b = some o := fun b o e => hsb.extBut b o (Nat.ne_of_lt (Heap.lt_size e)) (Heap.get?_push_of_some _ e)
  have R4 : Rel c D2 (oput (oput O s2.heap.objs.size (listObj [] 0)) I oI) (fput F s3.heap.objs.size fun x => ([] : List (Str × Value)).reverse.lookup x) H2 { s3 with heap := h', toks := s3.toks + ([] : List (Str × Value)).length } :=
    (R3.grow kp).newF hn g1 g2 g4
  have x4 := x3.stay R3 R4 (.refl _)
  have hLa : s3.heap.objs.size ≠ s2.heap.objs.size := fun e => by
    by_cases q : s3.heap.objs.size = I
    · rw [q, oput_same] at g2; cases g2
    · rw [oput_ne q, e, oput_same] at g2; cases g2
  have hOL : O s3.heap.objs.size = none := by
    by_cases q : s3.heap.objs.size = I
    · rw [q]; exact i2
    · rw [oput_ne q, oput_ne hLa] at g2; exact g2
  have turns := comp_turns (R := compPost (model c.prog c.w) A (EX c D O F Z) use Qf (.ref s2.heap.objs.size) s3.heap.objs.size) (it := it) (p := p) (Q := Q) M hF hK hs tt ht (fs.mono k2) (hb s3.heap.objs.size) i2 hOa g3 hIa
    (fun D' H' us cs n m s' k R' v d => hu D' H' us _ _ cs n m s' (k2.trans k) R' v d hOa g3 hOL hLa) (vs.length + 1) _ ⟨D2, H2, oI, [], 0, _, [], 0, rfl, Nat.zero_le _, .refl _, R4, x4, .nil, Nat.zero_le _, hvl, hit⟩
  exact codeAny_compStart_list turns (it_self x4 turns)

theorem comp_eval (gl : Gl c mg G) (M : AOK A) {te src it elt : Expr} {ifs : List Expr} {sc : Scope} {p : Pos} {sk : SK} {a x : X} {tgt : List String} {isT : Bool} {st : Env → List V → (List V → MH → Prop) → MH → Prop}
    (hsrc : SrcTr K sk src it) (ho : okE src = true) (ha : EvalOK c A C K a src) (hs : ScOK K sc) (tt : TgtTr (relabelK K sc.names) tgt isT te) (ht : scTgt (relabelK K sc.names) tgt = true)
    (hb : ∀ env L, FOK env → env.scope.names = K → BodyOK c A (cEnv sc L env) ifs elt st)
    (hx : ∀ ρ Q Z H, wpE C x ρ Q Z H → wpE C a ρ (fun sv H1 => ∃ vs w, srcItems sk H1 sv = some (vs, w) ∧ iterC (watch w) (fun v acc k H2 => ∃ ρ1, bindT isT tgt v ρ = some ρ1 ∧ st ρ1 acc k H2) vs [] (doneC Q) H1) Z H) :
    EvalOK c A C K x (.ListComp elt [⟨te, it, ifs, 0⟩] sc p) := fun env ρ D O F H s Q Z hF hK fs R w => by
  rw [eval_ListComp]
  refine comp_core gl M hsrc ho ha hF hK hs tt ht fs R (fun L => hb env L hF hK) (hx ρ Q Z H w) fun D' H' us L acc cs n m s' k R' v d e1 e2 e3 e4 => ?_
  obtain ⟨q1, q2, q3⟩ := R'.frm L m (fput_same ..)
  refine ⟨m, q1, fun h' hsb => ?_⟩
  have R1 : Rel c D' (oput O acc (listObj cs n)) F H' { s' with heap := h' } := R'.dropF (tk := s'.toks) e2 (by rw [oput_ne e4]; exact e3) hsb R.frs
  obtain ⟨z1, z2⟩ := R1.o2h (tk := s'.toks) e1 (Heap.SameBut.refl ..) (R1.oth _ _ (oput_same ..)).1 (.list ⟨n, rfl⟩ v d.1)
  exact ⟨D', .ref acc, _, k, .ref _, z2, d.2 _ z1⟩

theorem body_comp {elt : Expr} {x : X} {cenv : PySem.Env} {K' : Kn} (hF : FOK cenv) (hK : cenv.scope.names = K') (hx : EvalOK c A C K' x elt) : BodyOK c A cenv [] elt fun ρ1 acc k H2 => wpE C x ρ1 (fun ev H3 => k (acc ++ [ev]) H3) ZF H2 := fun ρ1 acc k D O F H s fs R h => by
  rw [List.forIn_nil]
  refine wpAny_pure ?_
  rw [if_pos rfl]
  exact wpAny_mono (hx cenv ρ1 D O F H s _ ZF hF hK fs R h) (fun cv s4 p => let ⟨D4, v, H4, k4, v4, R4, q4⟩ := p; ⟨D4, v, H4, k4, v4, R4, q4⟩) fun _ _ e => let ⟨_, _, _, _, _, _, z⟩ := e; z
theorem body_compIf {elt cond : Expr} {x y : X} {cenv : PySem.Env} {K' : Kn} (hF : FOK cenv) (hK : cenv.scope.names = K') (hx : EvalOK c A C K' x elt) (hy : TrueOK c A C K' y cond) : BodyOK c A cenv [cond] elt fun ρ1 acc k H2 => wpE C y ρ1 (asB fun b H3 =>
        (b = true → wpE C x ρ1 (fun ev H4 => k (acc ++ [ev]) H4) ZF H3) ∧ (b = false → k acc H3)) ZF H2 := fun ρ1 acc k D O F H s fs R h => by
  rw [List.forIn_cons]
  refine wpAny_bind ?_
  show W c A (do let ok ← isTrue cond cenv (eval cond cenv); pure (ForInStep.yield ok)) _ _
  refine wpAny_bind (wpAny_mono (hy cenv ρ1 D O F H s _ ZF hF hK fs R h) (fun b s3 p => wpAny_pure ?_) fun _ _ e => let ⟨_, _, _, _, _, _, z⟩ := e; z)
  obtain ⟨D3, H3, k3, R3, q1, q2⟩ := p
  dsimp only
  rw [List.forIn_nil]
  refine wpAny_pure ?_
  cases b with
  | true =>
    rw [if_pos rfl]
    exact wpAny_mono (hx cenv ρ1 D3 O F H3 s3 _ ZF hF hK (fs.mono k3) R3 (q1 rfl)) (fun cv s4 p => let ⟨D4, v, H4, k4, v4, R4, q4⟩ := p; ⟨D4, v, H4, k3.trans k4, v4, R4, q4⟩) fun _ _ e => let ⟨_, _, _, _, _, _, z⟩ := e; z
  | false =>
    rw [if_neg (by decide)]
    exact ⟨D3, H3, k3, R3, q2 rfl⟩
end
end Mini

end
section
set_option autoImplicit false
set_option linter.unusedVariables false
set_option linter.unusedSectionVars false
set_option maxRecDepth 100000
namespace Mini
open PySem

section
variable {c : Cx} {mg : Str → Option Value} {G : List String} {A : Around} {C : CallSem}

theorem sndE2 (gl : Gl c mg G) (M : AOK A) (pf : PF c A) (hC : MonoC C) (hc : CallOK c mg A C) {K : Kn} {x : X} {e : Expr} (t : TrE G K x e) : okE e = true ∧ SndE c A C K x e := by
  refine TrE.rec (G := G) (motive_1 := fun K x e _ => okE e = true ∧ SndE c A C K x e) (motive_2 := fun K x e _ => okE e = true ∧ SndE c A C K x e) (motive_3 := fun K xs es _ => (∀ e ∈ es, okE e = true) ∧ SplOK c A C K xs es) ?none ?bool ?int ?str ?var ?bin ?neg ?not ?cmp ?one ?and ?or ?idx ?sliceTo ?sliceFrom ?tuple ?list ?dict0 ?dict1 ?bcall ?isi ?listRev ?sortedSet ?meth1 ?meth2 ?call ?lc ?comp ?compIf ?nil ?cons t
  case none => intros; exact ⟨rfl, snd_none⟩
  case bool => intros; exact ⟨rfl, snd_bool⟩
  case int => intros; exact ⟨rfl, snd_int⟩
  case str => intro _ _ _ _ h; exact ⟨rfl, snd_str h⟩
  case var => intro _ _ _ h1 h2 h3 h4; exact ⟨rfl, snd_var h1 h2 h3 h4⟩
  case bin => intro _ _ _ _ _ _ _ _ h _ _ a b; exact ⟨rfl, snd_bin pf h a.2 b.2⟩
  case neg => intro _ _ _ _ _ a; exact ⟨rfl, snd_neg a.2⟩
  case not => intro _ _ _ _ _ a; exact ⟨rfl, snd_not hC a.2⟩
  case cmp => intro _ _ _ _ _ _ _ _ h _ t2 a b; exact ⟨rfl, snd_cmp pf h b.1 a.2 b.2⟩
  case one => intro _ _ _ _ _ _ a; exact ⟨rfl, snd_one a.2⟩
  case and => intro _ _ _ _ _ _ _ _ _ a b; exact ⟨rfl, snd_and a.2 b.2⟩
  case or => intro _ _ _ _ _ _ _ _ _ a b; exact ⟨rfl, snd_or a.2 b.2⟩
  case idx => intro _ _ _ _ _ _ _ t2 a b; exact ⟨rfl, snd_idx pf b.1 a.2 b.2⟩
  case sliceTo => intro _ _ _ _ _ _ _ _ _ a b; exact ⟨rfl, snd_sliceTo pf a.2 b.2⟩
  case sliceFrom => intro _ _ _ _ _ _ _ _ _ a b; exact ⟨rfl, snd_sliceFrom pf a.2 b.2⟩
  case tuple => intro _ _ _ _ _ _ a; exact ⟨rfl, snd_tuple a.2⟩
  case list => intro _ _ _ _ _ a; exact ⟨rfl, snd_list a.2⟩
  case dict0 => intros; exact ⟨rfl, snd_dict0⟩
  case dict1 => intro _ _ _ _ _ _ _ _ a b; exact ⟨rfl, snd_dict1 M a.2 b.2⟩
  case bcall => intro _ _ _ _ _ _ _ _ _ h1 h2 t a; exact ⟨rfl, snd_bcall pf gl h1 h2 (a.1 _ (.head _)) (fun pos env => okEs_any a.1 pos env) a.2⟩
  case isi => intro _ _ _ _ _ _ _ h1 h2 t a; exact ⟨rfl, snd_isi pf gl h1 h2 a.1 a.2⟩
  case listRev => intro _ _ _ _ _ _ _ h1 h2 t a; exact ⟨rfl, snd_listRev pf gl h1 h2 a.1 a.2⟩
  case sortedSet => intro _ _ _ _ _ _ _ h1 h2 t a; exact ⟨rfl, snd_sortedSet pf gl h1 h2 a.1 a.2⟩
  case meth1 => intro _ _ _ _ _ _ _ _ _ h1 h2 t1 t2 a b; exact ⟨rfl, snd_meth1 pf h1 h2 a.1 b.1 a.2 b.2⟩
  case meth2 => intro _ _ _ _ _ _ _ _ _ _ _ h1 h2 t1 t2 t3 a b d; exact ⟨rfl, snd_meth2 pf h1 h2 a.1 b.1 d.1 a.2 b.2 d.2⟩
  case call => intro _ _ _ _ _ _ _ h1 h2 t a; exact ⟨rfl, snd_call gl hc h1 h2 (a.1 _ (.head _)) a.2⟩
  case lc => intro _ _ _ _ a; exact a
  case comp =>
    intro K x tgt isT sk a elt te src it sc p t1 h1 h2 h3 h4 t2 a1 a2
    exact ⟨rfl, true_of_eval (comp_eval gl M h1 a1.1 a1.2.1 (scOK.prop h2) h3 h4 (fun env L hF hK => body_comp (cEnv_FOK hF (scOK.prop h2)) (cEnv_names hF hK) a2.2.1) fun ρ Q Z H w => w) fun _ _ => rfl⟩
  case compIf =>
    intro K x tgt isT sk a y elt te src it cond sc p t1 h1 h2 h3 h4 t2 t3 a1 a2 a3
    exact ⟨rfl, true_of_eval (comp_eval gl M h1 a1.1 a1.2.1 (scOK.prop h2) h3 h4 (fun env L hF hK => body_compIf (cEnv_FOK hF (scOK.prop h2)) (cEnv_names hF hK) a2.2.1 a3.2.2) fun ρ Q Z H w => w) fun _ _ => rfl⟩
  case nil => intros; exact ⟨(fun e he => by cases he), spl_nil⟩
  case cons => intro _ _ _ _ _ t1 _ a b; exact ⟨(fun e he => (List.mem_cons.mp he).elim (fun q => q ▸ a.1) (b.1 e)), spl_cons a.1 a.2 b.2⟩
theorem sndE (gl : Gl c mg G) (M : AOK A) (pf : PF c A) (hC : MonoC C) (hc : CallOK c mg A C) {K : Kn} {x : X} {e : Expr} (t : TrE G K x e) : SndE c A C K x e := (sndE2 gl M pf hC hc t).2
end
end Mini

end
section
set_option autoImplicit false
set_option linter.unusedVariables false
set_option linter.unusedSectionVars false
set_option maxRecDepth 100000
namespace Mini
open PySem

abbrev Apart (env : PySem.Env) : Prop := env.cells.Pairwise fun x y => x.2 ≠ y.2
noncomputable def Ap (c : Cx) (A : Around) (env : PySem.Env) : Prop := Apart env ∧ env.frame = some env.locals ∧ ∃ outer, A.frames = some (env :: outer) ∧ c.fr = env :: outer
noncomputable def SPost (c : Cx) (env : PySem.Env) (D O : OM) (F : FM) (N : Env → MH → Prop) (T : V → MH → Prop) (fl : Flow) (s' : Shared) : Prop :=
  ∃ D' O' F' H', OLe D D' ∧ Out env O F O' F' ∧ Rel c D' O' F' H' s' ∧ match fl with
    | .next => ∃ ρ', FS env D' O' F' ρ' ∧ N ρ' H'
    | .ret cv => ∃ v, VR D' cv v ∧ T v H'
    | _ => False
noncomputable def EXS (c : Cx) (env : PySem.Env) (D O : OM) (F : FM) (Z : Z0) (e : Value) (s : Shared) : Prop := ∃ O' F', Out env O F O' F' ∧ EX c D O' F' Z e s
theorem EX.exs {c : Cx} {env : PySem.Env} {D O : OM} {F : FM} {Z : Z0} {e : Value} {s : Shared} (h : EX c D O F Z e s) : EXS c env D O F Z e s := ⟨O, F, .refl .., h⟩
theorem EX.exs' {c : Cx} {env : PySem.Env} {D D' O : OM} {F : FM} {Z : Z0} {e : Value} {s : Shared} (h : EX c D' O F Z e s) (k : OLe D D') : EXS c env D O F Z e s := (h.mono k).exs
theorem EXS.mono {c : Cx} {env : PySem.Env} {D D' O O' : OM} {F F' : FM} {Z : Z0} {e : Value} {s : Shared} (k : OLe D D') (o : Out env O F O' F') (h : EXS c env D' O' F' Z e s) : EXS c env D O F Z e s :=
  let ⟨O2, F2, o2, x⟩ := h; ⟨O2, F2, o.trans o2, x.mono k⟩
theorem EXS.no {c : Cx} {env : PySem.Env} {D O : OM} {F : FM} {e : Value} {s : Shared} (h : EXS c env D O F ZF e s) : False := let ⟨_, _, _, _, _, _, _, _, _, z⟩ := h; z
theorem EX.no {c : Cx} {D O : OM} {F : FM} {e : Value} {s : Shared} (h : EX c D O F ZF e s) : False := let ⟨_, _, _, _, _, _, z⟩ := h; z
theorem SPost.mono {c : Cx} {env : PySem.Env} {D D' O O' : OM} {F F' : FM} {N : Env → MH → Prop} {T : V → MH → Prop} {fl : Flow} {s : Shared} (k : OLe D D') (o : Out env O F O' F') (h : SPost c env D' O' F' N T fl s) : SPost c env D O F N T fl s :=
  let ⟨D2, O2, F2, H2, k2, o2, r⟩ := h; ⟨D2, O2, F2, H2, k.trans k2, o.trans o2, r⟩

noncomputable def StmtOK (c : Cx) (A : Around) (C : CallSem) (K : Kn) (x : S) (st : Stmt) : Prop := ∀ (env : PySem.Env) (ρ : Env) (D O : OM) (F : FM) (H : MH) (s : Shared) (N : Env → MH → Prop) (T : V → MH → Prop) (Z : Z0),
  FOK env → env.scope.names = K → Ap c A env → FS env D O F ρ → Rel c D O F H s → wpS C x ρ N T Z H → WE c A (exec st env) (SPost c env D O F N T) (EXS c env D O F Z) s
noncomputable def BlockOK (c : Cx) (A : Around) (C : CallSem) (K : Kn) (xs : List S) (sts : List Stmt) : Prop := ∀ (env : PySem.Env) (ρ : Env) (D O : OM) (F : FM) (H : MH) (s : Shared) (N : Env → MH → Prop) (T : V → MH → Prop) (Z : Z0),
  FOK env → env.scope.names = K → Ap c A env → FS env D O F ρ → Rel c D O F H s → wpSs C xs ρ N T Z H → WE c A (execs sts env) (SPost c env D O F N T) (EXS c env D O F Z) s

section
variable {c : Cx} {mg : Str → Option Value} {G : List String} {A : Around} {C : CallSem} {K : Kn}

theorem sto_kind {env : PySem.Env} {x : String} (hK : env.scope.names = K) (h : stoK (K.lookup (nm x)) = true) : env.kindOf (nm x) = some .local ∨ env.kindOf (nm x) = some .cell := by
  subst hK
  revert h
  show stoK (env.kindOf (nm x)) = true → _
  cases env.kindOf (nm x) with
  | none => intro h; cases h
  | some k => cases k <;> intro h <;> first | exact .inl rfl | exact .inr rfl | cases h

theorem st_asg_plain {x : String} {a : X} {e : Expr} {p p' : Pos} (hk : stoK (K.lookup (nm x)) = true) (ha : EvalOK c A C K a e) {env : PySem.Env} {ρ : Env} {D O : OM} {F : FM} {H : MH} {s : Shared} {N : Env → MH → Prop} {T : V → MH → Prop} {Z : Z0}
    (hF : FOK env) (hK : env.scope.names = K) (ap : Apart env) (fs : FS env D O F ρ) (R : Rel c D O F H s) (w : wpS C (.asg x a) ρ N T Z H) (hs : swapsWith e (some (.Name (nm x) p')) p.line env = pure false) :
    WE c A (exec (.Assign [.Name (nm x) p'] e p) env) (SPost c env D O F N T) (EXS c env D O F Z) s := by
  refine wpAny_Assign_Name ?_ hs
  have w' : wpE C a ρ (fun v H' => N (upd ρ x v) H') Z H := w
  refine wpAny_mono (ha env ρ D O F H s _ Z hF hK fs R w') (fun cv s1 p1 => ?_) fun _ _ e => e.exs
  obtain ⟨D1, v, H1, k1, v1, R1, q1⟩ := p1
  exact store_snd hF (fs.mono k1) R1 v1 (sto_kind hK hk) (fun _ => ap) fun O' F' s' o1 _ fs' R' => ⟨D1, O', F', H1, k1, o1, R', upd ρ x v, fs', q1⟩

theorem st_asgT {xs : List String} {a : X} {e : Expr} {es : List Expr} {k : Nat} {p p' : Pos} (M : AOK A) (ht : TgtNames K xs es) (hn : isTupE e = false) (t : TrE G K a e) (ha : SndE c A C K a e) : StmtOK c A C K (.asgT xs a) (.Assign [.Tuple es k p'] e p) :=
  fun env ρ D O F H s N T Z hF hK ap fs R w => by
    refine PyProof.Rows.Assign_Tuple ?_ (swaps_tup e es k p' p.line env) (not_tup_stores hn es k p' env)
    have w' : wpE C a ρ (fun v H' => ∃ ρ1, bindT true xs v ρ = some ρ1 ∧ N ρ1 H') Z H := w
    refine wpAny_mono (ha.1 env ρ D O F H s _ Z hF hK fs R w') (fun cv s1 p1 => ?_) fun _ _ e => e.exs
    obtain ⟨D1, v, H1, k1, v1, R1, ρ1, b1, q1⟩ := p1
    exact tgt_snd M hF hK (fun _ _ _ => ap.1) (.tup ht) b1 v1 (fs.mono k1) R1 fun O' F' s' o1 _ fs' R' => ⟨D1, O', F', H1, k1, o1, R', ρ1, fs', q1⟩

theorem st_ex {a : X} {e : Expr} {p : Pos} (hn : isComp e = false) (t : TrE G K a e) (ha : SndE c A C K a e) : StmtOK c A C K (.ex a) (.Expr e p) :=
  fun env ρ D O F H s N T Z hF hK ap fs R w => by
    refine wpAny_Expr ?_ (by unfold interactive; rw [hF.kind]; rfl) (not_comp_swaps hn _ _ _)
    have w' : wpE C a ρ (fun v H' => isPlain v = true ∧ N ρ H') Z H := w
    refine wpAny_mono (ha.1 env ρ D O F H s _ Z hF hK fs R w') (fun cv s1 p1 => ?_) fun _ _ e => e.exs
    obtain ⟨D1, v, H1, k1, v1, R1, q0, q1⟩ := p1
    have fin : SPost c env D O F N T .next s1 := ⟨D1, O, F, H1, k1, .refl .., R1, ρ, fs.mono k1, q1⟩
    cases v1 <;> first | exact fin | cases q0
theorem st_ifs {a : X} {t u : List S} {e : Expr} {t' u' : List Stmt} {p : Pos} (ha : SndE c A C K a e) (ht : BlockOK c A C K t t') (hu : BlockOK c A C K u u') : StmtOK c A C K (.ifs a t u) (.If e t' u' p) :=
  fun env ρ D O F H s N T Z hF hK ap fs R w => by
    refine wpAny_If ?_
    have w' : wpE C a ρ (asB fun b H' => (b = true → wpSs C t ρ N T Z H') ∧ (b = false → wpSs C u ρ N T Z H')) Z H := w
    refine wpAny_mono (ha.2 env ρ D O F H s _ Z hF hK fs R w') (fun b s1 p1 => ?_) fun _ _ e => e.exs
    obtain ⟨D1, H1, k1, R1, q1, q2⟩ := p1
    cases b with
    | true => exact wpAny_mono (ht env ρ D1 O F H1 s1 N T Z hF hK ap (fs.mono k1) R1 (q1 rfl)) (fun _ _ h => h.mono k1 (.refl ..)) fun _ _ h => h.mono k1 (.refl ..)
    | false => exact wpAny_mono (hu env ρ D1 O F H1 s1 N T Z hF hK ap (fs.mono k1) R1 (q2 rfl)) (fun _ _ h => h.mono k1 (.refl ..)) fun _ _ h => h.mono k1 (.refl ..)
theorem st_ret {a : X} {e : Expr} {p : Pos} (ha : SndE c A C K a e) : StmtOK c A C K (.ret a) (.Return (some e) p) :=
  fun env ρ D O F H s N T Z hF hK ap fs R w => wpAny_Return_some (wpAny_mono (ha.1 env ρ D O F H s T Z hF hK fs R w) (fun cv s1 p1 => by
    obtain ⟨D1, v, H1, k1, v1, R1, q1⟩ := p1
    exact ⟨D1, O, F, H1, k1, .refl .., R1, v, v1, q1⟩) fun _ _ e => e.exs)
theorem st_pass {p : Pos} : StmtOK c A C K .pass (.Pass p) := fun env ρ D O F H s N T Z hF hK ap fs R w => wpAny_Pass ⟨D, O, F, H, .refl D, .refl .., R, ρ, fs, w⟩
theorem bl_nil : BlockOK c A C K [] [] := fun env ρ D O F H s N T Z hF hK ap fs R w => wpAny_execs_nil ⟨D, O, F, H, .refl D, .refl .., R, ρ, fs, w⟩
theorem bl_cons {x : S} {xs : List S} {st : Stmt} {sts : List Stmt} (h1 : StmtOK c A C K x st) (h2 : BlockOK c A C K xs sts) : BlockOK c A C K (x :: xs) (st :: sts) := fun env ρ D O F H s N T Z hF hK ap fs R w => by
  refine wpAny_execs_cons ?_
  have w' : wpS C x ρ (fun ρ' H' => wpSs C xs ρ' N T Z H') T Z H := w
  refine wpAny_mono (h1 env ρ D O F H s _ T Z hF hK ap fs R w') (fun fl s1 p1 => ?_) fun _ _ e => e
  obtain ⟨D1, O1, F1, H1, k1, o1, R1, q⟩ := p1
  cases fl with
  | next =>
    obtain ⟨ρ1, fs1, q1⟩ := q
    exact wpAny_mono (h2 env ρ1 D1 O1 F1 H1 s1 N T Z hF hK ap fs1 R1 q1) (fun _ _ h => h.mono k1 o1) fun _ _ h => h.mono k1 o1
  | ret cv => exact ⟨D1, O1, F1, H1, k1, o1, R1, q⟩
  | brk => exact q.elim
  | cont => exact q.elim

theorem for_loop {R : Result → Shared → Prop} {target : Expr} {it : Value} {body : List Stmt} {env : PySem.Env} {s : Shared} (I : Nat → Shared → Prop)
    (turn : ∀ n s, I n s → W c A (pyNext it) (fun r s₁ => match r with
      | none => R (.ok .next) s₁
      | some v => W c A (letOwnedTupleGo target it v) (fun _ s₁' => W c A (assign target env v) (fun _ s₂ => W c A (execs body env) (fun f s₃ => match f with
          | .next | .cont => ∃ m, m < n ∧ I m s₃
          | .brk => R (.ok .next) s₃
          | .ret v => R (.ok (.ret v)) s₃) s₂) s₁') s₁) s)
    (n : Nat) (h : I n s) : codeAny (model c.prog c.w) A (.forLoop target it body [] env) R s := by
  refine codeAny_loop' rfl I (fun n s hI => ?_) n h
  show wpAny _ _ ((forTurn target it body [] env).onRaise (fun x => do noteFrame x env; theTreesLotGoes x)) _ _ s
  refine wpAny_noted ?_
  simp only [forTurn]
  refine wpAny_bind (wpAny_standAt (wpAny_bind (wpAny_onRaise (wpAny_mono (turn n s hI) (fun r s₁ h₁ => ?_) fun _ _ h' => h'.elim))))
  cases r with
  | none => exact wpAny_pure (.inr ⟨rfl, codeAny_block (wpAny_execs_nil h₁)⟩)
  | some v =>
    refine wpAny_bind (wpAny_mono h₁ (fun _ s₁' h₁' => ?_) fun _ _ h' => h'.elim)
    refine wpAny_bind (wpAny_mono h₁' (fun _ s₂ h₂ => wpAny_bind (wpAny_mono h₂ (fun f s₃ h₃ => ?_) fun _ _ h' => h'.elim)) fun _ _ h' => h'.elim)
    cases f with
    | next => exact wpAny_pure (.inl ⟨rfl, h₃⟩)
    | cont => exact wpAny_pure (.inl ⟨rfl, h₃⟩)
    | brk => exact wpAny_pure h₃
    | ret v => exact wpAny_pure h₃

noncomputable def minus (O : OM) (I : Addr) : OM := fun a => if a = I then none else O a
theorem minus_put {O : OM} {I : Addr} {o : Obj} (h : O I = some o) : O = oput (minus O I) I o := by
  funext a
  by_cases e : a = I
  · subst e; rw [oput_same, h]
  · rw [oput_ne e]; simp [minus, e]
theorem FS.minus {env : PySem.Env} {D O : OM} {F : FM} {ρ : Env} {I : Addr} (fs : FS env D O F ρ) (h : ∀ n, env.cells.lookup n ≠ some I) : FS env D (minus O I) F ρ := by
  have q : ∀ {n : Str} {a : Addr}, env.cells.lookup n = some a → Mini.minus O I a = O a := fun {n a} e => if_neg fun (z : a = I) => h n (z ▸ e)
  exact ⟨fs.fr, fun x v h k => let ⟨a, o', cv, h1, h2, h3, h4⟩ := fs.ce x v h k; ⟨a, o', cv, h1, (q h1).trans h2, h3, h4⟩, fun x k => let ⟨a, o', cv, h1, h2, h3⟩ := fs.own x k; ⟨a, o', cv, h1, (q h1).trans h2, h3⟩,
    fun n a e => let ⟨o, ho⟩ := fs.cel n a e; ⟨o, (q e).trans ho⟩⟩
theorem Out.minus {env : PySem.Env} {O O' : OM} {F F' : FM} {I : Addr} {o : Obj} (h : Out env (oput O I o) F O' F') (hI : O I = none) : Out env O F (minus O' I) F' := by
  refine ⟨h.f, fun a ha => ?_, fun a ha => ?_, h.fc⟩
  · by_cases e : a = I
    · subst e; simp [Mini.minus, hI]
    · simp only [Mini.minus, if_neg e]; rw [h.o a ha, oput_ne e]
  · by_cases e : a = I
    · subst e; simp [Mini.minus]
    · simp only [Mini.minus, if_neg e]; exact h.oc a (by rw [oput_ne e]; exact ha)

theorem iterF_drop {w : MH → Prop} {st : V → Env → (Env → MH → Prop) → MH → Prop} {vs : List V} {ρ : Env} {i : Nat} {K : Env → MH → Prop} {H : MH} (h : iterF w st (vs.drop i) ρ K H) (hi : i < vs.length) : w H ∧ st vs[i] ρ (fun ρ' H' => iterF w st (vs.drop (i + 1)) ρ' K H') H := by
  rw [List.drop_eq_getElem_cons hi] at h
  exact h

noncomputable def FInv (c : Cx) (A : Around) (env : PySem.Env) (D O : OM) (F : FM) (st : V → Env → (Env → MH → Prop) → MH → Prop) (N : Env → MH → Prop) (w : Option (Addr × List V)) (vs : List V) (I : Addr) (j : Nat) (s : Shared) : Prop :=
  ∃ D' O' F' H' oI ρ' i, j = vs.length + 1 - i ∧ i ≤ vs.length ∧ OLe D D' ∧ Out env O F O' F' ∧ Rel c D' (oput O' I oI) F' H' s ∧ It c A D' I w vs i s.heap ∧ FS env D' O' F' ρ' ∧ iterF (watch w) st (vs.drop i) ρ' N H'

theorem st_for (gl : Gl c mg G) (M : AOK A) {tgt : List String} {isT : Bool} {sk : SK} {a : X} {t : List S} {te src it : Expr} {t' : List Stmt} {p : Pos} (ho : okE src = true) (ha : SndE c A C K a src) (hsrc : SrcTr K sk src it) (tt : TgtTr K tgt isT te) (ht : BlockOK c A C K t t') :
    StmtOK c A C K (.for tgt isT sk a t) (.For te it t' [] p) := fun env ρ D O F H s N T Z hF hK ap fs R w => by
  have w' : wpE C a ρ (fun sv H1 => ∃ vs w, srcItems sk H1 sv = some (vs, w) ∧ iterF (watch w) (fun v ρ' k H2 => ∃ ρ1, bindT isT tgt v ρ' = some ρ1 ∧ wpSs C t ρ1 k T ZF H2) vs ρ N H1) Z H := w
  refine wpAny_For ?_ fun x => okE.fold (hsrc.ok ho) env x
  refine wpAny_mono (src_snd gl M hsrc ho ha.1 hF hK fs R w') (fun xv s1 p1 => wpAny_mono p1 (fun iv s2 p2 => ?_) fun _ _ e => e.exs) fun _ _ e => e.exs
  obtain ⟨D2, H2, vs, w2, k2, hit, hvl, I, oI, rfl, i1, i2, i3, i4, R2, x2⟩ := p2
  have hcI : ∀ n, env.cells.lookup n ≠ some I := fun n e => by
    obtain ⟨o, ho⟩ := fs.cel n I e
    rw [i2] at ho; cases ho
  refine for_loop (FInv c A env D O F (fun v ρ' k H2 => ∃ ρ1, bindT isT tgt v ρ' = some ρ1 ∧ wpSs C t ρ1 k T ZF H2) N w2 vs I) ?_ (vs.length + 1)
    ⟨D2, O, F, H2, oI, ρ, 0, rfl, Nat.zero_le _, k2, .refl .., R2, x2, fs.mono k2, hit⟩
  rintro n s' ⟨D', O', F', H', oI, ρ', i, rfl, hi, hD, hout, R1, x, fs1, itc⟩
  have hOI : O' I = none := hout.oc I i2
  by_cases hlt : i < vs.length
  · obtain ⟨hw, ρ1, hb1, hst⟩ := iterF_drop itc hlt
    refine it_next R1 x hw hlt fun cv s1 o1 v2 R3 x3 => ?_
    obtain ⟨oi, ho1, ho2⟩ := x3.okIter
    refine own_tuple_go ho1 ho2 ?_
    refine tgt_snd M hF hK (fun _ _ _ => ap.1) tt hb1 v2 (fs1.newO hOI) R3 fun O2 F2 s2 out2 _ fs2 R4 => ?_
    refine wpAny_mono (ht env ρ1 D' O2 F2 H' s2 _ T ZF hF hK ap fs2 R4 hst) (fun fl s3 p3 => ?_) fun _ _ e => e.no
    obtain ⟨D3, O3, F3, H3, k3, out3, R5, q⟩ := p3
    have out4 := out2.trans out3
    have hO3 : O3 I = some o1 := by rw [out4.o I hcI, oput_same]
    have R6 := R5
    rw [minus_put hO3] at R6
    have out5 := out4.minus hOI
    cases fl with
    | next =>
      obtain ⟨ρ3, fs3, q3⟩ := q
      exact ⟨_, by (first | lia | omega), D3, minus O3 I, F3, H3, o1, ρ3, i + 1, rfl, hlt, hD.trans k3, hout.trans out5, R6, x3.stay R3 R6 k3, fs3.minus hcI, q3⟩
    | cont => exact q.elim
    | brk => exact q.elim
    | ret v =>
      refine ⟨D3, minus O3 I, F3, H3, hD.trans k3, hout.trans out5, R6.subO (fun b y e => ?_), q⟩
      rw [oput_ne]; exact e
      rintro rfl; simp [minus] at e
  · have hin : i = vs.length := by (first | lia | omega)
    subst hin
    rw [List.drop_length] at itc
    obtain ⟨hw, hd⟩ := (itc : watch w2 H' ∧ N ρ' H')
    exact it_done M.h R1 hOI x hw fun s1 R3 => ⟨D', O', F', H', hD, hout, R3, ρ', fs1, hd⟩

noncomputable def WInv (c : Cx) (env : PySem.Env) (D O : OM) (F : FM) (te : Env → (Bool → MH → Prop) → MH → Prop) (st : Env → (Env → MH → Prop) → MH → Prop) (N : Env → MH → Prop) (j : Nat) (s : Shared) : Prop :=
  ∃ D' O' F' H' ρ', OLe D D' ∧ Out env O F O' F' ∧ Rel c D' O' F' H' s ∧ FS env D' O' F' ρ' ∧ iterW te st j ρ' N H'
theorem st_whl {a : X} {t : List S} {e : Expr} {t' : List Stmt} {p : Pos} (ha : SndE c A C K a e) (ht : BlockOK c A C K t t') : StmtOK c A C K (.whl a t) (.While e t' [] p) := fun env ρ D O F H s N T Z hF hK ap fs R w => by
  obtain ⟨n, w'⟩ := (w : ∃ n, iterW (fun ρ' k H1 => wpE C a ρ' (asB k) ZF H1) (fun ρ' k H2 => wpSs C t ρ' k T ZF H2) n ρ N H)
  refine wpAny_While (codeAny_whileLoop (WInv c env D O F (fun ρ' k H1 => wpE C a ρ' (asB k) ZF H1) (fun ρ' k H2 => wpSs C t ρ' k T ZF H2) N) ?_ n ⟨D, O, F, H, ρ, .refl D, .refl .., R, fs, w'⟩)
  rintro j s' ⟨D', O', F', H', ρ', k, out, R1, fs1, it⟩
  cases j with
  | zero => exact it.elim
  | succ j =>
    refine wpAny_mono (ha.2 env ρ' D' O' F' H' s' _ ZF hF hK fs1 R1 it) (fun b s1 p1 => ?_) fun _ _ e => e.no.elim
    obtain ⟨D1, H1, k1, R2, q1, q2⟩ := p1
    cases b with
    | true =>
      refine wpAny_mono (ht env ρ' D1 O' F' H1 s1 _ T ZF hF hK ap (fs1.mono k1) R2 (q1 rfl)) (fun fl s2 p2 => ?_) fun _ _ e => e.no.elim
      obtain ⟨D3, O3, F3, H3, k3, out3, R5, q⟩ := p2
      cases fl with
      | next =>
        obtain ⟨ρ3, fs3, q3⟩ := q
        exact ⟨j, by (first | lia | omega), D3, O3, F3, H3, ρ3, (k.trans k1).trans k3, out.trans out3, R5, fs3, q3⟩
      | cont => exact q.elim
      | brk => exact q.elim
      | ret v => exact ⟨D3, O3, F3, H3, (k.trans k1).trans k3, out.trans out3, R5, q⟩
    | false =>
      exact wpAny_execs_nil ⟨D1, O', F', H1, k.trans k1, out, R2, ρ', fs1.mono k1, q2 rfl⟩
end
end Mini

end
section
set_option autoImplicit false
set_option linter.unusedVariables false
set_option linter.unusedSectionVars false
set_option maxRecDepth 100000
namespace Mini
open PySem

section
variable {c : Cx} {mg : Str → Option Value} {G : List String} {A : Around} {C : CallSem} {K : Kn}

theorem st_asgI (pf : PF c A) {a b d : X} {o i e : Expr} {p p' : Pos} (t : TrE G K d e) (ha : SndE c A C K a o) (hb : SndE c A C K b i) (hd : SndE c A C K d e) : StmtOK c A C K (.asgI a b d) (.Assign [.Subscript o i p'] e p) :=
  fun env ρ D O F H s N T Z hF hK ap fs R w => by
    refine wpAny_Assign_Subscript ?_ (swaps_sub e o i p' p.line env)
    have w' : wpE C d ρ (fun v H1 => wpE C a ρ (fun ov H2 => wpE C b ρ (fun iv H3 => ∃ r, setOp H3 ov iv v = some r ∧ fin (fun _ H4 => N ρ H4) H3 r) Z H2) Z H1) Z H := w
    refine wpAny_mono (hd.1 env ρ D O F H s _ Z hF hK fs R w') (fun dv s1 p1 => ?_) fun _ _ e => e.exs
    obtain ⟨D1, vd, H1, k1, v1, R1, q1⟩ := p1
    refine wpAny_mono (ha.1 env ρ D1 O F H1 s1 _ Z hF hK (fs.mono k1) R1 q1) (fun av s2 p2 => ?_) fun _ _ e => e.exs' k1
    obtain ⟨D2, va, H2, k2, v2, R2, q2⟩ := p2
    refine wpAny_mono (hb.1 env ρ D2 O F H2 s2 _ Z hF hK (fs.mono (k1.trans k2)) R2 q2) (fun bv s3 p3 => ?_) fun _ _ e => e.exs' (k1.trans k2)
    obtain ⟨D3, vb, H3, k3, v3, R3, r, e, f⟩ := p3
    refine (pf.si e (v2.mono k3) v3 (v1.mono (k2.trans k3)) R3).then fun _ s4 h4 => ?_
    obtain ⟨D4, _, H4, k4, _, R4, q4⟩ := h4.post f
    have k5 := ((k1.trans k2).trans k3).trans k4
    exact ⟨D4, O, F, H4, k5, .refl .., R4, ρ, fs.mono k5, q4⟩

theorem st_asg_use (gl : Gl c mg G) (M : AOK A) {te src it elt : Expr} {ifs : List Expr} {sc : Scope} {p p' pp : Pos} {sk : SK} {a x : X} {y : String} {tgt : List String} {isT : Bool} {st : Env → List V → (List V → MH → Prop) → MH → Prop}
    (hk : stoK (K.lookup (nm y)) = true)
    (hsrc : SrcTr K sk src it) (ho : okE src = true) (ha : EvalOK c A C K a src) (hs : ScOK K sc) (tt : TgtTr (relabelK K sc.names) tgt isT te) (ht : scTgt (relabelK K sc.names) tgt = true)
    (hb : ∀ env L, FOK env → env.scope.names = K → BodyOK c A (cEnv sc L env) ifs elt st)
    (hx : ∀ ρ Q Z H, wpE C x ρ Q Z H → wpE C a ρ (fun sv H1 => ∃ vs w, srcItems sk H1 sv = some (vs, w) ∧ iterC (watch w) (fun v acc k H2 => ∃ ρ1, bindT isT tgt v ρ = some ρ1 ∧ st ρ1 acc k H2) vs [] (doneC Q) H1) Z H)
    {env : PySem.Env} {ρ : Env} {D O : OM} {F : FM} {H : MH} {s : Shared} {N : Env → MH → Prop} {T : V → MH → Prop} {Z : Z0}
    (hF : FOK env) (hK : env.scope.names = K) (ap : Apart env) (fs : FS env D O F ρ) (R : Rel c D O F H s) (w : wpS C (.asg y x) ρ N T Z H)
    (hsw : swapsWith (.ListComp elt [⟨te, it, ifs, 0⟩] sc p) (some (.Name (nm y) p')) pp.line env = pure true) :
    WE c A (exec (.Assign [.Name (nm y) p'] (.ListComp elt [⟨te, it, ifs, 0⟩] sc p) pp) env) (SPost c env D O F N T) (EXS c env D O F Z) s := by
  rw [exec_Assign_Name_used _ _ _ _ hsw]
  refine wpAny_bind (wpAny_standAt (wpAny_bind ?_))
  show wpAny _ A (do let _ ← comprehension (.ListComp elt [⟨te, it, ifs, 0⟩] sc p) sc env _ (newList []) false (eval it env) (some (assign (.Name (nm y) p') env))) _ _ s
  refine wpAny_bind (wpAny_mono (comp_core (Qf := fun _ s' => SPost c env D O F N T .next s') (use := some (assign (.Name (nm y) p') env)) gl M hsrc ho ha hF hK hs tt ht fs R (fun L => hb env L hF hK) (hx ρ (fun v H' => N (upd ρ y v) H') Z H w)
    fun D' H' us L acc cs n m s' k R' v d e1 e2 e3 e4 => ?_) (fun _ s' hq => wpAny_pure (wpAny_pure hq)) fun _ _ e => e.exs)
  obtain ⟨z1, z2⟩ := R'.o2h (tk := s'.toks) e1 (Heap.SameBut.refl ..) (R'.oth _ _ (oput_same ..)).1 (.list ⟨n, rfl⟩ v d.1)
  have hlL : env.locals ≠ L := fun e => by
    obtain ⟨m0, hm0, _⟩ := fs.fr
    rw [e, e2] at hm0; cases hm0
  have fs1 : FS env D' O (fput F L m) ρ := by
    have f1 := fs.mono k
    obtain ⟨m0, hm0, hr⟩ := f1.fr
    exact ⟨⟨m0, by rw [fput_ne hlL]; exact hm0, hr⟩, f1.ce, f1.own, f1.cel⟩
  show WE c A (assign (.Name (nm y) p') env (.ref acc)) _ _ s'
  refine wpAny_assign_Name (store_snd hF fs1 z2 (.ref acc) (sto_kind hK hk) (fun _ => ap) fun O' F' s1 out _ fs2 R2 => ?_)
  have hF'L : F' L = some m := by rw [out.f L (Ne.symm hlL), fput_same]
  let F2 : FM := fun a => if a = L then none else F' a
  have hF2 : F' = fput F2 L m := by
    funext a
    by_cases e : a = L
    · subst e; rw [fput_same, hF'L]
    · rw [fput_ne e]; simp [F2, e]
  rw [hF2] at R2 fs2
  have hO'L : O' L = none := out.oc L e3
  refine ⟨m, (R2.frm L m (fput_same ..)).1, fun h' hsb => ?_⟩
  have hfrs : Frs c F2 := fun e he => by
    obtain ⟨h1, L', h2, h3⟩ := R.frs e he
    have hne : L' ≠ L := fun q => by rw [q, e2] at h3; cases h3
    refine ⟨h1, L', h2, ?_⟩
    show (if L' = L then none else F' L').isSome = true
    rw [if_neg hne]
    by_cases q : L' = env.locals
    · obtain ⟨m0, hm0, _⟩ := fs2.fr
      rw [fput_ne hlL] at hm0
      have hm1 : F2 env.locals = some m0 := hm0
      simp only [F2, if_neg hlL] at hm1
      rw [q, hm1]; rfl
    · rw [out.f L' q, fput_ne hne]; exact h3
  have R3 : Rel c D' O' F2 (hupd H' acc (.list us)) { s1 with heap := h' } := R2.dropF (tk := s1.toks) (by simp [F2]) hO'L hsb hfrs
  refine ⟨D', O', F2, _, k, ⟨fun b hb => ?_, out.o, out.oc, fun b hb => ?_⟩, R3, upd ρ y (.ref acc), ⟨?_, fs2.ce, fs2.own, fs2.cel⟩, d.2 _ z1⟩
  · by_cases e : b = L
    · subst e; simp [F2, e2]
    · simp only [F2, if_neg e]; rw [out.f b hb, fput_ne e]
  · by_cases e : b = L
    · subst e; simp [F2]
    · simp only [F2, if_neg e]; exact out.fc b (by rw [fput_ne e]; exact hb)
  · obtain ⟨m0, hm0, hr⟩ := fs2.fr
    exact ⟨m0, by rw [fput_ne hlL] at hm0; exact hm0, hr⟩

theorem st_asg (gl : Gl c mg G) (M : AOK A) (pf : PF c A) (hC : MonoC C) (hc : CallOK c mg A C) {x : String} {a : X} {e : Expr} {p p' : Pos} (hk : stoK (K.lookup (nm x)) = true) (t : TrC G K a e) : StmtOK c A C K (.asg x a) (.Assign [.Name (nm x) p'] e p) :=
  fun env ρ D O F H s N T Z hF hK ap fs R w => by
    have ha := (sndE gl M pf hC hc (.lc t)).1
    cases t
    case comp x' tgt isT sk a' elt te src it sc p2 t1 h1 h2 h3 h4 t2 =>
        have hb : ∃ b, swapsWith (.ListComp elt [⟨te, it, [], 0⟩] sc p2) (some (.Name (nm x) p')) p.line env = pure b := ⟨_, rfl⟩
        obtain ⟨b, hb⟩ := hb
        cases b with
        | false => exact st_asg_plain hk ha hF hK ap.1 fs R w hb
        | true => exact st_asg_use gl M hk h1 (sndE2 gl M pf hC hc t1).1 (sndE gl M pf hC hc t1).1 (scOK.prop h2) h3 h4 (fun env L hF hK => body_comp (cEnv_FOK hF (scOK.prop h2)) (cEnv_names hF hK) (sndE gl M pf hC hc t2).1) (fun ρ Q Z H w => w) hF hK ap.1 fs R w hb
    case compIf x' tgt isT sk a' y elt te src it cond sc p2 t1 h1 h2 h3 h4 t2 t3 =>
        have hb : ∃ b, swapsWith (.ListComp elt [⟨te, it, [cond], 0⟩] sc p2) (some (.Name (nm x) p')) p.line env = pure b := ⟨_, rfl⟩
        obtain ⟨b, hb⟩ := hb
        cases b with
        | false => exact st_asg_plain hk ha hF hK ap.1 fs R w hb
        | true => exact st_asg_use gl M hk h1 (sndE2 gl M pf hC hc t1).1 (sndE gl M pf hC hc t1).1 (scOK.prop h2) h3 h4 (fun env L hF hK => body_compIf (cEnv_FOK hF (scOK.prop h2)) (cEnv_names hF hK) (sndE gl M pf hC hc t2).1 (sndE gl M pf hC hc t3).2) (fun ρ Q Z H w => w) hF hK ap.1 fs R w hb

end
end Mini

end
section
set_option autoImplicit false
set_option linter.unusedVariables false
set_option linter.unusedSectionVars false
set_option maxRecDepth 100000
namespace Mini
open PySem

section
variable {c : Cx} {mg : Str → Option Value} {G : List String} {A : Around} {C : CallSem} {K : Kn}
theorem sndS (gl : Gl c mg G) (M : AOK A) (pf : PF c A) (hC : MonoC C) (hc : CallOK c mg A C) {K : Kn} {xs : List S} {sts : List Stmt} (t : TrSs G K xs sts) : BlockOK c A C K xs sts := by
  have se : ∀ {K : Kn} {x : X} {e : Expr}, TrE G K x e → SndE c A C K x e := fun t => sndE gl M pf hC hc t
  refine TrSs.rec (G := G) (motive_1 := fun x st _ => StmtOK c A C K x st) (motive_2 := fun xs sts _ => BlockOK c A C K xs sts) ?asg ?asgC ?asgT ?asgI ?ex ?ifs ?forr ?whl ?ret ?pass ?raise ?nil ?cons t
  case asg => intro _ _ _ _ _ h h2 t env ρ D O F H s N T Z hF hK ap fs R w; exact st_asg_plain h (se t).1 hF hK ap.1 fs R w (not_comp_swaps h2 _ _ _)
  case asgC => intro _ _ _ _ _ h t; exact st_asg gl M pf hC hc h t
  case asgT => intro _ _ _ _ _ _ _ h1 h2 t; exact st_asgT M h1 h2 t (se t)
  case asgI => intro _ _ _ _ _ _ _ _ t1 t2 t3; exact st_asgI pf t3 (se t1) (se t2) (se t3)
  case ex => intro _ _ _ h t; exact st_ex h t (se t)
  case ifs => intro _ _ _ _ _ _ _ t1 _ _ a b; exact st_ifs (se t1) a b
  case forr => intro _ _ _ _ _ _ _ _ _ _ t1 h1 h2 _ a; exact st_for gl M (sndE2 gl M pf hC hc t1).1 (se t1) h1 h2 a
  case whl => intro _ _ _ _ _ t1 _ a; exact st_whl (se t1) a
  case ret => intro _ _ _ t1; exact st_ret (se t1)
  case pass => intros; exact st_pass
  case raise => intro _ _ _ _ env ρ D O F H s N T Z hF hK ap fs R w; exact (w : False).elim
  case nil => exact bl_nil
  case cons => intro _ _ _ _ _ _ a b; exact bl_cons a b
end
end Mini

end
section
set_option autoImplicit false
set_option linter.unusedVariables false
set_option linter.unusedSectionVars false
set_option linter.unusedSimpArgs false
set_option maxRecDepth 100000
namespace Mini
open PySem

noncomputable def plainArgs (as : List Arg) : Arguments := { posonlyargs := [], args := as, vararg := none, kwonlyargs := [], kw_defaults := [], kwarg := none, defaults := [] }
theorem lookup_zip : ∀ (ns : List Str) (vs : List Value), vs.length = ns.length → ∀ n ∈ ns, ((ns.zip vs).lookup n).isSome = true
  | [], _, _, n, h => nomatch h
  | m :: ns, [], h, _, _ => by simp at h
  | m :: ns, v :: vs, h, n, hn => by
    rw [List.zip_cons_cons, List.lookup_cons]
    cases hb : n == m with
    | true => rfl
    | false =>
      rcases List.mem_cons.mp hn with e | hn
      · subst e; simp at hb
      · exact lookup_zip ns vs (by simpa using h) n hn
theorem fm_congr {α β : Type} {f g : α → Option β} : ∀ {l : List α}, (∀ a ∈ l, f a = g a) → l.filterMap f = l.filterMap g
  | [], _ => rfl
  | a :: l, h => by rw [List.filterMap_cons, List.filterMap_cons, h a (.head _), fm_congr fun b hb => h b (.tail _ hb)]
theorem zip_filterMap : ∀ (ns : List Str) (vs : List Value), ns.Nodup → vs.length = ns.length → ns.filterMap (fun n => ((ns.zip vs).lookup n).map (n, ·)) = ns.zip vs
  | [], [], _, _ => rfl
  | [], _ :: _, _, h => by simp at h
  | _ :: _, [], _, h => by simp at h
  | m :: ns, v :: vs, hn, h => by
    have hm : m ∉ ns := (List.nodup_cons.mp hn).1
    have ih := zip_filterMap ns vs (List.nodup_cons.mp hn).2 (by simpa using h)
    rw [List.filterMap_cons]
    have e1 : (((m :: ns).zip (v :: vs)).lookup m).map (m, ·) = some (m, v) := by simp [List.lookup_cons]
    rw [e1, List.zip_cons_cons]
    show (m, v) :: _ = (m, v) :: _
    congr 1
    refine Eq.trans ?_ ih
    refine fm_congr fun n hn' => ?_
    have : (n == m) = false := by simp; rintro rfl; exact hm hn'
    show Option.map _ (List.lookup n ((m, v) :: ns.zip vs)) = _
    rw [List.lookup_cons, this]
theorem bind_plain {fd : FuncData} {as : List Arg} {vals : List Value} (hp : fd.params = plainArgs as) (hd : fd.defaults = .none) (hn : (as.map (·.arg)).Nodup) (hl : vals.length = as.length) : bindArgs fd ⟨vals, []⟩ = pure ((as.map (·.arg)).zip vals) := by
  have hl' : vals.length = (as.map (·.arg)).length := by simpa using hl
  have e1 : seqItems? fd.defaults = pure none := by rw [hd]; rfl
  have e2 : ((as.map (·.arg)).filter fun n => (((as.map (·.arg)).zip vals).lookup n).isNone) = [] := by
    rw [List.filter_eq_nil_iff]
    intro n hm
    have := lookup_zip _ vals hl' n hm
    cases h : ((as.map (·.arg)).zip vals).lookup n with
    | none => rw [h] at this; cases this
    | some _ => simp
  unfold bindArgs
  simp only [hp, plainArgs, List.map_nil, List.nil_append, List.forIn_nil, pure_bind, e1, Option.getD_none, List.append_nil]
  simp only [hl', Nat.lt_irrefl, gt_iff_lt, decide_false, Bool.false_and, Bool.false_eq_true, if_false, Array.toList_empty, List.length_nil, Nat.zero_sub, List.drop_nil, Nat.sub_zero, List.take_length, e2, List.isEmpty_nil, Bool.not_true, List.zip_nil_right, List.forIn_nil, pure_bind]
  rw [zip_filterMap _ _ hn hl']

theorem cells_some {x : Str} : ∀ (names : List (Str × NameKind)) (n : Nat) (acc : List (Str × Addr)), names.lookup x = some .cell ∨ (acc.lookup x).isSome = true → ((cellsFrom n names acc).lookup x).isSome = true
  | [], _, _, h => h.elim (fun e => by cases e) id
  | (y, k) :: r, n, acc, h => by
    unfold cellsFrom
    by_cases hk : (k == .cell) = true
    · rw [if_pos hk]
      refine cells_some r (n + 1) ((y, n) :: acc) ?_
      by_cases hy : (x == y) = true
      · exact .inr (by rw [List.lookup_cons, hy]; rfl)
      · refine h.imp (fun e => ?_) fun e => ?_
        · rw [List.lookup_cons] at e; simpa only [hy] using e
        · rw [List.lookup_cons]; simpa only [hy] using e
    · rw [if_neg hk]
      refine cells_some r n acc ?_
      by_cases hy : (x == y) = true
      · refine .inr (h.elim (fun e => ?_) id)
        rw [List.lookup_cons, hy] at e
        exact absurd (by rw [Option.some.inj e]; rfl) hk
      · refine h.imp (fun e => ?_) id
        rw [List.lookup_cons] at e; simpa only [hy] using e

section
variable {D : OM} {kd : Str → Option NameKind}
theorem bindL_notin {x : Str} : ∀ (b : List (Str × Value)) (m : Str → Option Value), (∀ p ∈ b, p.1 ≠ x) → bindL kd b m x = m x
  | [], _, _ => rfl
  | (n, v) :: r, m, h => by
    unfold bindL
    rw [bindL_notin r _ fun p hp => h p (.tail _ hp)]
    split
    · exact if_neg fun (e : x = n) => h (n, v) (.head _) e.symm
    · rfl
theorem bindC_notin {x : Str} : ∀ (b : List (Str × Value)) (m : Str → Option Value), (∀ p ∈ b, p.1 ≠ x) → bindC kd b m x = m x
  | [], _, _ => rfl
  | (n, v) :: r, m, h => by
    unfold bindC
    rw [bindC_notin r _ fun p hp => h p (.tail _ hp)]
    split
    · rfl
    · exact if_neg fun (e : x = n) => h (n, v) (.head _) e.symm
theorem bind_get {x : String} {v : V} : ∀ (ps : List String) (cs : List Value) (vs : List V) (m : Str → Option Value), ps.Nodup → ps.length = vs.length → VRs D cs vs → (ps.zip vs).lookup x = some v →
    (kd (nm x) = some .local → ∃ cv, bindL kd ((ps.map nm).zip cs) m (nm x) = some cv ∧ VR D cv v) ∧ (kd (nm x) ≠ some .local → ∃ cv, bindC kd ((ps.map nm).zip cs) m (nm x) = some cv ∧ VR D cv v)
  | [], _, _, _, _, _, _, h => by cases h
  | _ :: _, _, [], _, _, h, _, _ => by simp at h
  | p :: ps, cs, u :: vs, m, hn, hl, hv, h => by
    obtain ⟨c, ds, rfl, h1, h2⟩ := hv.cons_inv
    have hm : p ∉ ps := (List.nodup_cons.mp hn).1
    have hni : ∀ q ∈ (ps.map nm).zip ds, q.1 ≠ nm p := fun q hq e => by
      obtain ⟨y, hy, e2⟩ := List.mem_map.mp (List.of_mem_zip hq).1
      exact hm (nm_inj (e2.trans e) ▸ hy)
    rw [List.zip_cons_cons, List.lookup_cons] at h
    cases hb : x == p with
    | true =>
      have e : x = p := by simpa using hb
      subst e
      rw [hb] at h
      cases h
      refine ⟨fun k => ⟨c, ?_, h1⟩, fun k => ⟨c, ?_, h1⟩⟩
      · show bindL kd ((nm x, c) :: (ps.map nm).zip ds) m (nm x) = some c
        unfold bindL
        rw [bindL_notin _ _ hni, if_pos k]; simp
      · show bindC kd ((nm x, c) :: (ps.map nm).zip ds) m (nm x) = some c
        unfold bindC
        rw [bindC_notin _ _ hni, if_neg k]; simp
    | false =>
      rw [hb] at h
      obtain ⟨i1, i2⟩ := bind_get ps ds vs (if kd (nm p) = some .local then fun y => if y = nm p then some c else m y else m) (List.nodup_cons.mp hn).2 (by simpa using hl) h2 h
      obtain ⟨j1, j2⟩ := bind_get ps ds vs (if kd (nm p) = some .local then m else fun y => if y = nm p then some c else m y) (List.nodup_cons.mp hn).2 (by simpa using hl) h2 h
      exact ⟨i1, j2⟩
end

structure FnTr (G : List String) (ps : List String) (body : List S) (params : Arguments) (stmts : List Stmt) (scope : Scope) : Prop where
  par : ∃ as, params = plainArgs as ∧ as.map (·.arg) = ps.map nm
  nod : ps.Nodup
  kin : (ps.all fun p => scope.names.lookup (nm p) == some .local || scope.names.lookup (nm p) == some .cell) = true
  nof : (scope.names.all fun y => y.2 != .free) = true
  kind : scope.kind = .function
  co : scope.isCoroutine = false
  ge : scope.isGenerator = false
  tr : TrSs G scope.names body stmts
noncomputable def TabOK (c : Cx) (mg : Str → Option Value) (G : List String) (tab : Tab) : Prop := ∀ f ps body, tab.lookup f = some (ps, body) → ∃ a o params stmts scope pm code doc, mg (nm f) = some (.ref a) ∧ c.s0.heap.get? a = some o ∧
  o.data = .func (PySem.Calls.docDef (nm f) params stmts scope pm code doc) ∧ c.s0.heap.CodeRec code (nm f) ∧ FnTr G ps body params stmts scope

structure AR (A : Around) (n : Nat) : Prop where
  h : A.handled = none
  u : A.units + 3 * n + 200 < cLine
  d : A.depth + n < recursionLimit
theorem AR.ok {A : Around} {n : Nat} (h : AR A n) : AOK A := ⟨h.h, by have := h.u; (first | lia | omega), by have := h.d; (first | lia | omega)⟩

section
variable {c : Cx} {mg : Str → Option Value} {G : List String}

theorem Rel.fresh' {D O : OM} {F : FM} {H : MH} {s : Shared} (R : Rel c D O F H s) {a : Addr} (h : s.heap.objs.size ≤ a) : D a = none ∧ O a = none ∧ F a = none ∧ H a = none := by
  have hn : s.heap.get? a = none := by
    cases q : s.heap.get? a with
    | none => rfl
    | some o => exact absurd (Heap.lt_size q) (Nat.not_lt.mpr h)
  refine ⟨?_, ?_, ?_, ?_⟩
  · cases q : D a with
    | none => rfl
    | some o => have := R.dat _ _ q; rw [hn] at this; cases this
  · cases q : O a with
    | none => rfl
    | some o => have := (R.oth _ _ q).1; rw [hn] at this; cases this
  · cases q : F a with
    | none => rfl
    | some o => obtain ⟨⟨_, _, _, e, _⟩, _⟩ := R.frm _ _ q; rw [hn] at e; cases e
  · cases q : H a with
    | none => rfl
    | some o => obtain ⟨_, _, e, _⟩ := R.own _ _ q; rw [hn] at e; cases e

open Classical in
noncomputable def cellO (env : PySem.Env) (O : OM) (s : Shared) : OM := fun a => if ∃ n, env.cells.lookup n = some a then s.heap.get? a else O a

theorem Gl.at (gl : Gl c mg G) (l : List PySem.Env) : Gl (c.at l) mg G := ⟨gl.g, gl.b, gl.bl, gl.nolimit, gl.mods, gl.fn⟩
theorem call_code (gl : Gl c mg G) (hpf : ∀ l A, AOK A → PF (c.at l) A) {C : CallSem} (hC : MonoC C) {A : Around} (hst : A.frames = some c.fr) (hc : ∀ env, CallOK (c.at (env :: c.fr)) mg (A.deeper env) C) (hA : ∀ env, AOK (A.deeper env)) (hroom : A.depth < recursionLimit)
    {f : String} {ps : List String} {body : List S} {a : Addr} {o : Obj} {params : Arguments} {stmts : List Stmt} {scope : Scope} {pm code doc : Value} (ho : c.s0.heap.get? a = some o) (hd : o.data = .func (PySem.Calls.docDef (nm f) params stmts scope pm code doc)) (hcd : c.s0.heap.CodeRec code (nm f)) (t : FnTr G ps body params stmts scope)
    {D O : OM} {F : FM} {H : MH} {s : Shared} {cs : List Value} {vs : List V} {Q : V → MH → Prop} {Z : Z0} (hl : ps.length = vs.length) (w : wpSs C body (bindE ps vs) (fun _ H' => Q .none H') Q Z H) (hv : VRs D cs vs) (R : Rel c D O F H s) :
    codeAny (model c.prog c.w) A (.call (.ref a) ⟨cs, []⟩) (fun r s' => match r with | .ok (.ret v) => Post c D O F Q v s' | .ok _ => False | .error e => EX c D O F Z e s') s := by
  obtain ⟨as, rfl, has⟩ := t.par
  have kp : ∀ b o, c.s0.heap.get? b = some o → s.heap.get? b = some o := fun b o e => R.dat _ _ (R.base _ _ e)
  have hb : bindArgs (PySem.Calls.docDef (nm f) (plainArgs as) stmts scope pm code doc) ⟨cs, []⟩ = pure ((ps.map nm).zip cs) := by
    rw [← has]
    refine bind_plain rfl rfl ?_ (by rw [hv.1, ← hl]; have := congrArg List.length has; simpa using this.symm)
    rw [has]
    exact List.pairwise_map.mpr (t.nod.imp fun h e => h (nm_inj e))
  have hkin : ∀ x ∈ (ps.map nm).zip cs, scope.names.lookup x.1 = some .local ∨ scope.names.lookup x.1 = some .cell := fun x hx => by
    obtain ⟨y, hy, e⟩ := List.mem_map.mp (List.of_mem_zip hx).1
    have := List.all_eq_true.mp t.kin y hy
    rw [← e]
    simpa using this
  refine (codeAny_call_cells hroom (kp _ _ ho) hd (gl.nolimit.keeps kp) (hcd.keeps kp) rfl hb rfl (fun x hx => (hkin x hx).imp id fun e => ⟨e, cells_some _ _ _ (.inl e)⟩) ?_ t.co t.ge t.kind)
  intro s1 ic
  generalize he : callEnvC (PySem.Calls.docDef (nm f) (plainArgs as) stmts scope pm code doc) s.heap.objs.size a = env at ic ⊢
  have hF : FOK env := by subst he; exact ⟨t.kind, rfl, rfl⟩
  have hK : env.scope.names = scope.names := by subst he; rfl
  have hkd : ∀ n, env.kindOf n = scope.names.lookup n := fun n => by subst he; rfl
  have hcells : env.cells = cellsFrom (s.heap.objs.size + 1) scope.names [] := by subst he; rfl
  have hL : env.locals = s.heap.objs.size := by subst he; rfl
  obtain ⟨⟨⟨h', tk, hs1⟩, hns, hkeep, hfr⟩, hcell, hap, habove⟩ := ic
  have hcellv : ∀ {n : Str} {b : Addr}, env.cells.lookup n = some b → D b = none ∧ O b = none ∧ F b = none ∧ H b = none ∧ b ≠ env.locals := fun {n b} e => by
    have hgt := habove n b (mem_of_lookup e)
    obtain ⟨f1, f2, f3, f4⟩ := R.fresh' (a := b) (Nat.le_trans hfr (Nat.le_of_lt hgt))
    exact ⟨f1, f2, f3, f4, Nat.ne_of_gt hgt⟩
  obtain ⟨g1, g2, g3, g4⟩ := R.fresh' hfr
  let m0 := bindL env.kindOf ((ps.map nm).zip cs) fun _ => none
  have R1 : Rel c D O F H s1 := by
    subst hs1
    exact R.grow hkeep
  have R2 : Rel c D (cellO env O s1) (fput F env.locals m0) H s1 := by
    have R3 : Rel c D O (fput F env.locals m0) H s1 := R1.newF hns g1 g2 g4
    refine ⟨R3.base, R3.dat, fun b x q => ?_, R3.frm, R3.own, fun b hb => ?_, R3.gens, R3.os, R3.frs⟩
    unfold cellO at q
    split at q
    · rename_i hx
      obtain ⟨n, hn⟩ := hx
      obtain ⟨f1, f2, f3, f4, f5⟩ := hcellv hn
      exact ⟨q, f1, by rw [fput_ne f5]; exact f3, f4⟩
    · exact R3.oth b x q
    · rcases hb with hb | ⟨x, hb⟩
      · exact R3.lo b (.inl hb)
      · unfold cellO at hb
        split at hb
        · rename_i hx
          obtain ⟨n, hn⟩ := hx
          exact R.freshLo (Nat.le_trans hfr (Nat.le_of_lt (habove n b (mem_of_lookup hn))))
        · exact R3.lo b (.inr ⟨x, hb⟩)
  have hco : ∀ {n : Str} {b : Addr}, env.cells.lookup n = some b → cellO env O s1 b = s1.heap.get? b := fun {n b} e => by
    unfold cellO; rw [if_pos ⟨n, e⟩]
  have fs : FS env D (cellO env O s1) (fput F env.locals m0) (bindE ps vs) := by
    refine ⟨⟨m0, fput_same .., fun x v hx hk _ => ?_⟩, fun x v hx hk => ?_, fun n hk => ?_, fun n b e => ?_⟩
    · exact (bind_get (kd := env.kindOf) ps cs vs (fun _ => none) t.nod hl hv hx).1 hk
    · have hk' : env.kindOf (nm x) = some .cell := hk.resolve_right fun e => by
        rw [hkd] at e
        have := List.all_eq_true.mp t.nof _ (mem_of_lookup e)
        simp at this
      obtain ⟨cv, e1, e2⟩ := (bind_get (kd := env.kindOf) ps cs vs (fun _ => none) t.nod hl hv hx).2 (by rw [hk']; intro z; cases z)
      have hsm : (env.cells.lookup (nm x)).isSome = true := by rw [hcells]; exact cells_some _ _ _ (.inl (by rw [← hkd]; exact hk'))
      obtain ⟨b, hb'⟩ := Option.isSome_iff_exists.mp hsm
      obtain ⟨ob, ho1, ho2⟩ := hcell (nm x) b hb'
      exact ⟨b, ob, cv, hb', (hco hb').trans ho1, by rw [ho2, e1], e2⟩
    · have hk' : env.kindOf n = some .cell := hk.resolve_right fun e => by
        rw [hkd] at e
        have := List.all_eq_true.mp t.nof _ (mem_of_lookup e)
        simp at this
      have hsm : (env.cells.lookup n).isSome = true := by rw [hcells]; exact cells_some _ _ _ (.inl (by rw [← hkd]; exact hk'))
      obtain ⟨b, hb'⟩ := Option.isSome_iff_exists.mp hsm
      obtain ⟨ob, ho1, ho2⟩ := hcell n b hb'
      exact ⟨b, ob, _, hb', (hco hb').trans ho1, ho2⟩
    · obtain ⟨ob, ho1, ho2⟩ := hcell n b e
      exact ⟨ob, (hco e).trans ho1⟩
  have R2' : Rel (c.at (env :: c.fr)) D (cellO env O s1) (fput F env.locals m0) H s1 := R2.at fun e' he' => by
    rcases List.mem_cons.mp he' with rfl | he'
    · exact ⟨(by rw [hF.kind]; intro q; cases q), e'.locals, (by rw [← he]; rfl), (by rw [fput_same]; rfl)⟩
    · exact R2.frs e' he'
  have lO : ∀ {O2 : OM} {F2 : FM}, Out env (cellO env O s1) (fput F env.locals m0) O2 F2 → OLe O O2 := fun out b x e => by
    have hn : ∀ n, env.cells.lookup n ≠ some b := fun n z => by rw [(hcellv z).2.1] at e; cases e
    rw [out.o b hn]
    unfold cellO
    rw [if_neg fun z => hn _ z.choose_spec]; exact e
  have lF : ∀ {O2 : OM} {F2 : FM}, Out env (cellO env O s1) (fput F env.locals m0) O2 F2 → FLe F F2 := fun out b x e => by
    have hb' : b ≠ env.locals := fun z => by rw [z, g3] at e; cases e
    rw [out.f b hb', fput_ne hb']; exact e
  refine wpAny_mono (sndS (gl.at _) (hA env) (hpf _ _ (hA env)) hC (hc env) t.tr env (bindE ps vs) D _ _ H s1 _ Q Z hF hK ⟨hap, (by rw [← he]; rfl), c.fr, Around.frames_deeper hst, rfl⟩ fs R2' w) (fun fl s2 p2 => ?_) fun e s2 h2 => ?_
  · obtain ⟨D2, O2, F2, H2, k2, out, R3, q⟩ := p2
    have R4 : Rel c D2 O F H2 s2 := R3.back (lO out) (lF out) R.frs
    cases fl with
    | next =>
      obtain ⟨ρ', _, q⟩ := q
      exact ⟨D2, .none, H2, k2, .none, R4, q⟩
    | ret cv =>
      obtain ⟨v, v1, q⟩ := q
      exact ⟨D2, v, H2, k2, v1, R4, q⟩
    | brk => exact q.elim
    | cont => exact q.elim
  · obtain ⟨_, _, _, _, _, _, _, _, x, _⟩ := h2
    exact x.elim

theorem call_one (gl : Gl c mg G) (hpf : ∀ l A, AOK A → PF (c.at l) A) {C : CallSem} (hC : MonoC C) {A : Around} (hst : A.frames = some c.fr) (hc : ∀ env, CallOK (c.at (env :: c.fr)) mg (A.deeper env) C) (hA : ∀ env, AOK (A.deeper env)) (hroom : A.depth < recursionLimit)
    {f : String} {ps : List String} {body : List S} {a : Addr} {o : Obj} {params : Arguments} {stmts : List Stmt} {scope : Scope} {pm code doc : Value} (ho : c.s0.heap.get? a = some o) (hd : o.data = .func (PySem.Calls.docDef (nm f) params stmts scope pm code doc)) (hcd : c.s0.heap.CodeRec code (nm f)) (t : FnTr G ps body params stmts scope)
    {D O : OM} {F : FM} {H : MH} {s : Shared} {cs : List Value} {vs : List V} {Q : V → MH → Prop} {Z : Z0} (hl : ps.length = vs.length) (w : wpSs C body (bindE ps vs) (fun _ H' => Q .none H') Q Z H) (hv : VRs D cs vs) (R : Rel c D O F H s) :
    WE c A (call (.ref a) cs) (Post c D O F Q) (EX c D O F Z) s := wpAny_call (call_code gl hpf hC hst hc hA hroom ho hd hcd t hl w hv R)

theorem callN_ok (gl : Gl c mg G) (hpf : ∀ l A, AOK A → PF (c.at l) A) {tab : Tab} (ht : TabOK c mg G tab) : ∀ (n : Nat) (A : Around) (l : List PySem.Env), A.frames = some l → AR A n → CallOK (c.at l) mg A (CallN tab n)
  | 0, _, _, _, _ => fun f a D O F H s cs vs Q Z _ h => h.elim
  | n + 1, A, l, hst, hA => fun f a D O F H s cs vs Q Z hf h hv R => by
    obtain ⟨ps, body, e, hl, w⟩ := (h : ∃ ps body, tab.lookup f = some (ps, body) ∧ ps.length = vs.length ∧ wpSs (CallN tab n) body (bindE ps vs) (fun _ H' => Q .none H') Q Z H)
    obtain ⟨a', o, params, stmts, scope, pm, code, doc, h1, h2, h3, h4, t⟩ := ht f ps body e
    rw [h1] at hf
    cases hf
    have har : ∀ env, AR (A.deeper env) n := fun env => ⟨hA.h, by have := hA.u; show A.units + 3 + 3 * n + 200 < cLine; (first | lia | omega), by have := hA.d; show A.depth + 1 + n < recursionLimit; (first | lia | omega)⟩
    exact call_one (c := c.at l) (gl.at l) hpf (CallN_mono tab n) hst (fun env => callN_ok gl hpf ht n _ (env :: l) (Around.frames_deeper hst) (har env)) (fun env => (har env).ok) (by have := hA.d; (first | lia | omega)) h2 h3 h4 t hl w hv R
end
end Mini

end
section
set_option autoImplicit false
set_option linter.unusedVariables false
set_option linter.unusedSectionVars false
set_option linter.unusedSimpArgs false
set_option maxRecDepth 100000
namespace Mini
open PySem

section
variable {prog : Program} {w : World} {A : Around} {E : Value → Shared → Prop} {s : Shared}
set_option maxRecDepth 512 in
theorem setItem_plain {l : Addr} {cs : List Value} {n : Nat} {k : Int} {t : Tok} {v : Value} {Q : Unit → Shared → Prop} (g : s.heap.get? l = some (listObj cs n))
    (h0 : 0 ≤ k) (hfit : k < 2 ^ 63) (hn : k < cs.length)
    (hQ : ∀ h' n', h'.get? l = some (listObj (cs.set k.toNat v) n') → Heap.SameBut l s.heap h' → Q () { s with heap := h' }) :
    wpAny (model prog w) A (setItem (.ref l) (.int k t) v) Q E s := by
  have hl : s.heap.IsList l cs.toArray := ⟨_, g, rfl, n, rfl⟩
  have ho := g
  have hd : (listObj cs n).data = .seq cs.toArray n := rfl
  unfold setItem
  try with_reducible refine wpAny_holding ?_
  first | refine wpAny_bind (wpAny_pure ?_) | skip
  refine wpAny_bind (wpAny_sequenceKey hl.typeIs (by decide) ?_)
  refine wpAny_bind (wpAny_callSpecial?_slot (name := Str.ofString "__setitem__") hl.typeIs slot_list_setitem
    (wpAny_call_entry slot_list_setitem hl.typeIs entry_list_setitem ?_ (args_list_setitem _ _ _)))
  show wpAny _ _ (Builtin.List.listSubscript? (.int k t) >>= _) _ _ s
  refine wpAny_bind (wpAny_listSubscript_int (fitsIndex_of h0 hfit) ?_)
  clear hfit
  obtain ⟨j, rfl⟩ := Int.eq_ofNat_of_zero_le h0
  have hj : j < cs.length := by (first | lia | omega)
  have hx' : cs.toArray[j]? = some cs[j] := by simp [hj]
  show wpAny _ _ ((seqItemAt l j >>= fun r => pure (r.map (j, ·))) >>= _) _ _ s
  refine wpAny_bind (wpAny_bind (wpAny_seqItemAt ho hd (wpAny_pure ?_)))
  rw [hx']
  show wpAny _ _ (setSeqItemAt l j v >>= _) _ _ s
  obtain ⟨n', hd'⟩ := Obj.data_mapSeq hd (·.setIfInBounds j v)
  have hfin : (s.heap.update l (Obj.mapSeq (·.setIfInBounds j v))).get? l = some (listObj (cs.set j v) n') := by
    rw [Heap.get?_update_self _ ho (Obj.isFreed_of_seq hd')]
    congr 1
    have : Obj.mapSeq (·.setIfInBounds j v) (listObj cs n) = { (listObj cs n) with data := (Obj.mapSeq (·.setIfInBounds j v) (listObj cs n)).data } := rfl
    rw [this, hd']
    simp [listObj]
  refine wpAny_bind (wpAny_setSeqItemAt ho hd ?_)
  first
    | exact wpAny_bind (wpAny_pure (wpAny_pure ⟨.none, rfl, wpAny_pure (hQ _ n' hfin (Heap.SameBut.update ..))⟩))
    | exact wpAny_pure ⟨.none, rfl, wpAny_pure (hQ _ n' hfin (Heap.SameBut.update ..))⟩
end

section
variable {c : Cx} {mg : Str → Option Value} {G : List String} {A : Around} {D O : OM} {F : FM} {H : MH} {s : Shared}

theorem lim_size {n : Nat} (h : n ≤ lim) : n ≤ sizeLine := by rw [sizeLine_eq]; unfold lim at h; (first | lia | omega)

theorem repS_eq (x : Str) : ∀ n, (repS x n).cps = (List.replicate n x.cps).foldl (· ++ ·) #[] := by
  have gen : ∀ (l : List (Array Nat)) (a b : Array Nat), l.foldl (· ++ ·) (a ++ b) = a ++ l.foldl (· ++ ·) b := fun l => by
    induction l with
    | nil => intro a b; rfl
    | cons x l ih => intro a b; simp only [List.foldl_cons]; rw [Array.append_assoc, ih]
  intro n
  induction n with
  | zero => rfl
  | succ n ih =>
    show x.cps ++ (repS x n).cps = _
    rw [ih, List.replicate_succ, List.foldl_cons, Array.empty_append]
    have := gen (List.replicate n x.cps) x.cps #[]
    rw [Array.append_empty] at this
    exact this.symm
theorem repS_len (x : Str) (n : Nat) : (repS x n).length = n * x.length := by
  induction n with
  | zero => simp [repS, Str.length, Str.empty]
  | succ n ih => show (x ++ repS x n).length = _; rw [Str.length_append, ih, Nat.add_mul]; (first | lia | omega)

theorem mul_str_snd {a b : Value} {x : Str} {n : Int} (R : Rel c D O F H s) (ha : VR D a (.str x)) (hb : VR D b (.int n)) (hl : n.toNat * x.length ≤ lim) (hs : small n = true) : W c A (binaryOp .Mult a b) (Fin c D O F H (.val (.str (repS x n.toNat)))) s := by
  have hx := ha.str_len
  obtain ⟨t, rfl⟩ := ha.str_inv
  obtain ⟨u, rfl⟩ := hb.int_inv
  have hs' : n.natAbs < 1000000000000000000 := of_decide_eq_true hs
  have hlen := repS_len x n.toNat
  refine P.mul_str ?_ ?_ ?_ ?_
  · simp only [Bool.or_eq_false_iff, decide_eq_false_iff_not]; (first | lia | omega)
  · intro h1 h2 h3
    have : (x.length : Int) * n ≤ (lim : Int) := by
      have : ((n.toNat * x.length : Nat) : Int) ≤ (lim : Int) := by exact_mod_cast hl
      have e : ((n.toNat * x.length : Nat) : Int) = (x.length : Int) * n := by rw [Int.natCast_mul, Int.toNat_of_nonneg (by (first | lia | omega)), Int.mul_comm]
      (first | lia | omega)
    have h4 : (2 ^ 63 - 1) / n < (x.length : Int) := h3
    have h5 := (Int.ediv_lt_iff_lt_mul (a := (2 ^ 63 - 1 : Int)) (by (first | lia | omega) : 0 < n)).mp h4
    unfold lim at this
    (first | lia | omega)
  · intro h1 h2
    unfold Builtin.Str.tooLong
    rw [decide_eq_false_iff_not, sizeLine_eq]
    unfold lim at hl
    rw [Nat.mul_comm] at hl
    (first | lia | omega)
  · by_cases h1 : n < 1
    · rw [if_pos h1]
      have e : n.toNat = 0 := by (first | lia | omega)
      rw [e]
      exact ⟨by simp [Str.length, Str.empty], .valT (.str _ _ (by show 0 ≤ lim; exact Nat.zero_le _)) R⟩
    · rw [if_neg h1]
      split
      · rename_i h2
        rw [Bool.or_eq_true, beq_iff_eq, beq_iff_eq] at h2
        have e : repS x n.toNat = x := by
          rcases h2 with h2 | h2
          · subst h2; show x ++ repS x 0 = x; show x ++ Str.empty = x; exact Str.append_empty x
          · have h3 : (repS x n.toNat).length = 0 := by rw [hlen, h2]; simp
            have e1 : (repS x n.toNat).cps = #[] := Array.size_eq_zero_iff.mp h3
            have e2 : x.cps = #[] := Array.size_eq_zero_iff.mp h2
            have : ∀ y : Str, y.cps = #[] → y = ⟨#[]⟩ := fun y h => by cases y; simp at h; rw [h]
            rw [this _ e1, this _ e2]
        rw [e]
        exact .val (.str _ _ hx) R
      · have e : (⟨(List.replicate n.toNat x.cps).foldl (· ++ ·) #[]⟩ : Str) = repS x n.toNat := by rw [← repS_eq]
        rw [e]
        exact ⟨by rw [hlen]; exact lim_size hl, .valT (.str _ _ (by rw [hlen]; exact hl)) R⟩

theorem setItem_list_snd {l : Addr} {b : Value} {k : Int} {t : Tok} {v : V} {vs : List V} (R : Rel c D O F H s) (hb : VR D b v) (e : H l = some (.list vs)) (h0 : 0 ≤ k) (hk : k < vs.length) :
    W c A (setItem (.ref l) (.int k t) b) (fun _ s' => Rel c D O F (hupd H l (.list (vs.set k.toNat v))) s') s := by
  obtain ⟨cs, n, v1, g, hl⟩ := R.listAt e
  refine setItem_plain g h0 (by unfold lim at hl; (first | lia | omega)) (by rw [v1.1]; exact hk) fun h' n' g' hs => ?_
  exact R.setH (tk := s.toks) e hs g' (.list (cs := cs.set k.toNat b) ⟨n', rfl⟩ (v1.set hb) (by simpa using hl))
end
end Mini

end
section
set_option autoImplicit false
set_option linter.unusedVariables false
set_option linter.unusedSectionVars false
set_option linter.unusedSimpArgs false
set_option maxRecDepth 100000
namespace Mini
open PySem

section
variable {c : Cx} {mg : Str → Option Value} {G : List String} {A : Around} {D O : OM} {F : FM} {H : MH} {s : Shared}

theorem fin_newAt {cs : List Value} {vs : List V} {h' : Heap} {n tk : Nat} (R : Rel c D O F H s) (h : VRs D cs vs) (hl : vs.length ≤ lim) (k : ∀ b o, s.heap.get? b = some o → h'.get? b = some o) {a : Addr} (ha : s.heap.objs.size ≤ a) (e : h'.get? a = some (listObj cs n)) :
    Fin c D O F H (.new (.list vs)) (.ref a) { s with heap := h', toks := tk } := by
  obtain ⟨f1, f2, f3, f4⟩ := R.fresh' ha
  exact ⟨D, .refl D, _, rfl, f4, (R.grow (tk := tk) k).newH e f1 f2 f3 (.list ⟨n, rfl⟩ h hl) (R.freshLo ha)⟩
theorem signs_VR {x : Str} {acc : Array Value} (h : ItemsOf (SignAt x) acc x.cps.size) : VRs D acc.toList (chars x) := by
  refine ⟨by simp [chars, h.1], fun i a b => ?_⟩
  have hi : i < acc.size := by simpa using a
  obtain ⟨cc, u, e1, e2⟩ := h.2 i acc[i] (Array.getElem?_eq_getElem hi)
  have hx : i < x.cps.size := by rw [← h.1]; exact hi
  have e3 : x.cps[i] = cc := by rw [Array.getElem?_eq_getElem hx] at e1; exact Option.some.inj e1
  have e4 : acc.toList[i] = acc[i] := by simp
  rw [e4, e2]
  have e5 : (chars x)[i] = .str ⟨#[cc]⟩ := by simp [chars, e3]
  rw [e5]
  exact .str _ _ (by show 1 ≤ lim; decide)

inductive SeqAt' (c : Cx) (D : OM) (s : Shared) (cv : Value) (vs : List V) : Prop
  | list (a : Addr) (cs : List Value) (n : Nat) : cv = .ref a → s.heap.get? a = some (listObj cs n) → VRs D cs vs → vs.length ≤ lim → SeqAt' c D s cv vs
  | tup (a : Addr) (cs : List Value) (n : Nat) : cv = .ref a → s.heap.get? a = some (tupObj cs n) → VRs D cs vs → vs.length ≤ lim → SeqAt' c D s cv vs
theorem seqAt_of {cv : Value} {v : V} {vs : List V} (R : Rel c D O F H s) (hv : VR D cv v) (h : items H v = some vs) : SeqAt' c D s cv vs := by
  cases v <;> simp only [items] at h <;> (try (cases h; done))
  case tup us => cases h; obtain ⟨a, cs, n, e, d, v1, l⟩ := hv.tup_inv; exact .tup a cs n e (R.dat _ _ d) v1 l
  case fl us => cases h; obtain ⟨a, cs, n, e, d, v1, l⟩ := hv.fl_inv; exact .list a cs n e (R.dat _ _ d) v1 l
  case ref a =>
    split at h
    · rename_i us e; cases h
      obtain ⟨cs, n, v1, g, l⟩ := R.listAt e
      exact .list a cs n hv.ref_inv g v1 l
    · cases h

theorem listOf_snd {a : Value} {va : V} {r : Res} (M : AOK A) (R : Rel c D O F H s) (ha : VR D a va) (h : primOp .listOf H [va] = some r) : W c A (call (.type "list") [a]) (Fin c D O F H r) s := by
  have seq : ∀ {vs : List V}, SeqAt' c D s a vs → newL vs = some r → W c A (call (.type "list") [a]) (Fin c D O F H r) s := fun {vs} q h => by
    unfold newL at h
    split at h
    case isFalse => cases h
    cases h
    cases q with
    | list x cs n e g v1 l =>
      subst e
      refine call_list_seq x (.inl rfl) g rfl rfl (fun h' c' k e => ?_) (by rw [List.size_toArray, v1.1]; exact lim_size l)
      exact fin_newAt (tk := s.toks) R v1 l k (Nat.le_refl _) e
    | tup x cs n e g v1 l =>
      subst e
      refine call_list_seq x (.inr rfl) g rfl rfl (fun h' c' k e => ?_) (by rw [List.size_toArray, v1.1]; exact lim_size l)
      exact fin_newAt (tk := s.toks) R v1 l k (Nat.le_refl _) e
  cases va <;> (try (cases h; done))
  case str x =>
    have h' : newL (chars x) = some r := h
    unfold newL at h'
    split at h'
    case isFalse => cases h'
    rename_i hl
    cases h'
    have hx := ha.str_len
    obtain ⟨t, rfl⟩ := ha.str_inv
    refine call_list_str M.h x t (fun h' tk acc n k e hi => ?_) (lim_size hx)
    refine fin_newAt (cs := acc.toList) (n := n) R (signs_VR hi) hl k (Nat.le_refl _) (by rw [e]; simp [listObj])
  case tup us => exact seq (seqAt_of R ha rfl) h
  case fl us => exact seq (seqAt_of R ha rfl) h
  case ref x =>
    have h' : (items H (.ref x)).bind newL = some r := h
    obtain ⟨vs, e, h2⟩ := Option.bind_eq_some_iff.mp h'
    exact seq (seqAt_of R ha e) h2

theorem tupleOf_snd {a : Value} {va : V} {r : Res} (M : AOK A) (R : Rel c D O F H s) (ha : VR D a va) (h : primOp .tupleOf H [va] = some r) : W c A (call (.type "tuple") [a]) (Fin c D O F H r) s := by
  have fin : ∀ {h' : Heap} {tk : Nat} {cs : List Value} {vs : List V} {arr : Array Value}, arr = cs.toArray → VRs D cs vs → vs.length ≤ lim → (∀ b o, s.heap.get? b = some o → h'.get? b = some o) →
      Fin c D O F H (.val (.tup vs)) (.ref h'.objs.size) { s with heap := h'.push { cls := .type "tuple", data := .seq arr }, toks := tk } := fun {h' tk cs vs arr} e v l k =>
    fin_newTup (s := { s with heap := h', toks := tk }) (R.grow k) v l e
  have lst : ∀ {x : Addr} {cs : List Value} {n : Nat} {vs : List V}, a = .ref x → s.heap.get? x = some (listObj cs n) → VRs D cs vs → vs.length ≤ lim → valT vs = some r → W c A (call (.type "tuple") [a]) (Fin c D O F H r) s := fun {x cs n vs} e g v1 l h => by
    unfold valT at h
    rw [if_pos l] at h
    cases h
    subst e
    refine call_tuple_list ⟨_, g, rfl, n, rfl⟩ (fun h' k => ?_) (by rw [List.size_toArray, v1.1]; exact lim_size l)
    exact fin (tk := s.toks) rfl v1 l k
  cases va <;> (try (cases h; done))
  case str x =>
    have h' : valT (chars x) = some r := h
    unfold valT at h'
    split at h'
    case isFalse => cases h'
    rename_i hl
    cases h'
    have hx := ha.str_len
    obtain ⟨t, rfl⟩ := ha.str_inv
    refine call_tuple_str M.h x t (fun h' tk acc k hi => ?_) (lim_size hx)
    exact fin (cs := acc.toList) (by simp) (signs_VR hi) hl k
  case tup us =>
    have h' : valT us = some r := h
    unfold valT at h'
    split at h'
    case isFalse => cases h'
    cases h'
    have ha' := ha
    obtain ⟨x, cs, n, rfl, d, v1, l⟩ := ha.tup_inv
    exact call_tuple_same ⟨_, R.dat _ _ d, rfl, n, rfl⟩ (.val ha' R)
  case fl us =>
    obtain ⟨x, cs, n, e, d, v1, l⟩ := ha.fl_inv
    exact lst e (R.dat _ _ d) v1 l h
  case ref x =>
    have h' : (items H (.ref x)).bind valT = some r := h
    obtain ⟨vs, e, h2⟩ := Option.bind_eq_some_iff.mp h'
    simp only [items] at e
    split at e
    · rename_i us e1; cases e
      obtain ⟨cs, n, v1, g, l⟩ := R.listAt e1
      exact lst ha.ref_inv g v1 l h2
    · cases e

theorem mapO_consI {α β : Type} {f : α → Option β} {a : α} {l : List α} {r : List β} (h : mapO f (a :: l) = some r) : ∃ b t, f a = some b ∧ mapO f l = some t ∧ r = b :: t := by
  unfold mapO at h
  split at h
  · rename_i b t e1 e2; cases h; exact ⟨b, t, e1, e2, rfl⟩
  · cases h
theorem ints_inv : ∀ {vs : List V} {is : List Int}, ints? vs = some is → vs = is.map .int
  | [], is, h => by cases h; rfl
  | v :: vs, is, h => by
    obtain ⟨b, t, e1, e2, rfl⟩ := mapO_consI h
    have := ints_inv (vs := vs) (is := t) e2
    cases v <;> simp at e1
    rw [this, e1]; rfl
theorem bools_inv : ∀ {vs : List V} {is : List Bool}, bools? vs = some is → vs = is.map .bool
  | [], is, h => by cases h; rfl
  | v :: vs, is, h => by
    obtain ⟨b, t, e1, e2, rfl⟩ := mapO_consI h
    have := bools_inv (vs := vs) (is := t) e2
    cases v <;> simp at e1
    rw [this, e1]; rfl
theorem strs_inv : ∀ {vs : List V} {is : List Str}, strs? vs = some is → vs = is.map .str
  | [], is, h => by cases h; rfl
  | v :: vs, is, h => by
    obtain ⟨b, t, e1, e2, rfl⟩ := mapO_consI h
    have := strs_inv (vs := vs) (is := t) e2
    cases v <;> simp at e1
    rw [this, e1]; rfl

theorem intsAre_of : ∀ {is : List Int} {cs : List Value}, VRs D cs (is.map .int) → PyProof.Rows.IntsAre cs is
  | [], cs, h => by obtain rfl := h.nil_inv; exact .nil
  | i :: is, cs, h => by
    obtain ⟨cv, ds, rfl, h1, h2⟩ := h.cons_inv
    obtain ⟨t, rfl⟩ := h1.int_inv
    exact .cons i t (intsAre_of h2)
theorem VRs_of_ints : ∀ {is : List Int} {cs : List Value}, PyProof.Rows.IntsAre cs is → VRs D cs (is.map .int)
  | _, _, .nil => .nil
  | _, _, .cons n t h => .cons (.int n t) (VRs_of_ints h)

theorem insI_perm (x : Int) : ∀ l : List Int, (insI x l).Perm (x :: l)
  | [] => .refl _
  | y :: l => by
    unfold insI
    split
    · exact .refl _
    · exact ((insI_perm x l).cons y).trans (.swap ..)
theorem sortI_perm : ∀ l : List Int, (sortI l).Perm l
  | [] => .refl _
  | x :: l => (insI_perm x _).trans ((sortI_perm l).cons x)
theorem insI_sorted (x : Int) : ∀ l : List Int, l.Pairwise (· ≤ ·) → (insI x l).Pairwise (· ≤ ·)
  | [], _ => by simp [insI]
  | y :: l, h => by
    obtain ⟨h1, h2⟩ := List.pairwise_cons.mp h
    unfold insI
    split
    · rename_i hx
      exact List.pairwise_cons.mpr ⟨fun z hz => by
        rcases List.mem_cons.mp hz with rfl | hz
        · exact hx
        · exact Int.le_trans hx (h1 z hz), h⟩
    · rename_i hx
      refine List.pairwise_cons.mpr ⟨fun z hz => ?_, insI_sorted x l h2⟩
      rcases List.mem_cons.mp ((insI_perm x l).mem_iff.mp hz) with rfl | hz
      · (first | lia | omega)
      · exact h1 z hz
theorem sortI_sorted : ∀ l : List Int, (sortI l).Pairwise (· ≤ ·)
  | [] => .nil
  | x :: l => insI_sorted x _ (sortI_sorted l)
theorem sorted_unique : ∀ {a b : List Int}, a.Perm b → a.Pairwise (· ≤ ·) → b.Pairwise (· ≤ ·) → a = b
  | [], b, p, _, _ => (List.perm_nil.mp p.symm).symm ▸ rfl
  | x :: a, [], p, _, _ => by have := p.length_eq; simp at this
  | x :: a, y :: b, p, ha, hb => by
    obtain ⟨h1, h2⟩ := List.pairwise_cons.mp ha
    obtain ⟨h3, h4⟩ := List.pairwise_cons.mp hb
    have e : x = y := by
      have hx : x ∈ y :: b := p.mem_iff.mp (.head _)
      have hy : y ∈ x :: a := p.mem_iff.mpr (.head _)
      rcases List.mem_cons.mp hx with e | hx
      · exact e
      · rcases List.mem_cons.mp hy with e | hy
        · exact e.symm
        · exact Int.le_antisymm (h1 y hy) (h3 x hx)
    subst e
    rw [sorted_unique (List.Perm.cons_inv p) h2 h4]

theorem sorted_src {T : String} {x d : Addr} {n : Nat} {P : Nat → Value → Prop} {OK : Heap → Prop} {is : List Int} (M : AOK A) (R : Rel c D O F H s) (K : PySem.W.KdlSrc c.prog c.w T x d n P OK) (hok : OK s.heap) (hn64 : n < 64) (hI : ∀ acc : Array Value, PySem.ItemsOf P acc n → PyProof.Rows.IntsAre acc.toList is) (hl : ((sortI is).map V.int).length ≤ lim) : W c A (call (.builtin "sorted") [.ref x]) (Fin c D O F H (.new (.list ((sortI is).map .int)))) s := by
  have hn : n ≤ sizeLine := lim_size (by unfold lim; (first | lia | omega))
  refine Calls.call_function_entry PyProof.Rows.kind_sorted PyProof.Rows.plain_sorted PyProof.Rows.entry_sorted (PyProof.Rows.args_sorted1 _) ?_
  unfold Builtin.«sorted»
  refine wpAny_bind (m := checkCount "sorted" 1 1 _) (wpAny_pure ?_)
  refine wpAny_bind (PySem.W.kdu_collect (A := A.in1) K M.h hok hn fun h' tk acc hkk hacc => ?_)
  have hlen : acc.toList.length = n := by rw [Array.length_toList]; exact hacc.1
  have hI := hI acc hacc
  refine wpAny_bind (wpAny_newList ?_ (by rw [hlen]; exact hn))
  have hoL : (h'.push (PyProof.Rows.seqObj "list" acc.toList.toArray 0)).get? h'.objs.size = some (PyProof.Rows.seqObj "list" acc.toList.toArray 0) := Heap.get?_push_size _ rfl
  refine wpAny_bind (wpAny_holding (wpAny_call_entry PyProof.Rows.slot_list_sort ⟨_, hoL, rfl⟩ PyProof.Rows.entry_list_sort (PyProof.Rows.list_sort_tree hoL hI (by rw [hlen]; exact hn64) fun out ns' a1 a2 a3 => ⟨_, rfl, ?_⟩) (PyProof.Rows.args_list_sort _)))
  refine wpAny_pure ⟨_, rfl, ?_⟩
  obtain ⟨ee, he⟩ := PyProof.Rows.sortedHeap_at (vs := acc.toList) (out := out) hoL
  have hns : ns' = sortI is := sorted_unique (a2.trans (sortI_perm is).symm) a3 (sortI_sorted is)
  subst hns
  have R' : Rel c D O F H { s with heap := h', toks := tk } := R.grow hkk
  exact fin_newAt (s := { s with heap := h', toks := tk }) (cs := out.toList) (n := ee) (tk := tk) R' (VRs_of_ints a1) hl (fun b o h1 => by
    have h2 : b < h'.objs.size := Heap.lt_size h1
    show (PyProof.Rows.sortedHeap _ _ _ _).get? b = some o
    rw [PyProof.Rows.sortedHeap_old (Nat.ne_of_lt h2) (by rw [PyProof.Rows.size_push']; exact Nat.lt_succ_of_lt h2), Heap.get?_push_ne _ _ _ (Nat.ne_of_lt h2)]
    exact h1) (Nat.le_refl _) (by rw [he]; simp [listObj, PyProof.Rows.seqObj])
theorem sorted_dict_snd {x : Addr} {kvs : List (V × V)} {is : List Int} (M : AOK A) (R : Rel c D O F H s) (e : H x = some (.dict kvs)) (h64 : kvs.length < 64) (hi : ints? (kvs.map fun p => p.1) = some is) (hl : ((sortI is).map V.int).length ≤ lim) : W c A (call (.builtin "sorted") [.ref x]) (Fin c D O F H (.new (.list ((sortI is).map .int)))) s := by
  have hk := ints_inv hi
  have hnil : (∀ p ∈ kvs, ∀ i, p.1 ≠ .int i) → kvs = [] := fun h => by
    cases kvs with
    | nil => rfl
    | cons p r =>
      cases is with
      | nil => simp at hk
      | cons i t => simp at hk; exact absurd hk.1 (h p (.head _) i)
  obtain ⟨xs, hD, kv⟩ : ∃ xs, s.heap.DictOf (intKind c.prog c.w) x xs ∧ KV D V.int xs kvs := by
    cases (R.dictAt e).1 with
    | int xs a b => exact ⟨xs, a, b⟩
    | str xs a b =>
      have h0 : kvs = [] := hnil fun p hp i q => by
        obtain ⟨j, hj, rfl⟩ := List.mem_iff_getElem.mp hp
        have := (b.2 j (by rw [b.1]; exact hj) hj).1
        rw [q] at this; cases this
      subst h0
      obtain rfl := b.nil_of
      exact ⟨[], dictOf_nil_any a, rfl, fun i h => by cases h⟩
    | tup xs a a2 b =>
      have h0 : kvs = [] := hnil fun p hp i q => by
        obtain ⟨j, hj, rfl⟩ := List.mem_iff_getElem.mp hp
        have := (b.2 j (by rw [b.1]; exact hj) hj).1
        rw [q] at this; cases this
      subst h0
      have h1 := b.nil_of
      have h2 : xs = [] := by simpa [PyProof.Rows.kvsOf] using h1
      subst h2
      exact ⟨[], dictOfH_nil_any a, rfl, fun i h => by cases h⟩
  have his : is = xs.map (·.1) := by
    apply List.ext_getElem
    · have h1 := congrArg List.length hk
      simp at h1
      rw [List.length_map, kv.1]; exact h1.symm
    · intro j a b
      have hj : j < kvs.length := by have h1 := congrArg List.length hk; simp at h1; (first | lia | omega)
      have hj' : j < xs.length := by simpa using b
      have h1 : (kvs.map fun p => p.1)[j]'(by simpa using hj) = (is.map V.int)[j]'(by simpa using a) := by simp only [hk]
      simp only [List.getElem_map] at h1 ⊢
      rw [(kv.2 j hj' hj).1] at h1
      injection h1 with h1
      exact h1.symm
  obtain ⟨ep, hat⟩ := hD.dictAt
  refine sorted_src M R (PySem.W.kdl_dict (knd := intKind c.prog c.w) (kvs := xs) (ep := ep) (by have := R.lo x (.inl ⟨_, e⟩); simpa using this)) hat (by rw [kv.1]; exact h64) (fun acc hacc => ?_) hl
  have hlen : acc.toList.length = xs.length := by rw [Array.length_toList]; exact hacc.1
  refine intsAre_of (D := D) ⟨by rw [hlen, his]; simp, fun j a b => ?_⟩
  have ha : j < acc.size := by simpa using a
  obtain ⟨k, v, e1, e2⟩ := hacc.2 j acc[j] (Array.getElem?_eq_getElem ha)
  obtain ⟨t, e3⟩ := Value.isInt_shape e2
  have hj : j < xs.length := by rw [← hlen]; exact a
  have e4 : xs[j] = (k, v) := by rw [List.getElem?_eq_getElem hj] at e1; exact Option.some.inj e1
  have e5 : acc.toList[j] = .int k t := by rw [Array.getElem_toList]; exact e3
  rw [e5, List.getElem_map]
  have e6 : is[j]'(by simpa using b) = k := by subst his; simp [e4]
  rw [e6]
  exact .int _ _
theorem sorted_snd {a : Value} {va : V} {r : Res} (M : AOK A) (R : Rel c D O F H s) (ha : VR D a va) (h : primOp .sorted H [va] = some r) : W c A (call (.builtin "sorted") [a]) (Fin c D O F H r) s := by
  cases va <;> (try (cases h; done))
  case ref x =>
    obtain rfl := ha.ref_inv
    have h' : (match H x with
      | some (.list vs) => if vs.length < 64 then (ints? vs).bind fun is => newL ((sortI is).map .int) else none
      | some (.dict kvs) => if kvs.length < 64 then (ints? (kvs.map (fun p : V × V => p.1))).bind fun is => newL ((sortI is).map .int) else none
      | _ => none) = some r := h
    split at h'
    case h_3 => cases h'
    case h_2 =>
      rename_i kvs e
      split at h'
      case isFalse => cases h'
      rename_i h64
      obtain ⟨is, e1, e2⟩ := Option.bind_eq_some_iff.mp h'
      unfold newL at e2
      split at e2
      case isFalse => cases e2
      rename_i hl
      cases e2
      exact sorted_dict_snd M R e h64 e1 hl
    rename_i vs e
    split at h'
    case isFalse => cases h'
    rename_i h64
    obtain ⟨is, e1, e2⟩ := Option.bind_eq_some_iff.mp h'
    obtain rfl := ints_inv e1
    obtain ⟨cs, n, v1, g, l⟩ := R.listAt e
    unfold newL at e2
    split at e2
    case isFalse => cases e2
    rename_i hl
    cases e2
    refine PyProof.Rows.sorted_ints ⟨_, g, rfl, n, rfl⟩ (intsAre_of v1) (by rw [v1.1]; exact h64) fun out ns' hi hp hs => ?_
    obtain ⟨ee, he⟩ := PyProof.Rows.sortedAll_at s.heap cs out
    have hns : ns' = sortI is := sorted_unique (hp.trans (sortI_perm is).symm) hs (sortI_sorted is)
    subst hns
    exact fin_newAt (cs := out.toList) (n := ee) (tk := s.toks) R (VRs_of_ints hi) hl (fun b o e => PyProof.Rows.sortedAll_old e) (Nat.le_succ _) (by rw [he]; simp [listObj, PyProof.Rows.seqObj])

theorem min2_snd {a b : Value} {i j : Int} (M : AOK A) (R : Rel c D O F H s) (ha : VR D a (.int i)) (hb : VR D b (.int j)) : W c A (call (.builtin "min") [a, b]) (Fin c D O F H (.val (.int (if j < i then j else i)))) s := by
  obtain ⟨t, rfl⟩ := ha.int_inv
  obtain ⟨u, rfl⟩ := hb.int_inv
  refine min_two_ints M.h fun h' tk k => ?_
  split
  · exact .val (.int _ _) (R.grow k)
  · exact .val (.int _ _) (R.grow k)
end
end Mini

end
section
set_option autoImplicit false
set_option linter.unusedVariables false
set_option linter.unusedSimpArgs false
set_option maxRecDepth 100000
namespace Mini
open PySem

noncomputable def Rise (xs : Array Nat) : Prop := ∀ i j (hi : i < xs.size) (hj : j < xs.size), i < j → xs[i] < xs[j]
theorem Rise.le {xs : Array Nat} (h : Rise xs) {i j : Nat} (hi : i < xs.size) (hj : j < xs.size) (e : i ≤ j) : xs[i] ≤ xs[j] := by
  rcases Nat.lt_or_ge i j with q | q
  · exact Nat.le_of_lt (h i j hi hj q)
  · have : i = j := by (first | lia | omega)
    subst this; exact Nat.le_refl _
theorem below_go {xs : Array Nat} (h : Rise xs) (j : Nat) : ∀ (fuel lo hi : Nat), hi ≤ xs.size → lo ≤ hi → hi - lo ≤ fuel → (∀ i (_ : i < xs.size), i < lo → xs[i] < j) → (∀ i (_ : i < xs.size), hi ≤ i → j ≤ xs[i]) →
    SetTable.below.go xs j fuel lo hi ≤ xs.size ∧ (∀ i (_ : i < xs.size), i < SetTable.below.go xs j fuel lo hi → xs[i] < j) ∧ ∀ i (_ : i < xs.size), SetTable.below.go xs j fuel lo hi ≤ i → j ≤ xs[i]
  | 0, lo, hi, h1, h2, h3, h4, h5 => by
    have : lo = hi := by (first | lia | omega)
    subst this
    exact ⟨h1, h4, h5⟩
  | fuel + 1, lo, hi, h1, h2, h3, h4, h5 => by
    unfold SetTable.below.go
    by_cases hl : lo < hi
    · rw [if_pos hl]
      have hm : (lo + hi) / 2 < xs.size := by (first | lia | omega)
      have e : xs.getD ((lo + hi) / 2) j = xs[(lo + hi) / 2] := by simp [Array.getD, hm]
      dsimp only
      rw [e]
      by_cases hx : xs[(lo + hi) / 2] < j
      · rw [if_pos hx]
        refine below_go h j fuel _ _ h1 (by (first | lia | omega)) (by (first | lia | omega)) (fun i hi' hlt => ?_) h5
        exact Nat.lt_of_le_of_lt (h.le hi' hm (by (first | lia | omega))) hx
      · rw [if_neg hx]
        refine below_go h j fuel _ _ (by (first | lia | omega)) (by (first | lia | omega)) (by (first | lia | omega)) h4 fun i hi' hlt => ?_
        exact Nat.le_trans (Nat.le_of_not_lt hx) (h.le hm hi' hlt)
    · rw [if_neg hl]
      have : lo = hi := by (first | lia | omega)
      subst this
      exact ⟨h1, h4, h5⟩
theorem below_ok {xs : Array Nat} (h : Rise xs) (j : Nat) : SetTable.below xs j ≤ xs.size ∧ (∀ i (_ : i < xs.size), i < SetTable.below xs j → xs[i] < j) ∧ ∀ i (_ : i < xs.size), SetTable.below xs j ≤ i → j ≤ xs[i] :=
  below_go h j xs.size 0 xs.size (Nat.le_refl _) (Nat.zero_le _) (Nat.sub_le _ _) (fun i _ hi => absurd hi (Nat.not_lt_zero _)) fun i hi hj => absurd hi (by (first | lia | omega))
theorem below_next {xs : Array Nat} (h : Rise xs) {i : Nat} (hi : i < xs.size) : SetTable.below xs (xs[i] + 1) = i + 1 := by
  obtain ⟨h1, h2, h3⟩ := below_ok h (xs[i] + 1)
  rcases Nat.lt_trichotomy (SetTable.below xs (xs[i] + 1)) (i + 1) with q | q | q
  · have := h3 i hi (by (first | lia | omega))
    (first | lia | omega)
  · exact q
  · have hs : i + 1 < xs.size := by (first | lia | omega)
    have := h2 (i + 1) hs q
    have := h i (i + 1) hi hs (Nat.lt_succ_self _)
    (first | lia | omega)
theorem below_zero {xs : Array Nat} (h : Rise xs) : SetTable.below xs 0 = 0 := by
  obtain ⟨h1, h2, h3⟩ := below_ok h 0
  rcases Nat.eq_zero_or_pos (SetTable.below xs 0) with q | q
  · exact q
  · exact absurd (h2 0 (by (first | lia | omega)) q) (Nat.not_lt_zero _)
theorem get_insertAt {α : Type} (xs : Array α) (p : Nat) (x : α) (hp : p ≤ xs.size) (i : Nat) : (SetTable.insertAt xs p x)[i]? = if i < p then xs[i]? else if i = p then some x else xs[i - 1]? := by
  unfold SetTable.insertAt
  rw [← Array.getElem?_toList, Array.toList_append, Array.toList_push, Array.toList_extract, Array.toList_extract]
  have hp' : p ≤ xs.toList.length := by simpa using hp
  have e1 : (xs.toList.extract 0 p) = xs.toList.take p := by simp [List.extract]
  have e2 : (xs.toList.extract p xs.size) = xs.toList.drop p := by
    unfold List.extract
    exact List.take_of_length_le (by rw [List.length_drop, Array.length_toList]; exact Nat.le_refl _)
  have hl : (xs.toList.take p).length = p := by rw [List.length_take]; (first | lia | omega)
  rw [e1, e2]
  by_cases h : i < p
  · rw [if_pos h, List.append_assoc, List.getElem?_append_left (by (first | lia | omega)), List.getElem?_take_of_lt h, Array.getElem?_toList]
  · rw [if_neg h]
    by_cases h' : i = p
    · subst h'
      rw [if_pos rfl, List.append_assoc, List.getElem?_append_right (by (first | lia | omega)), hl, Nat.sub_self]; rfl
    · rw [if_neg h', List.getElem?_append_right (by rw [List.length_append, hl]; show p + 1 ≤ i; (first | lia | omega)), List.length_append, hl, List.getElem?_drop, ← Array.getElem?_toList]
      congr 1
      show p + (i - (p + 1)) = i - 1
      (first | lia | omega)
theorem size_insertAt {α : Type} (xs : Array α) (p : Nat) (x : α) (hp : p ≤ xs.size) : (SetTable.insertAt xs p x).size = xs.size + 1 := by
  unfold SetTable.insertAt
  rw [Array.size_append, Array.size_push, Array.size_extract, Array.size_extract]
  (first | lia | omega)
theorem Rise.of {xs : Array Nat} (h : ∀ (i j x y : Nat), xs[i]? = some x → xs[j]? = some y → i < j → x < y) : Rise xs := fun i j hi hj e => h i j _ _ (Array.getElem?_eq_getElem hi) (Array.getElem?_eq_getElem hj) e
theorem Rise.lt {xs : Array Nat} (h : Rise xs) {i j x y : Nat} (hx : xs[i]? = some x) (hy : xs[j]? = some y) (e : i < j) : x < y := by
  obtain ⟨hi, rfl⟩ := Array.getElem?_eq_some_iff.mp hx
  obtain ⟨hj, rfl⟩ := Array.getElem?_eq_some_iff.mp hy
  exact h i j hi hj e
theorem Rise.insert {xs : Array Nat} (h : Rise xs) {j : Nat} (hj : xs[SetTable.below xs j]? ≠ some j) : Rise (SetTable.insertAt xs (SetTable.below xs j) j) := by
  obtain ⟨h1, h2, h3⟩ := below_ok h j
  generalize SetTable.below xs j = p at *
  have g2 : ∀ i x, xs[i]? = some x → i < p → x < j := fun i x hx hi => by
    obtain ⟨hi', rfl⟩ := Array.getElem?_eq_some_iff.mp hx
    exact h2 i hi' hi
  have g3 : ∀ i x, xs[i]? = some x → p ≤ i → j < x := fun i x hx hi => by
    have hx0 := hx
    obtain ⟨hi', rfl⟩ := Array.getElem?_eq_some_iff.mp hx
    have h4 := h3 i hi' hi
    rcases Nat.lt_or_ge p i with q | q
    · have hp' : p < xs.size := by (first | lia | omega)
      have := h p i hp' hi' q
      have := h3 p hp' (Nat.le_refl _)
      (first | lia | omega)
    · have : i = p := by (first | lia | omega)
      subst this
      rcases Nat.lt_or_ge j xs[i] with q' | q'
      · exact q'
      · have : xs[i] = j := by (first | lia | omega)
        rw [this] at hx0
        exact absurd hx0 hj
  refine Rise.of fun a b x y hx hy hab => ?_
  rw [get_insertAt xs p j h1] at hx hy
  split at hx
  · rename_i ha
    split at hy
    · exact h.lt hx hy hab
    · split at hy
      · cases hy; exact g2 a x hx ha
      · exact Nat.lt_trans (g2 a x hx ha) (g3 (b - 1) y hy (by (first | lia | omega)))
  · split at hx
    · cases hx
      rw [if_neg (by (first | lia | omega)), if_neg (by (first | lia | omega))] at hy
      exact g3 (b - 1) y hy (by (first | lia | omega))
    · rw [if_neg (by (first | lia | omega)), if_neg (by (first | lia | omega))] at hy
      exact h.lt hx hy (by (first | lia | omega))
end Mini

end
section
set_option autoImplicit false
set_option linter.unusedVariables false
set_option linter.unusedSimpArgs false
set_option maxRecDepth 100000
namespace Mini
open PySem

noncomputable def lp : Nat → Nat → Nat
  | 0, i => i
  | k + 1, i => lp k ((i * 5 + 1) % 8)
theorem lp_all : ∀ i, i < 8 → ∀ j, j < 8 → ∃ k, k < 8 ∧ lp k i = j := by decide +kernel
theorem slot_of {t : SetTable} (hd : t.dummies = #[]) (j : Nat) : (t.slot j = .empty ∧ t.place[SetTable.below t.place j]? ≠ some j) ∨ (t.slot j = .live (SetTable.below t.place j) ∧ t.place[SetTable.below t.place j]? = some j) := by
  unfold SetTable.slot
  dsimp only
  by_cases h : t.place[SetTable.below t.place j]? = some j
  · right
    rw [h]; exact ⟨by simp, rfl⟩
  · left
    have h1 : (t.place[SetTable.below t.place j]? == some j) = false := by rw [beq_eq_false_iff_ne]; exact h
    have h2 : SetTable.has t.dummies j = false := by rw [hd]; rfl
    rw [h1, h2]; exact ⟨rfl, h⟩
theorem probe_free {t : SetTable} (h7 : t.mask = 7) (hd : t.dummies = #[]) (h : Int) : ∀ (k fuel i pt : Nat), i < 8 → pt < 32 → k < fuel → t.place[SetTable.below t.place (lp k i)]? ≠ some (lp k i) →
    ∃ j, t.place[SetTable.below t.place j]? ≠ some j ∧ SetTable.probe.go t (fun _ => h + 1) h fuel ⟨i, 0, i, pt, none⟩ = some (.empty j none)
  | k, 0, i, pt, hi, hp, hk, hn => absurd hk (Nat.not_lt_zero _)
  | k, fuel + 1, i, pt, hi, hp, hk, hn => by
    unfold SetTable.probe.go
    rcases slot_of hd i with ⟨e, ne⟩ | ⟨e, he⟩
    · dsimp only
      rw [e]
      exact ⟨i, ne, rfl⟩
    · dsimp only
      rw [e]
      dsimp only
      have hb : (h + 1 == h) = false := by rw [beq_eq_false_iff_ne]; (first | lia | omega)
      rw [hb]
      cases k with
      | zero => exact absurd he hn
      | succ k =>
        have e2 : t.advance ⟨i, 0, i, pt, none⟩ = ⟨(i * 5 + 1) % 8, 0, (i * 5 + 1) % 8, pt / 32, none⟩ := by
          unfold SetTable.advance SetTable.leap
          rw [h7]
          have e3 : pt / 32 = 0 := by (first | lia | omega)
          have e4 : SetTable.runEnd 7 ((i * 5 + 1) % (7 + 1)) = (i * 5 + 1) % (7 + 1) := by unfold SetTable.runEnd; rw [if_neg (by (first | lia | omega))]
          simp [e3, e4]
        rw [e2]
        exact probe_free h7 hd h k fuel _ _ (Nat.mod_lt _ (by decide)) (by (first | lia | omega)) (by (first | lia | omega)) hn
theorem nodup_sub {α : Type} [DecidableEq α] : ∀ {l L : List α}, l.Nodup → (∀ x ∈ l, x ∈ L) → l.length ≤ L.length
  | [], L, _, _ => Nat.zero_le _
  | x :: l, L, nd, h => by
    have hx := h x (.head _)
    have := nodup_sub (l := l) (L := L.erase x) (List.nodup_cons.mp nd).2 fun y hy => (List.mem_erase_of_ne (show y ≠ x from fun e => (List.nodup_cons.mp nd).1 (e ▸ hy))).mpr (h y (.tail _ hy))
    rw [List.length_erase_of_mem hx] at this
    have : 0 < L.length := List.length_pos_of_mem hx
    show l.length + 1 ≤ L.length
    (first | lia | omega)
theorem free_ex {t : SetTable} (hs : t.place.size ≤ 7) {i : Nat} (hi : i < 8) : ∃ k, k < 8 ∧ t.place[SetTable.below t.place (lp k i)]? ≠ some (lp k i) := by
  refine Classical.byContradiction fun hn => ?_
  have : (List.range 8).length ≤ t.place.toList.length := nodup_sub List.nodup_range fun j hj => by
    obtain ⟨k, hk, e⟩ := lp_all i hi j (List.mem_range.mp hj)
    have : t.place[SetTable.below t.place (lp k i)]? = some (lp k i) := Classical.byContradiction fun q => hn ⟨k, hk, q⟩
    rw [e, ← Array.getElem?_toList] at this
    exact List.mem_of_getElem? this
  rw [List.length_range, Array.length_toList] at this
  (first | lia | omega)
structure Tb (led : Bool) (t : SetTable) (n : Nat) : Prop where
  d : t.dummies = #[]
  p : t.plain = true
  l : t.led = led
  r : Rise t.place
  s : t.place.size = n
structure Small (led : Bool) (t : SetTable) (es : Array (Int × Value)) : Prop where
  b : Tb led t es.size
  m : (t.mask = 7 ∧ es.size ≤ 4) ∨ (t.mask = 31 ∧ es.size ≤ 16 ∧ t.place.toList = es.toList.map fun e => e.1.toNat)
theorem Tb.fill {led : Bool} {t : SetTable} {n : Nat} (h : Tb led t n) : t.fill = n := by unfold SetTable.fill; rw [h.s, h.d]; rfl
theorem Tb.fits {led : Bool} {t : SetTable} {n : Nat} (h : Tb led t n) (hn : n ≤ t.mask) : t.fits n = true := by
  unfold SetTable.fits
  rw [h.fill, h.s, Bool.and_eq_true, decide_eq_true_eq]
  exact ⟨by simp, hn⟩
theorem Small.fits {led : Bool} {t : SetTable} {es : Array (Int × Value)} (h : Small led t es) : t.fits es.size = true := h.b.fits (by rcases h.m with ⟨a, b⟩ | ⟨a, b, _⟩ <;> (first | lia | omega))
theorem Small.le {led : Bool} {t : SetTable} {es : Array (Int × Value)} (h : Small led t es) : es.size ≤ 16 := by rcases h.m with ⟨a, b⟩ | ⟨a, b, _⟩ <;> (first | lia | omega)
theorem Small.fresh (led : Bool) : Small led (.fresh 0 0 led) #[] := ⟨⟨rfl, rfl, rfl, (fun i j hi => absurd hi (Nat.not_lt_zero _)), rfl⟩, .inl ⟨rfl, Nat.zero_le _⟩⟩
theorem bits_small {k : Int} (k0 : 0 ≤ k) (k1 : k < 16) : SetTable.bits k = k.toNat := by
  unfold SetTable.bits
  rw [Int.emod_eq_of_lt k0 (Int.lt_trans k1 (by decide))]
theorem lay_of {led : Bool} {t : SetTable} {es : Array (Int × Value)} (h : Tb led t es.size) (hn : es.size + 1 ≤ t.mask) {k : Int} {j : Nat} (x : Value) (hf : t.freeSlot k = some (j, false)) (hj : t.place[SetTable.below t.place j]? ≠ some j) :
    ∃ p, p ≤ es.size ∧ layNew t es k x = (SetTable.insertAt es p (k, x), { t with place := SetTable.insertAt t.place p j }, false, false) ∧ Tb led { t with place := SetTable.insertAt t.place p j } (es.size + 1) := by
  obtain ⟨hp, _, _⟩ := below_ok h.r j
  rw [h.s] at hp
  have hdum : SetTable.has t.dummies j = false := by rw [h.d]; rfl
  have hput : t.put j = ({ t with place := SetTable.insertAt t.place (SetTable.below t.place j) j }, SetTable.below t.place j) := by
    unfold SetTable.put
    rw [hdum]; rfl
  have hS : Tb led { t with place := SetTable.insertAt t.place (SetTable.below t.place j) j } (es.size + 1) := ⟨h.d, h.p, h.l, h.r.insert hj, by rw [← h.s]; exact size_insertAt _ _ _ (by rw [h.s]; exact hp)⟩
  refine ⟨SetTable.below t.place j, hp, ?_, hS⟩
  unfold layNew
  rw [hf]
  dsimp only
  rw [hput]
  dsimp only
  rw [size_insertAt es _ _ hp]
  unfold SetTable.orStandIn
  rw [hS.fits hn]; rfl
theorem free7 {t : SetTable} (hm : t.mask = 7) (hd : t.dummies = #[]) (hn : t.place.size ≤ 7) {k : Int} (k0 : 0 ≤ k) (k1 : k < 16) : ∃ j, t.freeSlot k = some (j, false) ∧ t.place[SetTable.below t.place j]? ≠ some j := by
  have hs : t.probeStart k = ⟨k.toNat % 8, 0, k.toNat % 8, k.toNat, none⟩ := by
    unfold SetTable.probeStart
    rw [bits_small k0 k1, hm]
    have : SetTable.runEnd 7 (k.toNat % (7 + 1)) = k.toNat % (7 + 1) := by unfold SetTable.runEnd; rw [if_neg (by (first | lia | omega))]
    simp [this]
  obtain ⟨q, hq, hne⟩ := free_ex hn (Nat.mod_lt k.toNat (show 0 < 8 by decide))
  obtain ⟨j, hj, e⟩ := probe_free hm hd k q (10 * SetTable.turns t.mask) _ k.toNat (Nat.mod_lt k.toNat (show 0 < 8 by decide)) (by (first | lia | omega)) (by rw [hm]; show q < 220; (first | lia | omega)) hne
  refine ⟨j, ?_, hj⟩
  unfold SetTable.freeSlot SetTable.probe
  rw [hs, e]; rfl
theorem free31 {t : SetTable} (hm : t.mask = 31) (hd : t.dummies = #[]) {k : Int} (k0 : 0 ≤ k) (k1 : k < 16) (hk : k.toNat ∉ t.place.toList) : t.freeSlot k = some (k.toNat, false) ∧ t.place[SetTable.below t.place k.toNat]? ≠ some k.toNat := by
  have hne : t.place[SetTable.below t.place k.toNat]? ≠ some k.toNat := fun e => hk (by rw [← Array.getElem?_toList] at e; exact List.mem_of_getElem? e)
  refine ⟨?_, hne⟩
  have hsl : t.slot k.toNat = .empty := by
    rcases slot_of hd k.toNat with ⟨e, _⟩ | ⟨_, e⟩
    · exact e
    · exact absurd e hne
  unfold SetTable.freeSlot SetTable.probe SetTable.probeStart
  rw [bits_small k0 k1, hm, show k.toNat % (31 + 1) = k.toNat from Nat.mod_eq_of_lt (by (first | lia | omega))]
  show (match SetTable.probe.go t (fun _ => k + 1) k (459 + 1) _ with
    | some (.empty j dummy) => some (dummy.getD j, dummy.isSome)
    | _ => none) = _
  unfold SetTable.probe.go
  dsimp only
  rw [hsl]; rfl
end Mini

end
section
set_option autoImplicit false
set_option linter.unusedVariables false
set_option linter.unusedSimpArgs false
set_option maxRecDepth 100000
namespace Mini
open PySem

noncomputable def Own (ow : Array (Option Nat)) (hs : List Int) : Prop := ow.size = 32 ∧ (∀ (k : Nat) (h : Int), hs[k]? = some h → ow[h.toNat]? = some (some k)) ∧ ∀ (j k : Nat), ow[j]? = some (some k) → hs[k]? = some (j : Int)
theorem own_nil : Own (Array.replicate 32 none) [] := ⟨by simp, (fun k h e => by cases e), fun j k e => by
  rw [Array.getElem?_replicate] at e
  split at e
  · cases e
  · cases e⟩
theorem own_snoc {ow : Array (Option Nat)} {hs : List Int} {h : Int} (o : Own ow hs) (h0 : 0 ≤ h) (h1 : h < 16) (hn : h ∉ hs) : Own (ow.setIfInBounds h.toNat (some hs.length)) (hs ++ [h]) ∧ ow[h.toNat]? = some none := by
  obtain ⟨o1, o2, o3⟩ := o
  have hl : h.toNat < ow.size := by (first | lia | omega)
  have hnone : ow[h.toNat]? = some none := by
    rw [Array.getElem?_eq_getElem hl]
    cases q : ow[h.toNat] with
    | none => rfl
    | some k =>
      have := o3 h.toNat k (by rw [Array.getElem?_eq_getElem hl, q])
      rw [Int.toNat_of_nonneg h0] at this
      exact absurd (List.mem_of_getElem? this) hn
  refine ⟨⟨by rw [Array.size_setIfInBounds]; exact o1, fun k h' e => ?_, fun j k e => ?_⟩, hnone⟩
  · rcases Nat.lt_or_ge k hs.length with q | q
    · rw [List.getElem?_append_left q] at e
      have e2 := o2 k h' e
      rw [Array.getElem?_setIfInBounds_ne]
      · exact e2
      · intro c
        rw [← c, hnone] at e2; cases e2
    · have hk : k < (hs ++ [h]).length := (List.getElem?_eq_some_iff.mp e).1
      rw [List.length_append] at hk
      have : k = hs.length := by have : k < hs.length + 1 := hk; (first | lia | omega)
      subst this
      rw [List.getElem?_append_right (Nat.le_refl _), Nat.sub_self] at e
      have : h = h' := Option.some.inj e
      subst this
      rw [Array.getElem?_setIfInBounds_self_of_lt hl]
  · by_cases c : h.toNat = j
    · subst c
      rw [Array.getElem?_setIfInBounds_self_of_lt hl] at e
      have : hs.length = k := Option.some.inj (Option.some.inj e)
      subst this
      rw [List.getElem?_append_right (Nat.le_refl _), Nat.sub_self, Int.toNat_of_nonneg h0]; rfl
    · rw [Array.getElem?_setIfInBounds_ne c] at e
      have := o3 j k e
      rw [List.getElem?_append_left (List.getElem?_eq_some_iff.mp this).1]; exact this
theorem free_at {ow : Array (Option Nat)} {h : Int} (h0 : 0 ≤ h) (h1 : h < 16) (e : ow[h.toNat]? = some none) : SetTable.layClean.free 31 ow (SetTable.turns 31) (SetTable.bits h % (31 + 1)) (SetTable.bits h) = some h.toNat := by
  have hb : SetTable.bits h = h.toNat := by
    unfold SetTable.bits
    rw [Int.emod_eq_of_lt h0 (Int.lt_trans h1 (by decide))]
  rw [hb, Nat.mod_eq_of_lt (by (first | lia | omega))]
  show SetTable.layClean.free 31 ow (45 + 1) h.toNat h.toNat = _
  unfold SetTable.layClean.free
  have hr : SetTable.runEnd 31 h.toNat + 1 - h.toNat = 9 + 1 := by unfold SetTable.runEnd; rw [if_pos (by (first | lia | omega))]; (first | lia | omega)
  have hg : (ow.getD (h.toNat + 0) (some 0)).isNone = true := by
    obtain ⟨hl, e⟩ := Array.getElem?_eq_some_iff.mp e
    simp [Array.getD, hl, e]
  rw [hr, List.range_succ_eq_map, List.find?_cons_of_pos (p := fun k => (ow.getD (h.toNat + k) (some 0)).isNone) hg]
  rfl
theorem fold_own : ∀ (es hs : List Int) (ow : Array (Option Nat)), Own ow hs → (hs ++ es).Nodup → (∀ h ∈ es, 0 ≤ h ∧ h < 16) → ∃ ow', (es.foldl (fun (acc : Option (Array (Option Nat) × Nat)) h => do
    let (owner, k) ← acc
    let j ← SetTable.layClean.free 31 owner (SetTable.turns 31) (SetTable.bits h % (31 + 1)) (SetTable.bits h)
    pure (owner.setIfInBounds j (some k), k + 1)) (some (ow, hs.length))) = some (ow', (hs ++ es).length) ∧ Own ow' (hs ++ es)
  | [], hs, ow, o, nd, hr => ⟨ow, by rw [List.append_nil]; rfl, by rw [List.append_nil]; exact o⟩
  | h :: es, hs, ow, o, nd, hr => by
    have hh := hr h (.head _)
    have hn : h ∉ hs := fun m => (List.nodup_append.mp nd).2.2 h m h (.head _) rfl
    obtain ⟨o', e⟩ := own_snoc o hh.1 hh.2 hn
    have nd' : ((hs ++ [h]) ++ es).Nodup := by rw [List.append_assoc]; exact nd
    obtain ⟨ow', e1, e2⟩ := fold_own es (hs ++ [h]) _ o' nd' fun x hx => hr x (.tail _ hx)
    rw [List.append_assoc] at e1 e2
    refine ⟨ow', ?_, e2⟩
    rw [List.foldl_cons]
    show List.foldl _ ((SetTable.layClean.free 31 ow (SetTable.turns 31) (SetTable.bits h % (31 + 1)) (SetTable.bits h)).bind fun j => some (ow.setIfInBounds j (some hs.length), hs.length + 1)) es = _
    rw [free_at hh.1 hh.2 e]
    rw [List.length_append] at e1
    exact e1
theorem layClean31 {hs : Array Int} (nd : hs.toList.Nodup) (hr : ∀ h ∈ hs.toList, 0 ≤ h ∧ h < 16) : ∃ ow, SetTable.layClean 31 hs = some ow ∧ Own ow hs.toList := by
  obtain ⟨ow, e1, e2⟩ := fold_own hs.toList [] _ own_nil nd hr
  refine ⟨ow, ?_, e2⟩
  unfold SetTable.layClean
  rw [← Array.foldl_toList]
  exact congrArg (Option.map (·.1)) e1
noncomputable def liveOf (ow : Array (Option Nat)) : List (Nat × Nat) := (List.range (31 + 1)).filterMap fun j => (ow.getD j none).map (j, ·)
theorem live_mem {ow : Array (Option Nat)} {hs : List Int} (o : Own ow hs) {p : Nat × Nat} : p ∈ liveOf ow ↔ hs[p.2]? = some (p.1 : Int) := by
  unfold liveOf
  rw [List.mem_filterMap]
  constructor
  · rintro ⟨j, hj, e⟩
    obtain ⟨k, e1, rfl⟩ := Option.map_eq_some_iff.mp e
    have hj : j < ow.size := by rw [o.1]; exact List.mem_range.mp hj
    refine o.2.2 j k ?_
    rw [Array.getElem?_eq_getElem hj]
    have : ow.getD j none = ow[j] := by simp [Array.getD, hj]
    rw [← this, e1]
  · intro e
    have e2 := o.2.1 p.2 _ e
    rw [Int.toNat_natCast] at e2
    obtain ⟨hj, e3⟩ := Array.getElem?_eq_some_iff.mp e2
    refine ⟨p.1, by rw [List.mem_range]; have := o.1; (first | lia | omega), ?_⟩
    have : ow.getD p.1 none = ow[p.1] := by simp [Array.getD, hj]
    rw [this, e3]; rfl
theorem live_rise {ow : Array (Option Nat)} : (liveOf ow).Pairwise fun a b => a.1 < b.1 := by
  unfold liveOf
  refine List.Pairwise.filterMap _ (fun a a' h b hb b' hb' => ?_) List.pairwise_lt_range
  obtain ⟨_, _, rfl⟩ := Option.map_eq_some_iff.mp hb
  obtain ⟨_, _, rfl⟩ := Option.map_eq_some_iff.mp hb'
  exact h
theorem live_perm {ow : Array (Option Nat)} {hs : List Int} (o : Own ow hs) (hr : ∀ h ∈ hs, 0 ≤ h ∧ h < 16) : ((liveOf ow).map (·.2)).Perm (List.range hs.length) := by
  refine (List.perm_ext_iff_of_nodup ?_ List.nodup_range).mpr fun k => ?_
  · rw [List.Nodup, List.pairwise_map]
    refine List.Pairwise.imp_of_mem (fun {a b} ha hb hlt e => ?_) live_rise
    have h1 := (live_mem o).mp ha
    have h2 := (live_mem o).mp hb
    rw [e, h2] at h1
    have := Option.some.inj h1
    (first | lia | omega)
  · rw [List.mem_map, List.mem_range]
    constructor
    · rintro ⟨p, hp, rfl⟩
      exact (List.getElem?_eq_some_iff.mp ((live_mem o).mp hp)).1
    · intro hk
      have hh := hr _ (List.getElem_mem hk)
      exact ⟨(hs[k].toNat, k), (live_mem o).mpr (by rw [List.getElem?_eq_getElem hk, Int.toNat_of_nonneg hh.1]), rfl⟩
theorem fm_map {es : Array (Int × Value)} : ∀ L : List (Nat × Nat), (∀ p ∈ L, ∃ e, es[p.2]? = some e ∧ e.1.toNat = p.1) → ((L.map (·.2)).filterMap (es[·]?)).map (fun e => e.1.toNat) = L.map (·.1)
  | [], _ => rfl
  | p :: L, h => by
    obtain ⟨e, h1, h2⟩ := h p (.head _)
    rw [List.map_cons, List.filterMap_cons_some h1, List.map_cons, List.map_cons, h2, fm_map L fun q hq => h q (.tail _ hq)]
theorem relay5 {led : Bool} {t : SetTable} {es : Array (Int × Value)} (h : Tb led t es.size) (h5 : es.size = 5) (nd : (es.toList.map (·.1)).Nodup) (hr : ∀ e ∈ es.toList, 0 ≤ e.1 ∧ e.1 < 16) :
    ∃ es' t', relayAll t es (SetTable.grown es.size) = (es', t', false) ∧ Small led t' es' := by
  have hml : (es.map (·.1)).toList = es.toList.map (·.1) := Array.toList_map
  obtain ⟨ow, e1, o⟩ := layClean31 (hs := es.map (·.1)) (by rw [hml]; exact nd) (fun x hx => by
    rw [hml] at hx
    obtain ⟨e, he, rfl⟩ := List.mem_map.mp hx
    exact hr e he)
  rw [hml] at o
  have hr' : ∀ x ∈ es.toList.map (·.1), 0 ≤ x ∧ x < 16 := fun x hx => by
    obtain ⟨e, he, rfl⟩ := List.mem_map.mp hx
    exact hr e he
  have hp := live_perm o hr'
  rw [List.length_map, Array.length_toList] at hp
  have hll : (liveOf ow).length = es.size := by have := hp.length_eq; rwa [List.length_map, List.length_range] at this
  have hrel : t.relaid (es.map (·.1)) (SetTable.grown es.size) = some ({ mask := 31, place := ((liveOf ow).map (·.1)).toArray, dummies := #[], finger := t.finger, led := t.led, moves := t.movedTo 31, plain := t.plain }, ((liveOf ow).map (·.2)).toArray) := by
    unfold SetTable.relaid
    rw [h5]
    show SetTable.laid 31 t.finger (t.movedTo 31) t.led t.plain _ = _
    unfold SetTable.laid
    rw [e1]; rfl
  have hpm := relayAll_perm t es (SetTable.grown es.size)
  unfold relayAll at hpm ⊢
  rw [hrel] at hpm ⊢
  dsimp only at hpm ⊢
  have hcov : coversAll ((liveOf ow).map (·.2)).toArray es.size = true := List.isPerm_iff.mpr hp
  have hfm : (((liveOf ow).map (·.2)).toArray.filterMap (es[·]?)).toList.map (fun e => e.1.toNat) = (liveOf ow).map (·.1) := by
    rw [Array.toList_filterMap]
    refine fm_map _ fun p hp' => ?_
    have := (live_mem o).mp hp'
    rw [List.getElem?_map] at this
    obtain ⟨e, e2, e3⟩ := Option.map_eq_some_iff.mp this
    refine ⟨e, by rw [← Array.getElem?_toList]; exact e2, ?_⟩
    rw [e3, Int.toNat_natCast]
  have hsz : (((liveOf ow).map (·.2)).toArray.filterMap (es[·]?)).size = es.size := by
    have := congrArg List.length hfm
    rw [List.length_map, List.length_map, Array.length_toList] at this
    (first | lia | omega)
  have hT : Tb led { mask := 31, place := ((liveOf ow).map (·.1)).toArray, dummies := #[], finger := t.finger, led := t.led, moves := t.movedTo 31, plain := t.plain } es.size := ⟨rfl, h.p, h.l, fun i j hi hj hij => by
    have hi' : i < (liveOf ow).length := by simpa using hi
    have hj' : j < (liveOf ow).length := by simpa using hj
    have := List.pairwise_iff_getElem.mp live_rise i j hi' hj' hij
    simpa using this, by rw [List.size_toArray, List.length_map, hll]⟩
  rw [hcov, hsz, hT.fits (by show es.size ≤ 31; (first | lia | omega))]
  refine ⟨_, _, rfl, ?_, .inr ⟨rfl, by rw [hsz]; (first | lia | omega), ?_⟩⟩
  · rw [hsz]; exact hT
  · exact hfm.symm
theorem insertAt_list {α : Type} (xs : Array α) (p : Nat) (x : α) (hp : p ≤ xs.size) : (SetTable.insertAt xs p x).toList = xs.toList.take p ++ x :: xs.toList.drop p := by
  apply List.ext_getElem?
  intro i
  rw [Array.getElem?_toList, get_insertAt xs p _ hp]
  have hlt : (xs.toList.take p).length = p := by rw [List.length_take, Array.length_toList]; (first | lia | omega)
  by_cases h1 : i < p
  · rw [if_pos h1, List.getElem?_append_left (by (first | lia | omega)), List.getElem?_take_of_lt h1, Array.getElem?_toList]
  · rw [if_neg h1, List.getElem?_append_right (by (first | lia | omega)), hlt]
    by_cases h2 : i = p
    · subst h2; rw [if_pos rfl, Nat.sub_self]; rfl
    · rw [if_neg h2, show i - p = (i - p - 1) + 1 by (first | lia | omega), List.getElem?_cons_succ, List.getElem?_drop, Array.getElem?_toList]
      congr 1; (first | lia | omega)
theorem insertAt_perm {α : Type} (xs : Array α) (p : Nat) (x : α) (hp : p ≤ xs.size) : (SetTable.insertAt xs p x).toList.Perm (x :: xs.toList) := by
  rw [insertAt_list xs p x hp]
  exact List.perm_middle.trans (List.Perm.cons _ (by rw [List.take_append_drop]))
theorem Small.lay {led : Bool} {t : SetTable} {es : Array (Int × Value)} (h : Small led t es) (nd : (es.toList.map (·.1)).Nodup) (hr : ∀ e ∈ es.toList, 0 ≤ e.1 ∧ e.1 < 16) {k : Int} (k0 : 0 ≤ k) (k1 : k < 16) (hk : k ∉ es.toList.map (·.1)) (x : Value) :
    ∃ p t', p ≤ es.size ∧ layNew t es k x = (SetTable.insertAt es p (k, x), t', false, false) ∧ t'.plain = true ∧ ((t'.tooFull = false ∧ Small led t' (SetTable.insertAt es p (k, x))) ∨ (t'.tooFull = true ∧ ∃ es2 t2, relayAll t' (SetTable.insertAt es p (k, x)) (SetTable.grown (SetTable.insertAt es p (k, x)).size) = (es2, t2, false) ∧ Small led t2 es2)) := by
  rcases h.m with ⟨hm, hn⟩ | ⟨hm, hn, hpl⟩
  · obtain ⟨j, hf, hj⟩ := free7 hm h.b.d (by rw [h.b.s]; (first | lia | omega)) k0 k1
    obtain ⟨p, hp, hlay, hT⟩ := lay_of h.b (by rw [hm]; (first | lia | omega)) x hf hj
    have hsz := size_insertAt es p (k, x) hp
    refine ⟨p, _, hp, hlay, hT.p, ?_⟩
    have hfl := hT.fill
    rcases Nat.lt_or_ge es.size 4 with q | q
    · left
      refine ⟨?_, by rw [hsz]; exact hT, .inl ⟨hm, by rw [hsz]; exact q⟩⟩
      unfold SetTable.tooFull
      rw [hfl]
      show decide ((es.size + 1) * 5 ≥ t.mask * 3) = false
      rw [hm, decide_eq_false_iff_not]; (first | lia | omega)
    · right
      refine ⟨?_, relay5 (by rw [hsz]; exact hT) (by rw [hsz]; (first | lia | omega)) ?_ fun e he => ?_⟩
      · unfold SetTable.tooFull
        rw [hfl]
        show decide ((es.size + 1) * 5 ≥ t.mask * 3) = true
        rw [hm, decide_eq_true_eq]; (first | lia | omega)
      · exact (((insertAt_perm es p (k, x) hp).map (·.1)).nodup_iff).mpr (List.nodup_cons.mpr ⟨hk, nd⟩)
      · rcases List.mem_cons.mp ((insertAt_perm es p (k, x) hp).mem_iff.mp he) with rfl | he
        · exact ⟨k0, k1⟩
        · exact hr e he
  · have hk' : k.toNat ∉ t.place.toList := fun m => by
      rw [hpl] at m
      obtain ⟨e, he, e1⟩ := List.mem_map.mp m
      have h1 := hr e he
      exact hk (List.mem_map.mpr ⟨e, he, by show e.1 = k; (first | lia | omega)⟩)
    have h16 : es.size + 1 ≤ 16 := by
      have := nodup_sub (l := k :: es.toList.map (·.1)) (L := (List.range 16).map fun (i : Nat) => (i : Int)) (List.nodup_cons.mpr ⟨hk, nd⟩) fun y hy => by
        have hy' : 0 ≤ y ∧ y < 16 := by
          rcases List.mem_cons.mp hy with rfl | hy
          · exact ⟨k0, k1⟩
          · obtain ⟨e, he, rfl⟩ := List.mem_map.mp hy
            exact hr e he
        exact List.mem_map.mpr ⟨y.toNat, List.mem_range.mpr (by (first | lia | omega)), by show ((y.toNat : Nat) : Int) = y; (first | lia | omega)⟩
      rwa [List.length_cons, List.length_map, List.length_map, List.length_range, Array.length_toList] at this
    obtain ⟨hf, hj⟩ := free31 hm h.b.d k0 k1 hk'
    obtain ⟨p, hp, hlay, hT⟩ := lay_of h.b (by rw [hm]; (first | lia | omega)) x hf hj
    have hsz := size_insertAt es p (k, x) hp
    refine ⟨p, _, hp, hlay, hT.p, .inl ⟨?_, by rw [hsz]; exact hT, .inr ⟨hm, by rw [hsz]; exact h16, ?_⟩⟩⟩
    · unfold SetTable.tooFull
      rw [hT.fill]
      show decide ((es.size + 1) * 5 ≥ t.mask * 3) = false
      rw [hm, decide_eq_false_iff_not]; (first | lia | omega)
    · show (SetTable.insertAt t.place p k.toNat).toList = _
      rw [insertAt_list es p (k, x) hp, insertAt_list t.place p k.toNat (by rw [h.b.s]; exact hp), hpl, List.map_append, List.map_cons, List.map_take, List.map_drop]
end Mini

end
section
set_option autoImplicit false
set_option linter.unusedVariables false
set_option linter.unusedSimpArgs false
set_option maxRecDepth 100000
namespace Mini
open PySem PyProof.Rows

theorem hash_small {k : Int} (k0 : 0 ≤ k) (k1 : k < 16) : hashInt k = k := by
  obtain ⟨n, rfl⟩ : ∃ n : Nat, k = n := ⟨k.toNat, by (first | lia | omega)⟩
  have : n < 16 := by (first | lia | omega)
  have h : ∀ m : Nat, m < 16 → hashInt (m : Int) = m := by decide +kernel
  exact h n this
noncomputable def SetS (led : Bool) (h : Heap) (a : Addr) (es : Array (Int × Value)) (ep : Nat) (t : SetTable) : Prop := h.get? a = some { cls := .type "set", dict := none, data := .set es ep t, slots := #[] } ∧ Small led t es ∧ (∀ e ∈ es.toList, (∃ u, e.2 = .int e.1 u) ∧ 0 ≤ e.1 ∧ e.1 < 16) ∧ (es.toList.map (·.1)).Nodup
section
variable {prog : Program} {w : World} {A : Around} {E : Value → Shared → Prop} {s : Shared} {led : Bool} {a : Addr} {es : Array (Int × Value)} {ep : Nat} {t : SetTable}
theorem SetS.elems {h : Heap} (x : SetS led h a es ep t) : ElemsOf (intKind prog w) es.toList := fun e he => by
  obtain ⟨⟨u, hu⟩, h0, h1⟩ := x.2.2.1 e he
  refine ⟨⟨e.1, by rw [hu]; exact intKind_is _ _ _ _, (hash_small h0 h1).symm⟩, by rw [hu]; rfl⟩
theorem SetS.find {h : Heap} (x : SetS led h a es ep t) (k : Int) : (es.toList.findIdx? fun e => (intKind prog w).is k e.2) = none ∧ k ∉ es.toList.map (·.1) ∨ (∃ j, (es.toList.findIdx? fun e => (intKind prog w).is k e.2) = some j) ∧ k ∈ es.toList.map (·.1) := by
  cases hr : es.toList.findIdx? fun e => (intKind prog w).is k e.2 with
  | none =>
    refine .inl ⟨rfl, fun hm => ?_⟩
    obtain ⟨e, he, rfl⟩ := List.mem_map.mp hm
    obtain ⟨⟨u, hu⟩, _⟩ := x.2.2.1 e he
    have := List.findIdx?_eq_none_iff.mp hr e he
    rw [hu, intKind_is] at this
    cases this
  | some j =>
    refine .inr ⟨⟨j, rfl⟩, ?_⟩
    obtain ⟨hj, hpj, _⟩ := List.findIdx?_eq_some_iff_getElem.mp hr
    obtain ⟨⟨u, hu⟩, _⟩ := x.2.2.1 _ (List.getElem_mem hj)
    rw [hu] at hpj
    have := (intKind prog w).inj _ _ _ hpj (intKind_is (prog := prog) (w := w) _ _)
    exact List.mem_map.mpr ⟨_, List.getElem_mem hj, this.symm⟩
theorem set_add {k : Int} {u : Tok} {Q : Bool → Shared → Prop} (x : SetS led s.heap a es ep t) (k0 : 0 ≤ k) (k1 : k < 16)
    (h : ∀ (b : Bool) (h' : Heap) (es' : Array (Int × Value)) (ep' : Nat) (t' : SetTable), Heap.SameBut a s.heap h' → SetS led h' a es' ep' t' → (∀ i, i ∈ es'.toList.map (·.1) ↔ i ∈ es.toList.map (·.1) ∨ i = k) → Q b { s with heap := h' }) :
    wpAny (model prog w) A (setAddHashed a (.int k u) k) Q E s := by
  have hel : ElemsOf (intKind prog w) es.toList := x.elems
  obtain ⟨ho, hS, hE, hN⟩ := id x
  have hf := hS.fits
  have hn16 := hS.le
  have hsb : es.size < scanBound := by unfold scanBound; (first | lia | omega)
  have hh : (intKind prog w).hash k = k := hash_small k0 k1
  unfold setAddHashed setAddHashedIn
  refine wpAny_holding (wpAny_bind (wpAny_setState_of ho rfl hf ?_))
  dsimp only
  rw [byScan_of (knd := intKind prog w) (x := .int k u) rfl hsb hel]
  simp only [↓reduceIte]
  unfold setAddByScan
  refine wpAny_bind ?_
  refine wpAny_bind (wpAny_rule ?_)
  have hsc := wpAny_setScan_of (A := A) (E := E) (adding := true) (knd := intKind prog w) (x := .int k u) (intKind_is _ _ k u) ho rfl hf hel (Q := fun m s' => s' = s ∧ (m = .absent ∧ k ∉ es.toList.map (·.1) ∨ (∃ j, m = .found j) ∧ k ∈ es.toList.map (·.1))) (by
    rcases x.find (prog := prog) (w := w) k with ⟨e, m⟩ | ⟨⟨j, e⟩, m⟩
    · rw [e]; exact ⟨rfl, .inl ⟨rfl, m⟩⟩
    · rw [e]; exact ⟨rfl, .inr ⟨⟨_, rfl⟩, m⟩⟩)
  rw [hh] at hsc
  refine wpAny_bind (wpAny_mono hsc (fun m s' hm => ?_) fun _ _ z => z)
  obtain ⟨rfl, ⟨rfl, hk⟩ | ⟨⟨j, rfl⟩, hk⟩⟩ := hm
  · obtain ⟨p, t', hp, hlay, hpl, hcase⟩ := hS.lay hN (fun e he => (hE e he).2) k0 k1 hk (.int k u)
    have hperm := insertAt_perm es p (k, Value.int k u) hp
    have hsz := size_insertAt es p (k, Value.int k u) hp
    rw [hlay]
    dsimp only
    refine wpAny_bind (wpAny_pure ?_)
    rw [hpl]
    refine wpAny_bind (wpAny_pure ?_)
    rw [if_pos rfl]
    generalize SetTable.insertAt es p (k, Value.int k u) = es1 at hperm hsz hcase
    have hE1 : ∀ e ∈ es1.toList, (∃ u, e.2 = .int e.1 u) ∧ 0 ≤ e.1 ∧ e.1 < 16 := fun e he => by
      rcases List.mem_cons.mp (hperm.mem_iff.mp he) with rfl | he
      · exact ⟨⟨u, rfl⟩, k0, k1⟩
      · exact hE e he
    have hN1 : (es1.toList.map (·.1)).Nodup := ((hperm.map (·.1)).nodup_iff).mpr (List.nodup_cons.mpr ⟨hk, hN⟩)
    have hm1 : ∀ i, i ∈ es1.toList.map (·.1) ↔ i ∈ es.toList.map (·.1) ∨ i = k := fun i => by
      rw [(hperm.map (·.1)).mem_iff, List.map_cons, List.mem_cons]
      exact Or.comm
    have hz : es1.size ≤ sizeLine := by rw [hsz, sizeLine_eq]; (first | lia | omega)
    refine wpAny_bind (wpAny_storeSet_of ho rfl ?_ hz)
    have ho1 := Heap.get?_update_self (Obj.putSet es1 t') ho (by rfl)
    rcases hcase with ⟨hfull, hS1⟩ | ⟨hfull, es2, t2, hrel, hS2⟩
    · rw [hfull]
      simp only [Bool.not_false, Bool.and_false, Bool.false_eq_true, if_false]
      refine wpAny_pure ?_
      refine wpAny_pure ?_
      exact h true _ es1 (ep + 1) t' (Heap.SameBut.update _ a _) ⟨ho1, hS1, hE1, hN1⟩ hm1
    · rw [hfull]
      simp only [Bool.not_false, Bool.and_self, if_true]
      have hp2 := relayAll_perm t' es1 (SetTable.grown es1.size)
      rw [hrel] at hp2 ⊢
      dsimp only at hp2 ⊢
      refine wpAny_bind (wpAny_pure ?_)
      have hz2 : es2.size ≤ sizeLine := by have := hS2.le; rw [sizeLine_eq]; (first | lia | omega)
      refine wpAny_bind (wpAny_storeSet_of ho1 rfl ?_ hz2)
      refine wpAny_pure ?_
      refine wpAny_pure ?_
      refine h true _ es2 (ep + 1 + 1) t2 ((Heap.SameBut.update _ a _).trans (Heap.SameBut.update _ a _)) ⟨?_, hS2, fun e he => hE1 e (hp2.mem_iff.mp he), ((hp2.map (·.1)).nodup_iff).mpr hN1⟩ fun i => ?_
      · exact Heap.get?_update_self (Obj.putSet es2 t2) ho1 (by rfl)
      · rw [(hp2.map (·.1)).mem_iff, hm1]
  · dsimp only
    refine wpAny_pure (wpAny_pure ?_)
    have := h false s'.heap es ep t (Heap.SameBut.refl a _) x fun i => ⟨.inl, fun q => q.elim id fun e => e ▸ hk⟩
    exact this
end
end Mini

end
section
set_option autoImplicit false
set_option linter.unusedVariables false
set_option linter.unusedSimpArgs false
set_option maxRecDepth 100000
namespace Mini
open PySem PyProof.Rows PySem.Spec

noncomputable def ledOf (w : World) : Bool := !w.params.followText "set-order"
section
variable {prog : Program} {w : World} {A : Around} {R : Result → Shared → Prop} {I : Addr} {fp wr : List Addr} {G : Array GenState → Array GenState → Prop} {n : Nat} {P : Nat → Value → Prop} {St : Nat → Shared → Prop} {led : Bool}
theorem set_loop (W : WalksS prog w A.in1 I fp wr G n P St) (S : Addr) (hSf : S ∉ fp) (val : Nat → Int) (hval : ∀ i v, P i v → ∃ t, v = .int (val i) t) (hv : ∀ i, i < n → 0 ≤ val i ∧ val i < 16) :
    ∀ (k i : Nat) (s : Shared) (es : Array (Int × Value)) (ep : Nat) (t : SetTable), n - i = k → i ≤ n → St i s → SetS led s.heap S es ep t → (∀ x, x ∈ es.toList.map (·.1) ↔ ∃ j, j < i ∧ x = val j) →
      (∀ s' es' ep' t', Moved (S :: wr) G s s' → SetS led s'.heap S es' ep' t' → (∀ x, x ∈ es'.toList.map (·.1) ↔ ∃ j, j < n ∧ x = val j) → R (.ok (.ret .none)) s') →
      codeAny (model prog w) A (.builtin "set.update.loop" ⟨[.ref S, .ref I], []⟩) R s := by
  have hSw : S ∉ wr := fun h => hSf (W.sub _ h)
  have hsub : ∀ b ∈ wr, b ∈ S :: wr := fun b hb => List.mem_cons_of_mem _ hb
  intro k
  induction k with
  | zero =>
    intro i s es ep t hk hi hst hS hm hR
    have hin : i = n := by (first | lia | omega)
    subst hin
    refine codeAny_builtin F.entry_set_update_loop ?_
    rw [Around.under_plainId F.plain_set_update_loop _]
    show wpAny _ A.in1 (pyNext (.ref I) >>= _) _ _ s
    refine wpAny_bind (W.done s _ _ hst fun s' hmv => ?_)
    show wpAny _ A.in1 (ret Value.none) _ _ s'
    exact wpAny_pure (hR s' es ep t (hmv.mono hsub) ⟨hmv.heap S _ hSw hS.1, hS.2⟩ hm)
  | succ k ih =>
    intro i s es ep t hk hi hst hS hm hR
    have hlt : i < n := by (first | lia | omega)
    refine codeAny_builtin F.entry_set_update_loop ?_
    rw [Around.under_plainId F.plain_set_update_loop _]
    show wpAny _ A.in1 (pyNext (.ref I) >>= _) _ _ s
    refine wpAny_bind (W.item i s _ _ hlt hst fun v s' hP hst' hmv => ?_)
    obtain ⟨u, rfl⟩ := hval i v hP
    have hS' : SetS led s'.heap S es ep t := ⟨hmv.heap S _ hSw hS.1, hS.2⟩
    obtain ⟨v0, v1⟩ := hv i hlt
    show wpAny _ A.in1 (holding [Value.int (val i) u] (setAdd S (.int (val i) u)) >>= _) _ _ s'
    refine wpAny_bind (wpAny_holding ?_)
    unfold setAdd
    refine wpAny_holding ?_
    refine wpAny_bind ((intKind prog w).pyHash (k := val i) (intKind_is _ _ _ _) ?_)
    have hh : (intKind prog w).hash (val i) = val i := hash_small v0 v1
    rw [hh]
    refine set_add (s := { s' with toks := s'.toks + 1 }) hS' v0 v1 fun b h' es' ep' t' hsb hS2 hm2 => ?_
    refine wpAny_pure ⟨plainId_quiet F.plain_set_update_loop _, ih (i + 1) _ es' ep' t' (by (first | lia | omega)) hlt (W.frame _ s' _ _ hst' (Nat.le_succ _) fun b hb o e => ?_) hS2 (fun x => ?_) fun s'' es'' ep'' t'' hm'' hS'' hmm => ?_⟩
    · rw [hsb.2 b (fun h : b = S => hSf (by rw [← h]; exact hb))]; exact e
    · rw [hm2, hm]
      constructor
      · rintro (⟨j, hj, e⟩ | e)
        · exact ⟨j, Nat.lt_succ_of_lt hj, e⟩
        · exact ⟨i, Nat.lt_succ_self _, e⟩
      · rintro ⟨j, hj, e⟩
        rcases Nat.lt_or_ge j i with q | q
        · exact .inl ⟨j, q, e⟩
        · have : j = i := by (first | lia | omega)
          subst this; exact .inr e
    · refine hR s'' es'' ep'' t'' (Moved.trans W.gtrans ((hmv.mono hsub).then_heap (Nat.le_succ _) fun b o hb e => ?_) hm'') hS'' hmm
      rw [hsb.2 b (fun h : b = S => hb (by rw [h]; exact List.mem_cons_self))]; exact e
end
section
variable {prog : Program} {w : World} {A : Around} {E : Value → Shared → Prop} {s : Shared}
theorem set_new_led (a : Value) {Q₁ : Value → Shared → Prop} (h : Q₁ (.ref s.heap.objs.size) { s with heap := s.heap.push { cls := .type "set", dict := none, data := .set #[] 0 (.fresh 0 0 (ledOf w)) } }) :
    codeAny (model prog w) A (.call (.builtin "set.__new__") ⟨[.type "set", a], []⟩) (wants Q₁ E) s := by
  refine codeAny_of_tree ?_
  show wpAny _ A.in1 (do checkBuiltinCall "set.__new__" ⟨[.type "set", a], []⟩; again (.builtin "set.__new__" ⟨[.type "set", a], []⟩)) _ _ s
  refine wpAny_bind (wpAny_of_eq (PySem.F.newCall_set_1 a) (wpAny_pure ⟨plainId_quiet PySem.F.plain_set_new _, codeAny_builtin PySem.F.entry_set_new ?_⟩))
  rw [Around.under_plainId PySem.F.plain_set_new _]
  unfold Builtin.«set.__new__» Builtin.Frozenset.newClass
  have hsub := PySem.sub_set_self
  obtain ⟨hp, g, d, tk, os⟩ := s
  dsimp only
  wp_walk
  refine wpAny_askSetting (wpAny_pure ?_)
  dsimp only
  simp only [newObj]
  refine wpAny_bind (wpAny_alloc (wpAny_pure ?_))
  exact wpAny_pure h
set_option maxHeartbeats 3200000 in
theorem call_set_small {l : Addr} {items : Array Value} {ns : List Int} {Q : Value → Shared → Prop} (hh : A.handled = none) (hl : s.heap.IsList l items) (hi : IntsAre items.toList ns) (hv : ∀ x ∈ ns, 0 ≤ x ∧ x < 16)
    (h : ∀ (h' : Heap) (tk : Nat) (es : Array (Int × Value)) (ep : Nat) (t : SetTable), SetS (ledOf w) h' s.heap.objs.size es ep t → (∀ x, x ∈ es.toList.map (·.1) ↔ x ∈ ns) → (∀ b o, s.heap.get? b = some o → h'.get? b = some o) → Q (.ref s.heap.objs.size) { s with heap := h', toks := tk }) :
    wpAny (model prog w) A (call (.type "set") [.ref l]) Q E s := by
  have hil : items.size = ns.length := by rw [← Array.length_toList]; exact hi.length
  obtain ⟨c, tl, hmro⟩ := PySem.F.called_set.mro
  have hmade := PySem.F.called_set.made
  have hsub := PySem.F.called_set.sub
  refine wpAny_call (codeAny_of_tree ?_)
  show wpAny _ _ (callAny (.type "set") _) _ _ _
  refine wpAny_pure ⟨Code.quiet_builtin _ (by decide +kernel), codeAny_builtin PySem.F.entry_type_call ?_⟩
  rw [Around.under_plain (weight_type_call_type "set" [.ref l] []) rfl]
  have h1 := PySem.F.called_set.notType
  have h2 := PySem.F.called_set.canCreate
  have hct := PySem.F.typeCall_set_1 (.ref l)
  repeat (any_goals (first | assumption | wp_step))
  refine codeAny_mono (set_new_led (.ref l) (E := E) (Q₁ := fun obj s₁ => obj = .ref s.heap.objs.size ∧ s₁ = { s with heap := s.heap.push { cls := .type "set", dict := none, data := .set #[] 0 (.fresh 0 0 (ledOf w)) } }) ⟨rfl, rfl⟩) fun r s₁ hr => ?_
  cases r with
  | error e => exact hr
  | ok fl =>
    cases fl with
    | ret obj =>
      obtain ⟨rfl, rfl⟩ := hr
      have hS : (s.heap.push { cls := .type "set", dict := none, data := .set #[] 0 (.fresh 0 0 (ledOf w)) }).get? s.heap.objs.size = some { cls := .type "set", dict := none, data := .set #[] 0 (.fresh 0 0 (ledOf w)) } := Heap.get?_push_size _ rfl
      have hT : Shared.TypeIs { s with heap := s.heap.push { cls := .type "set", dict := none, data := .set #[] 0 (.fresh 0 0 (ledOf w)) } } (.ref s.heap.objs.size) "set" := ⟨_, hS, rfl⟩
      have hli := PySem.F.called_set.init.lookup
      have hbi := PySem.F.called_set.init.bind (.ref s.heap.objs.size)
      repeat (any_goals (first | assumption | wp_step))
      refine codeAny_mono (codeAny_call_builtin (R := wants (fun r s₂ => r = .none ∧ ∃ h' tk es ep t, s₂ = { s with heap := h', toks := tk } ∧ SetS (ledOf w) h' s.heap.objs.size es ep t ∧ (∀ x, x ∈ es.toList.map (·.1) ↔ x ∈ ns) ∧ (∀ b o, s.heap.get? b = some o → h'.get? b = some o)) E) PySem.F.called_set.init.plain PySem.F.entry_set_init (check_set_init_1 hT ?_)) fun r₂ s₂ hr₂ => ?_
      · obtain ⟨ol, hol, hcl, nl, hdl⟩ := hl
        obtain ⟨ocls, odict, odata, oslots⟩ := ol
        simp only at hcl hdl
        subst hcl; subst hdl
        have hol' : (s.heap.push { cls := .type "set", dict := none, data := .set #[] 0 (.fresh 0 0 (ledOf w)) }).get? l = some { cls := .type "list", dict := odict, data := .seq items nl, slots := oslots } := Heap.get?_push_of_some _ hol
        have hsls := PySem.F.sub_list_set
        have hslf := PySem.F.sub_list_frozenset
        have hne : (Value.type "list" == Value.type "dict") = false := by decide
        have hl1 : (s.heap.push { cls := .type "set", dict := none, data := .set #[] 0 (.fresh 0 0 (ledOf w)) }).IsList l items := ⟨_, hol', rfl, nl, rfl⟩
        unfold Builtin.«set.__init__» noKeywords Builtin.Frozenset.updateFrom
        generalize hPI : pyIter = PI
        wp_walk
        subst hPI
        refine wpAny_pyIter_list hl1 ?_
        refine wpAny_bind (wpAny_runValue ?_)
        have hlS : l < s.heap.objs.size := Heap.lt_size hol
        have hh3 : A.in1.in1.in1.handled = none := by simp [hh]
        have hneI : l ≠ (s.heap.push { cls := .type "set", dict := none, data := .set #[] 0 (.fresh 0 0 (ledOf w)) }).objs.size := by
          rw [Heap.size_push]; exact Nat.ne_of_lt (Nat.lt_succ_of_lt hlS)
        have hSf : s.heap.objs.size ∉ [(s.heap.push { cls := .type "set", dict := none, data := .set #[] 0 (.fresh 0 0 (ledOf w)) }).objs.size, l] := by
          rw [Heap.size_push]; simp only [List.mem_cons, List.mem_singleton, List.not_mem_nil, or_false, not_or]
          exact ⟨Nat.ne_of_lt (Nat.lt_succ_self _), Nat.ne_of_gt hlS⟩
        have hval : ∀ (i : Nat) (v : Value), items[i]? = some v → ∃ t, v = .int ((fun i => ns.getD i 0) i) t := fun i v hv =>
          IntsAre.int_at hi i v (by rw [Array.getElem?_toList]; exact hv)
        have hv' : ∀ i, i < items.size → 0 ≤ ns.getD i 0 ∧ ns.getD i 0 < 16 := fun i hi' => by
          have hi2 : i < ns.length := by (first | lia | omega)
          rw [List.getD_eq_getElem?_getD, List.getElem?_eq_getElem hi2]
          exact hv _ (List.getElem_mem hi2)
        refine set_loop (led := ledOf w) ((Walks.list hh3 _ l hneI items).toS) s.heap.objs.size hSf (fun i => ns.getD i 0) hval hv' (items.size - 0) 0 _ #[] 0 (.fresh 0 0 (ledOf w)) rfl (Nat.zero_le _)
          ⟨⟨_, Heap.get?_push_size _ rfl, rfl, rfl⟩, (hl1.push _)⟩ ⟨Heap.get?_push_of_some _ hS, Small.fresh _, (fun e he => by cases he), List.nodup_nil⟩ (fun x => ⟨(fun q => by cases q), fun ⟨j, hj, _⟩ => absurd hj (Nat.not_lt_zero _)⟩) ?hR
        case hR =>
          intro s' es ep t hm hS' hmem
          obtain ⟨h', g', d', tk', os'⟩ := s'
          have eg : g' = s.gens := hm.gens
          have ed : d' = s.drawn := hm.drawn
          have eo : os' = s.os := hm.os
          subst eg; subst ed; subst eo
          show wpAny _ _ _ _ _ _
          refine wpAny_pure ?_
          show wpAny _ _ (ret Value.none) _ _ _
          refine wpAny_pure ⟨rfl, h', tk', es, ep, t, rfl, hS', fun x => ?_, fun b o e => ?_⟩
          · rw [hmem]
            constructor
            · rintro ⟨j, hj, rfl⟩
              have hj2 : j < ns.length := by (first | lia | omega)
              show ns.getD j 0 ∈ ns
              rw [List.getD_eq_getElem?_getD, List.getElem?_eq_getElem hj2]
              exact List.getElem_mem hj2
            · intro hx
              obtain ⟨j, hj, rfl⟩ := List.mem_iff_getElem.mp hx
              refine ⟨j, by (first | lia | omega), ?_⟩
              show _ = ns.getD j 0
              rw [List.getD_eq_getElem?_getD, List.getElem?_eq_getElem hj]; rfl
          · have hb := Heap.lt_size e
            have hb1 : b ≠ s.heap.objs.size := Nat.ne_of_lt hb
            have hb2 : b ≠ (s.heap.push { cls := .type "set", dict := none, data := .set #[] 0 (.fresh 0 0 (ledOf w)) }).objs.size := by
              rw [Heap.size_push]; exact Nat.ne_of_lt (Nat.lt_succ_of_lt hb)
            exact hm.heap b o (by simp only [List.mem_cons, List.mem_singleton, List.not_mem_nil, or_false, not_or]; exact ⟨hb1, hb2⟩) (Heap.get?_push_of_some _ (Heap.get?_push_of_some _ e))
      · cases r₂ with
        | error e => exact hr₂
        | ok fl₂ =>
          cases fl₂ with
          | ret r =>
            obtain ⟨rfl, h', tk, es, ep, t, rfl, hS', hm', hk'⟩ := hr₂
            repeat (any_goals (first | assumption | wp_step))
            exact h _ _ _ _ _ hS' hm' hk'
          | _ => exact hr₂.elim
    | _ => exact hr.elim
end
end Mini

end
section
set_option autoImplicit false
set_option linter.unusedVariables false
set_option linter.unusedSimpArgs false
set_option maxRecDepth 100000
namespace Mini
open PySem PyProof.Rows

theorem cons_erase {α : Type} : ∀ (l : List α) (i : Nat) (h : i < l.length), (l[i] :: l.eraseIdx i).Perm l
  | x :: l, 0, _ => .refl _
  | x :: l, i + 1, h => (List.Perm.swap ..).trans ((cons_erase l i (Nat.lt_of_succ_lt_succ h)).cons x)
theorem pick_go {α : Type} (next : Nat → Nat) : ∀ (fuel k : Nat) (left : List α) (out : Array α), left.length = fuel → ∃ L : List α, L.Perm left ∧ (pickOrder.go next fuel k left out).toList = out.toList ++ L
  | 0, k, left, out, h => ⟨[], by rw [List.eq_nil_of_length_eq_zero h], by simp [pickOrder.go]⟩
  | fuel + 1, k, left, out, h => by
    have hm : next k % left.length < left.length := Nat.mod_lt _ (by (first | lia | omega))
    unfold pickOrder.go
    rw [List.getElem?_eq_getElem hm]
    obtain ⟨L, h1, h2⟩ := pick_go next fuel (k + 1) (left.eraseIdx (next k % left.length)) (out.push left[next k % left.length]) (by rw [List.length_eraseIdx_of_lt hm]; (first | lia | omega))
    refine ⟨left[next k % left.length] :: L, (h1.cons _).trans (cons_erase _ _ hm), ?_⟩
    dsimp only
    rw [h2, Array.toList_push, List.append_assoc]; rfl
theorem pick_perm {α : Type} (next : Nat → Nat) (xs : Array α) : (pickOrder next xs).toList.Perm xs.toList := by
  obtain ⟨L, h1, h2⟩ := pick_go next xs.size 0 xs.toList #[] (by simp)
  unfold pickOrder
  rw [h2]; simpa using h1
noncomputable def ordW (w : World) (a : Addr) (es : Array (Int × Value)) (ep : Nat) : Array (Int × Value) := if w.params.followText "set-order" then pickOrder (w.params.setOrder a ep) es else es
theorem ordW_perm (w : World) (a : Addr) (es : Array (Int × Value)) (ep : Nat) : (ordW w a es ep).toList.Perm es.toList := by
  unfold ordW; split
  · exact pick_perm _ _
  · exact .refl _
theorem ordW_size (w : World) (a : Addr) (es : Array (Int × Value)) (ep : Nat) : (ordW w a es ep).size = es.size := by
  have := (ordW_perm w a es ep).length_eq
  rwa [Array.length_toList, Array.length_toList] at this
noncomputable def slotAt (w : World) (t : SetTable) : Nat → Nat
  | 0 => 0
  | k + 1 => if w.params.followText "set-order" then 0 else t.place.getD k 0 + 1
noncomputable def sIt (a : Addr) (slot i n ep : Nat) : Obj := { cls := .type "set_iterator", data := .fields #[rawInt slot, rawInt i, .ref a, rawInt n, rawInt ep] }
section
variable {prog : Program} {w : World} {A : Around} {E : Value → Shared → Prop} {s : Shared} {a : Addr} {es : Array (Int × Value)} {ep : Nat} {t : SetTable}
theorem byText_is {Q : Bool → Shared → Prop} (h : Q (w.params.followText "set-order") s) : wpAny (model prog w) A setsByText Q E s := by
  unfold setsByText
  exact wpAny_bind (wpAny_askSetting (wpAny_pure h))
theorem set_next {i : Nat} {Q : Option (Value × Nat) → Shared → Prop} (x : SetS (ledOf w) s.heap a es ep t)
    (h : Q ((ordW w a es ep)[i]?.map fun e => (e.2, slotAt w t (i + 1))) s) (hi : i ≤ es.size) : wpAny (model prog w) A (setNext a (slotAt w t i) i ep) Q E s := by
  obtain ⟨ho, hS, hE, hN⟩ := id x
  have hf := hS.fits
  unfold setNext
  refine wpAny_bind (wpAny_setState_of ho rfl hf ?_)
  dsimp only
  refine wpAny_bind (byText_is ?_)
  have hz : w.params.followText "set-order" = true → slotAt w t i = 0 ∧ slotAt w t (i + 1) = 0 := fun hb => by
    refine ⟨?_, by simp [slotAt, hb]⟩
    cases i with
    | zero => rfl
    | succ k => simp [slotAt, hb]
  cases hb : w.params.followText "set-order" with
  | true =>
    rw [if_pos rfl]
    simp only [bne_self_eq_false, Bool.false_eq_true, if_false]
    refine wpAny_bind ?_
    unfold setWalk
    refine wpAny_bind (wpAny_setState_of ho rfl hf ?_)
    dsimp only
    refine wpAny_bind (byText_is ?_)
    rw [hb, if_pos rfl]
    refine wpAny_bind (wpAny_askSetting (wpAny_pure ?_))
    refine wpAny_pure ?_
    have e : ordW w a es ep = pickOrder (w.params.setOrder a ep) es := if_pos hb
    rw [e] at h
    rw [(hz hb).2] at h
    rw [(hz hb).1]
    exact h
  | false =>
    rw [if_neg (by decide)]
    have hl : t.led = true := by rw [hS.b.l]; unfold ledOf; rw [hb]; rfl
    have hp := hS.b.p
    have hr := hS.b.r
    have hs := hS.b.s
    have e : ordW w a es ep = es := if_neg (by rw [hb]; decide)
    rw [e] at h
    have hbl : SetTable.below t.place (slotAt w t i) = i := by
      cases i with
      | zero => exact below_zero hr
      | succ k =>
        have hk : k < t.place.size := by (first | lia | omega)
        have : slotAt w t (k + 1) = t.place[k] + 1 := by simp [slotAt, hb, Array.getD, hk]
        rw [this]; exact below_next hr hk
    have hnx : slotAt w t (i + 1) = t.place.getD i 0 + 1 := by simp [slotAt, hb]
    rw [hnx] at h
    clear hS x hnx
    obtain ⟨m0, p0, d0, f0, l0, v0, q0⟩ := t
    have hp : q0 = true := hp
    have hl : l0 = true := hl
    subst hp hl
    refine wpAny_ite_split (fun hc => absurd hc (by exact Bool.false_ne_true)) fun _ => ?_
    refine wpAny_bind (wpAny_of_eq (a := ()) (by first | rfl | (simp; rfl)) ?_)
    have hbl : SetTable.below p0 (slotAt w ⟨m0, p0, d0, f0, true, v0, true⟩ i) = i := hbl
    have hs : p0.size = es.size := hs
    have h : Q (es[i]?.map fun e => (e.2, p0.getD i 0 + 1)) s := h
    dsimp only
    rw [hbl]
    rcases Nat.lt_or_ge i es.size with q | q
    · have q' : i < p0.size := by (first | lia | omega)
      rw [Array.getElem?_eq_getElem q] at h ⊢
      rw [Array.getElem?_eq_getElem q']
      have : p0.getD i 0 = p0[i] := by simp [Array.getD, q']
      rw [this] at h
      exact wpAny_pure h
    · rw [Array.getElem?_eq_none q] at h ⊢
      exact wpAny_pure h
end
end Mini

end
section
set_option autoImplicit false
set_option linter.unusedVariables false
set_option linter.unusedSimpArgs false
set_option maxRecDepth 100000
namespace Mini
open PySem PyProof.Rows

theorem owner_si : Manifest.owners.lookup (String.ofList ['r', 'o', 't', 'a', 'r', 'e', 't', 'i', '_', 't', 'e', 's'].reverse) = some Manifest.sig_set_iterator := by kernel_rfl
theorem slot_si_next : Slot "set_iterator" "__next__" "set_iterator.__next__" :=
  .of (owner := "set_iterator") (n := "__next__") (by rw [typeLookup_type, builtinLookup_eq_fast]; kernel_rfl) (by decide +kernel) (by decide +kernel) (by decide +kernel)
    (by first | exact .inl (by decide +kernel) | exact .inr (by decide +kernel)) (by rw [isSubtype_type]; kernel_rfl)
theorem slot_si_iter : Slot "set_iterator" "__iter__" "set_iterator.__iter__" :=
  .of (owner := "set_iterator") (n := "__iter__") (by rw [typeLookup_type, builtinLookup_eq_fast]; kernel_rfl) (by decide +kernel) (by decide +kernel) (by decide +kernel)
    (by first | exact .inl (by decide +kernel) | exact .inr (by decide +kernel)) (by rw [isSubtype_type]; kernel_rfl)
theorem entry_si_next : entryFor table "set_iterator.__next__" = some Builtin.«set_iterator.__next__» := entryFor_of_tree (by kernel_rfl)
theorem entry_si_iter : entryFor table "set_iterator.__iter__" = some Builtin.«dict_keyiterator.__iter__» :=
  entryFor_alias (id' := "dict_keyiterator.__iter__") (by kernel_rfl) (by first | rfl | decide +kernel | (unfold String.splitOn; simp +decide [String.splitOnAux])) (by decide +kernel) (by kernel_rfl)
theorem entry_set_iter : entryFor table "set.__iter__" = some Builtin.«frozenset.__iter__» :=
  entryFor_alias (id' := "frozenset.__iter__") (by kernel_rfl) (by first | rfl | decide +kernel | (unfold String.splitOn; simp +decide [String.splitOnAux])) (by decide +kernel) (by kernel_rfl)
theorem args_si_next (a : Value) : argsOk "set_iterator.__next__" ⟨[a], []⟩ := by
  unfold argsOk; rw [signature?_of (id := "set_iterator.__next__") (n := ['_', '_', 't', 'x', 'e', 'n', '_', '_']) (o := ['r', 'o', 't', 'a', 'r', 'e', 't', 'i', '_', 't', 'e', 's']) (by kernel_rfl) owner_si]; kernel_rfl
theorem args_si_iter (a : Value) : argsOk "set_iterator.__iter__" ⟨[a], []⟩ := by
  unfold argsOk; rw [signature?_of (id := "set_iterator.__iter__") (n := ['_', '_', 'r', 'e', 't', 'i', '_', '_']) (o := ['r', 'o', 't', 'a', 'r', 'e', 't', 'i', '_', 't', 'e', 's']) (by kernel_rfl) owner_si]; kernel_rfl
section
variable {prog : Program} {w : World} {A : Around} {E : Value → Shared → Prop} {s : Shared} {a I : Addr} {es : Array (Int × Value)} {ep : Nat} {t : SetTable}
theorem SetS.typeIs (x : SetS (ledOf w) s.heap a es ep t) : s.TypeIs (.ref a) "set" := ⟨_, x.1, rfl⟩
theorem si_iter {Q : Value → Shared → Prop} (x : SetS (ledOf w) s.heap a es ep t) (hQ : Q (.ref s.heap.objs.size) { s with heap := s.heap.push (sIt a (slotAt w t 0) 0 es.size ep) }) : wpAny (model prog w) A (pyIter (.ref a)) Q E s := by
  obtain ⟨ho, hS, hE, hN⟩ := id x
  have hf := hS.fits
  refine wpAny_pyIter_slot x.typeIs PySem.F.slot_set_iter (wpAny_call_entry PySem.F.slot_set_iter x.typeIs entry_set_iter ?_ (PySem.F.args_set_iter_1 _))
  unfold Builtin.«frozenset.__iter__»
  refine wpAny_bind (wpAny_of_eq (a := a) rfl ?_)
  refine wpAny_bind ?_
  unfold Builtin.Frozenset.sizeOf
  refine wpAny_bind (wpAny_setEntries_of ho rfl hf (wpAny_pure ?_))
  refine wpAny_bind ?_
  unfold setDrawn
  refine wpAny_bind (wpAny_setState_of ho rfl hf ?_)
  dsimp only
  have hp := hS.b.p
  refine wpAny_bind (byText_is (wpAny_pure ?_))
  have hdr : ∀ b : Bool, b = false → wpAny (model prog w) A.in1 (if b = true then newTuple [] else pure (rawInt 0)) (fun v s' => v = rawInt 0 ∧ s' = s) E s := fun b hb => by rw [hb]; exact wpAny_pure ⟨rfl, rfl⟩
  refine wpAny_ite_split (fun hc => ?_) fun _ => ?_
  · exfalso
    obtain ⟨m0, p0, d0, f0, l0, v0, q0⟩ := t
    have hp : q0 = true := hp
    subst hp
    have hc : (!w.params.followText "set-order" && false) = true := hc
    rw [Bool.and_false] at hc; cases hc
  refine wpAny_bind (wpAny_pure ?_)
  refine wpAny_bind (wpAny_setEpoch_of ho rfl hf ?_)
  simp only [newFields]
  refine wpAny_bind (wpAny_newObj_type (wpAny_pure ⟨_, rfl, "set_iterator", _, ⟨_, Heap.get?_push_size _ rfl, rfl⟩, slot_si_next.lookup, ?_⟩) (by size_fits))
  exact hQ
theorem si_item {i : Nat} {e : Int × Value} {Q : Option Value → Shared → Prop} (hI : s.heap.get? I = some (sIt a (slotAt w t i) i es.size ep)) (x : SetS (ledOf w) s.heap a es ep t) (he : (ordW w a es ep)[i]? = some e)
    (hQ : ∀ h', h'.get? I = some (sIt a (slotAt w t (i + 1)) (i + 1) es.size ep) → Heap.SameBut I s.heap h' → Q (some e.2) { s with heap := h' }) : wpAny (model prog w) A (pyNext (.ref I)) Q E s := by
  obtain ⟨ho, hS, hE, hN⟩ := id x
  have hf := hS.fits
  have hT : s.TypeIs (.ref I) "set_iterator" := ⟨_, hI, rfl⟩
  have hi : i < es.size := by rw [← ordW_size w a es ep]; exact (Array.getElem?_eq_some_iff.mp he).1
  unfold pyNext
  refine wpAny_bind (wpAny_attempt (wpAny_callSpecial?_slot (name := Str.ofString "__next__") hT slot_si_next
    (wpAny_call_entry slot_si_next hT entry_si_next ?_ (args_si_next _))))
  unfold Builtin.«set_iterator.__next__»
  refine wpAny_bind (wpAny_of_eq (a := (Value.ref I, [])) rfl ?_)
  refine wpAny_bind (wpAny_fieldsOf hI rfl ?_)
  show wpAny _ _ (setEntries a >>= _) _ _ s
  refine wpAny_bind (wpAny_setEntries_of ho rfl hf ?_)
  refine wpAny_ite_split (fun hc => absurd hc (by simp)) fun _ => ?_
  show wpAny _ _ (setNext a (slotAt w t i) i ep >>= _) _ _ s
  refine wpAny_bind (set_next x ?_ (Nat.le_of_lt hi))
  rw [he]
  show wpAny _ _ (setField (.ref I) 0 (rawInt (slotAt w t (i + 1))) >>= _) _ _ s
  refine wpAny_bind (wpAny_setField hI rfl (by simp) ?_)
  have hI1 := Heap.get?_update_self (Obj.mapFields (·.setIfInBounds 0 (rawInt (slotAt w t (i + 1))))) hI rfl
  show wpAny _ _ (setField (.ref I) 1 (rawInt ((i : Int) + 1)) >>= _) _ _ _
  refine wpAny_bind (wpAny_setField hI1 rfl (by simp [sIt, Obj.mapFields]) ?_)
  have hI2 := Heap.get?_update_self (Obj.mapFields (·.setIfInBounds 1 (rawInt ((i : Int) + 1)))) hI1 rfl
  refine wpAny_pure ⟨e.2, rfl, wpAny_pure (hQ _ hI2 ?_)⟩
  exact (Heap.SameBut.update ..).trans (Heap.SameBut.update ..)
theorem si_end {Q : Option Value → Shared → Prop} (hh : A.handled = none) (hI : s.heap.get? I = some (sIt a (slotAt w t es.size) es.size es.size ep)) (x : SetS (ledOf w) s.heap a es ep t)
    (hQ : ∀ h' tk, Heap.ExtBut I s.heap h' → Q none { s with heap := h', toks := tk }) : wpAny (model prog w) A (pyNext (.ref I)) Q E s := by
  obtain ⟨ho, hS, hE, hN⟩ := id x
  have hf := hS.fits
  have hT : s.TypeIs (.ref I) "set_iterator" := ⟨_, hI, rfl⟩
  unfold pyNext
  refine wpAny_bind (wpAny_attempt (wpAny_callSpecial?_slot (name := Str.ofString "__next__") hT slot_si_next
    (wpAny_call_entry slot_si_next hT entry_si_next ?_ (args_si_next _))))
  unfold Builtin.«set_iterator.__next__»
  refine wpAny_bind (wpAny_of_eq (a := (Value.ref I, [])) rfl ?_)
  refine wpAny_bind (wpAny_fieldsOf hI rfl ?_)
  show wpAny _ _ (setEntries a >>= _) _ _ s
  refine wpAny_bind (wpAny_setEntries_of ho rfl hf ?_)
  refine wpAny_ite_split (fun hc => absurd hc (by simp)) fun _ => ?_
  show wpAny _ _ (setNext a (slotAt w t es.size) es.size ep >>= _) _ _ s
  refine wpAny_bind (set_next x ?_ (Nat.le_refl _))
  rw [Array.getElem?_eq_none (by rw [ordW_size]; exact Nat.le_refl _)]
  show wpAny _ _ (setField (.ref I) 2 .none >>= _) _ _ s
  refine wpAny_bind (wpAny_setField hI rfl (by simp) ?_)
  refine wpAny_bind ?_
  simp only [newExc, newTuple]
  refine wpAny_bind (wpAny_newObj_type ?_ (by size_fits))
  refine wpAny_bind (m := firstArgMember _ _) (wpAny_of_eq (a := Value.none) (by first | rfl | (simp only [firstArgMember]; rfl)) ?_)
  refine wpAny_newObj_type ?_ (by size_fits)
  simp only [raiseNew]
  refine wpAny_bind (wpAny_handled ?_)
  first | rw [show A.in1.handled = none from hh] | rw [hh]
  refine wpAny_bind (wpAny_pure (wpAny_throw ?_))
  refine wpAny_bind (wpAny_isInstance (T := "StopIteration") (b := true) ⟨_, Heap.get?_push_size _ rfl, rfl⟩ isSubtype_stop ?_)
  exact wpAny_pure (hQ _ _ fun b o hb e => Heap.get?_push_of_some _ (Heap.get?_push_of_some _ ((Heap.get?_update_other _ _ (Ne.symm hb)).trans e)))
theorem si_self {sl i n e : Nat} {Q : Value → Shared → Prop} (hI : s.heap.get? I = some (sIt a sl i n e)) (h : Q (.ref I) s) : wpAny (model prog w) A (pyIter (.ref I)) Q E s := by
  have hT : s.TypeIs (.ref I) "set_iterator" := ⟨_, hI, rfl⟩
  refine wpAny_pyIter_slot hT slot_si_iter (wpAny_call_entry slot_si_iter hT entry_si_iter ?_ (args_si_iter _))
  show wpAny _ _ (ret (.ref I)) _ _ s
  exact wpAny_pure ⟨_, rfl, "set_iterator", _, hT, slot_si_next.lookup, h⟩
theorem si_hint {Q : Bool → Shared → Prop} (hT : s.TypeIs (.ref a) "set") (h : Q false s) : wpAny (model prog w) A (Builtin.List.listLengthHint (.ref a)) Q E s := by
  unfold Builtin.List.listLengthHint
  refine wpAny_bind (wpAny_specialOf hT PySem.F.slot_set_len.lookup ?_)
  generalize hid : ("set.__len__" : String) = id0
  wp_delta
  rw [show splitId id0 = some ("set", "__len__") from by subst hid; decide +kernel]
  subst hid
  refine wpAny_bind (wpAny_isInstance (T := "set") (b := true) hT (by rw [isSubtype_type]; kernel_rfl) ?_)
  refine wpAny_ite_split (fun hab => absurd hab (by decide)) (fun _ => ?_)
  refine wpAny_ite_split (fun _ => ?_) (fun hab => absurd (by decide +kernel) hab)
  refine wpAny_bind (wpAny_typeOf hT ?_)
  exact wpAny_pure h
end
theorem walk_si {prog : Program} {w : World} {A : Around} (hh : A.handled = none) (I a : Addr) (hne : a ≠ I) {es : Array (Int × Value)} {ep : Nat} {t : SetTable} :
    Walks prog w A I [I, a] [I] es.size (fun i v => ∃ e, (ordW w a es ep)[i]? = some e ∧ v = e.2) (fun i h => h.get? I = some (sIt a (slotAt w t i) i es.size ep) ∧ SetS (ledOf w) h a es ep t) where
  sub := fun b hb => by simp at hb; simp [hb]
  frame := fun _ _ _ x hk => ⟨hk I (by simp) _ x.1, hk a (by simp) _ x.2.1, x.2.2⟩
  item := fun i s Q E hi x hQ => by
    have hi' : i < (ordW w a es ep).size := by rw [ordW_size]; exact hi
    refine si_item x.1 x.2 (Array.getElem?_eq_getElem hi') fun h' hI hs => ?_
    exact hQ _ h' s.toks ⟨_, Array.getElem?_eq_getElem hi', rfl⟩ ⟨hI, hs.extBut a _ hne x.2.1, x.2.2⟩ fun b o hb e => hs.extBut b o (fun h => hb (by simp [h])) e
  done := fun s Q E x hQ => si_end hh x.1 x.2 fun h' tk he => hQ h' tk fun b o hb e => he b o (fun h => hb (by simp [h])) e
  self := fun _ _ _ _ x hQ => si_self x.1 hQ
theorem src_si {prog : Program} {w : World} {a : Addr} {es : Array (Int × Value)} {ep : Nat} {t : SetTable} : PySem.W.KdlSrc prog w "set" a a es.size (fun i v => ∃ e, (ordW w a es ep)[i]? = some e ∧ v = e.2) (fun h => SetS (ledOf w) h a es ep t) where
  type := fun _ x => x.typeIs
  there := fun _ x => ⟨Heap.lt_size x.1, Heap.lt_size x.1⟩
  keep := fun _ _ x hk => ⟨hk a (.inl rfl) _ x.1, x.2⟩
  notList := by decide
  notTuple := by decide
  hint := fun _ _ _ _ x hq => si_hint x.typeIs hq
  iter := fun _ s hh x => ⟨_, _, (fun _ _ hq => si_iter x hq), walk_si hh _ a (Nat.ne_of_lt (Heap.lt_size x.1)), ⟨Heap.get?_push_size _ rfl, Heap.get?_push_of_some _ x.1, x.2⟩⟩
end Mini

end
section
set_option autoImplicit false
set_option linter.unusedVariables false
set_option linter.unusedSectionVars false
set_option linter.unusedSimpArgs false
set_option maxRecDepth 100000
namespace Mini
open PySem

theorem mem_dedupI : ∀ (l : List Int) (x : Int), x ∈ dedupI l ↔ x ∈ l
  | [], x => Iff.rfl
  | y :: l, x => by
    unfold dedupI
    split
    · rename_i h
      rw [mem_dedupI l x, List.mem_cons]
      exact ⟨.inr, fun q => q.elim (fun e => e ▸ h) id⟩
    · rw [List.mem_cons, List.mem_cons, mem_dedupI l x]
theorem nodup_dedupI : ∀ l : List Int, (dedupI l).Nodup
  | [] => List.nodup_nil
  | y :: l => by
    unfold dedupI
    split
    · exact nodup_dedupI l
    · rename_i h
      exact List.nodup_cons.mpr ⟨fun q => h ((mem_dedupI l y).mp q), nodup_dedupI l⟩
theorem sortI_congr {a b : List Int} (h : a.Perm b) : sortI a = sortI b := sorted_unique ((sortI_perm a).trans (h.trans (sortI_perm b).symm)) (sortI_sorted a) (sortI_sorted b)
section
variable {c : Cx} {mg : Str → Option Value} {G : List String} {A : Around} {D O : OM} {F : FM} {H : MH} {s : Shared}
theorem sset_snd {a : Value} {va : V} {r : Res} (M : AOK A) (h : primOp .sortedSet H [va] = some r) (ha : VR D a va) (R : Rel c D O F H s) : W c A (call (.type "set") [a]) (fun rv s' => W c A (call (.builtin "sorted") [rv]) (Fin c D O F H r) s') s := by
  cases va <;> (try (cases h; done))
  case ref x =>
    obtain rfl := ha.ref_inv
    have h' : (match H x with
      | some (.list vs) => (ints? vs).bind fun is => if decide (vs.length ≤ 64) && is.all (fun i => decide (0 ≤ i) && decide (i < 16)) then newL ((sortI (dedupI is)).map .int) else none
      | _ => none) = some r := h
    split at h'
    case h_2 => cases h'
    rename_i vs e
    obtain ⟨is, e1, e2⟩ := Option.bind_eq_some_iff.mp h'
    split at e2
    case isFalse => cases e2
    rename_i hc
    rw [Bool.and_eq_true, decide_eq_true_eq, List.all_eq_true] at hc
    unfold newL at e2
    split at e2
    case isFalse => cases e2
    rename_i hl
    cases e2
    obtain rfl := ints_inv e1
    obtain ⟨cs, n, v1, g, l⟩ := R.listAt e
    have hI := intsAre_of v1
    refine call_set_small (items := cs.toArray) (ns := is) M.h ⟨_, g, rfl, n, rfl⟩ hI (fun i hi => ?_) fun h2 tk es ep t hS hm hk => ?_
    · have := hc.2 i hi
      rw [Bool.and_eq_true, decide_eq_true_eq, decide_eq_true_eq] at this
      exact this
    have R' : Rel c D O F H { s with heap := h2, toks := tk } := R.grow hk
    have hp : ((ordW c.w s.heap.objs.size es ep).toList.map (·.1)).Perm (dedupI is) :=
      ((ordW_perm c.w s.heap.objs.size es ep).map (·.1)).trans ((List.perm_ext_iff_of_nodup hS.2.2.2 (nodup_dedupI is)).mpr fun x => by rw [hm, mem_dedupI])
    rw [← sortI_congr hp] at hl ⊢
    refine sorted_src (s := { s with heap := h2, toks := tk }) M R' (src_si (prog := c.prog) (w := c.w) (t := t)) hS (by have := hS.2.1.le; (first | lia | omega)) (fun acc hacc => ?_) hl
    have hlen : acc.toList.length = es.size := by rw [Array.length_toList]; exact hacc.1
    refine intsAre_of (D := D) ⟨by rw [hlen, List.length_map, List.length_map, Array.length_toList, ordW_size], fun j a b => ?_⟩
    have ha : j < acc.size := by rw [Array.length_toList] at a; exact a
    obtain ⟨e0, e3, e4⟩ := hacc.2 j acc[j] (Array.getElem?_eq_getElem ha)
    have e5 : acc.toList[j] = e0.2 := by rw [Array.getElem_toList]; exact e4
    have hmem : e0 ∈ es.toList := (ordW_perm c.w s.heap.objs.size es ep).mem_iff.mp (by rw [← Array.getElem?_toList] at e3; exact List.mem_of_getElem? e3)
    obtain ⟨⟨u, hu⟩, _⟩ := hS.2.2.1 e0 hmem
    rw [e5, hu, List.getElem_map, List.getElem_map]
    have e6 : (ordW c.w s.heap.objs.size es ep).toList[j]'(by rw [List.length_map, List.length_map] at b; exact b) = e0 := by
      rw [← Array.getElem?_toList] at e3
      exact (List.getElem?_eq_some_iff.mp e3).2
    rw [e6]
    exact .int _ _
end
end Mini

end
section
set_option autoImplicit false
set_option linter.unusedVariables false
set_option linter.unusedSectionVars false
set_option linter.unusedSimpArgs false
set_option maxRecDepth 100000
namespace Mini
open PySem

theorem foldMax_spec : ∀ (is : List Int) (i : Int), (∀ x ∈ i :: is, x ≤ is.foldl (fun m x => if m < x then x else m) i) ∧ is.foldl (fun m x => if m < x then x else m) i ∈ i :: is
  | [], i => ⟨fun x hx => by simp at hx; simp [hx], by simp⟩
  | y :: is, i => by
    simp only [List.foldl_cons]
    obtain ⟨h1, h2⟩ := foldMax_spec is (if i < y then y else i)
    refine ⟨fun x hx => ?_, ?_⟩
    · have h0 := h1 _ (.head _)
      rcases List.mem_cons.mp hx with rfl | hx
      · refine Int.le_trans ?_ h0; split <;> (first | lia | omega)
      · rcases List.mem_cons.mp hx with rfl | hx
        · refine Int.le_trans ?_ h0; split <;> (first | lia | omega)
        · exact h1 x (.tail _ hx)
    · rcases List.mem_cons.mp h2 with e | h2
      · rw [e]; split
        · exact .tail _ (.head _)
        · exact .head _
      · exact .tail _ (.tail _ h2)
theorem foldMin_spec : ∀ (is : List Int) (i : Int), (∀ x ∈ i :: is, is.foldl (fun m x => if x < m then x else m) i ≤ x) ∧ is.foldl (fun m x => if x < m then x else m) i ∈ i :: is
  | [], i => ⟨fun x hx => by simp at hx; simp [hx], by simp⟩
  | y :: is, i => by
    simp only [List.foldl_cons]
    obtain ⟨h1, h2⟩ := foldMin_spec is (if y < i then y else i)
    refine ⟨fun x hx => ?_, ?_⟩
    · have h0 := h1 _ (.head _)
      rcases List.mem_cons.mp hx with rfl | hx
      · refine Int.le_trans h0 ?_; split <;> (first | lia | omega)
      · rcases List.mem_cons.mp hx with rfl | hx
        · refine Int.le_trans h0 ?_; split <;> (first | lia | omega)
        · exact h1 x (.tail _ hx)
    · rcases List.mem_cons.mp h2 with e | h2
      · rw [e]; split
        · exact .tail _ (.head _)
        · exact .head _
      · exact .tail _ (.tail _ h2)

section
variable {c : Cx} {mg : Str → Option Value} {G : List String} {A : Around} {D O : OM} {F : FM} {H : MH} {s : Shared}

theorem toks_of {is : List Int} {cs : List Value} (h : VRs D cs (is.map .int)) : ∃ xs : Array (Int × Tok), cs.toArray = intItems xs ∧ xs.size = is.length ∧ ∀ j (hj : j < is.length), numAt xs j = is[j] := by
  induction is generalizing cs with
  | nil => obtain rfl := h.nil_inv; exact ⟨#[], by simp [intItems], rfl, fun j hj => nomatch hj⟩
  | cons i is ih =>
    obtain ⟨cv, ds, rfl, h1, h2⟩ := h.cons_inv
    obtain ⟨t, rfl⟩ := h1.int_inv
    obtain ⟨xs, e1, e2, e3⟩ := ih h2
    refine ⟨#[(i, t)] ++ xs, ?_, by simp [e2]; (first | lia | omega), fun j hj => ?_⟩
    · have : (Value.int i t :: ds).toArray = #[Value.int i t] ++ ds.toArray := by simp
      rw [this, e1]; simp [intItems]
    · cases j with
      | zero => simp [numAt, Array.getElem?_append]
      | succ j =>
        have := e3 j (by simpa using hj)
        simp only [List.getElem_cons_succ]
        rw [← this]
        simp [numAt, Array.getElem?_append_right]

theorem maxL_snd {a : Value} {va : V} {r : Res} (M : AOK A) (R : Rel c D O F H s) (ha : VR D a va) (h : primOp .maxL H [va] = some r) : W c A (call (.builtin "max") [a]) (Fin c D O F H r) s := by
  cases va <;> (try (cases h; done))
  case ref x =>
    obtain rfl := ha.ref_inv
    have h' : (match (items H (.ref x)).bind ints? with
      | some (i :: is) => some (Res.val (.int (is.foldl (fun m x => if m < x then x else m) i)))
      | _ => none) = some r := h
    split at h'
    case h_2 => cases h'
    rename_i i is e
    cases h'
    obtain ⟨vs, e1, e2⟩ := Option.bind_eq_some_iff.mp e
    simp only [items] at e1
    split at e1
    case h_2 => cases e1
    rename_i us e3
    cases e1
    obtain rfl := ints_inv e2
    obtain ⟨cs, n, v1, g, l⟩ := R.listAt e3
    obtain ⟨xs, x1, x2, x3⟩ := toks_of v1
    refine max_intList M.h (xs := xs) ⟨_, g, rfl, n, by rw [← x1]; rfl⟩ (by rw [x2]; simp) fun v h' tk hv k => ?_
    obtain ⟨t, rfl⟩ := intItems_at hv
    obtain ⟨b1, b2⟩ := argBest_gt (numAt xs) (xs.size - 1)
    have hlt : argBest (fun i j => decide (numAt xs i > numAt xs j)) (xs.size - 1) < (i :: is).length := by
      have : 0 < xs.size := by rw [x2]; simp
      rw [← x2]; (first | lia | omega)
    have e4 : numAt xs (argBest (fun i j => decide (numAt xs i > numAt xs j)) (xs.size - 1)) = is.foldl (fun m x => if m < x then x else m) i := by
      obtain ⟨f1, f2⟩ := foldMax_spec is i
      refine Int.le_antisymm ?_ ?_
      · rw [x3 _ hlt]; exact f1 _ (List.getElem_mem _)
      · obtain ⟨j, hj, ej⟩ := List.mem_iff_getElem.mp f2
        rw [← ej, ← x3 j hj]
        exact b2 j (by rw [x2]; (first | lia | omega))
    rw [e4]
    exact .val (.int _ _) (R.grow k)
theorem minL_snd {a : Value} {va : V} {r : Res} (M : AOK A) (R : Rel c D O F H s) (ha : VR D a va) (h : primOp .minL H [va] = some r) : W c A (call (.builtin "min") [a]) (Fin c D O F H r) s := by
  cases va <;> (try (cases h; done))
  case ref x =>
    obtain rfl := ha.ref_inv
    have h' : (match (items H (.ref x)).bind ints? with
      | some (i :: is) => some (Res.val (.int (is.foldl (fun m x => if x < m then x else m) i)))
      | _ => none) = some r := h
    split at h'
    case h_2 => cases h'
    rename_i i is e
    cases h'
    obtain ⟨vs, e1, e2⟩ := Option.bind_eq_some_iff.mp e
    simp only [items] at e1
    split at e1
    case h_2 => cases e1
    rename_i us e3
    cases e1
    obtain rfl := ints_inv e2
    obtain ⟨cs, n, v1, g, l⟩ := R.listAt e3
    obtain ⟨xs, x1, x2, x3⟩ := toks_of v1
    refine min_intList M.h (xs := xs) ⟨_, g, rfl, n, by rw [← x1]; rfl⟩ (by rw [x2]; simp) fun v h' tk hv k => ?_
    obtain ⟨t, rfl⟩ := intItems_at hv
    obtain ⟨b1, b2⟩ := argBest_lt (numAt xs) (xs.size - 1)
    have hlt : argBest (fun i j => decide (numAt xs i < numAt xs j)) (xs.size - 1) < (i :: is).length := by
      have : 0 < xs.size := by rw [x2]; simp
      rw [← x2]; (first | lia | omega)
    have e4 : numAt xs (argBest (fun i j => decide (numAt xs i < numAt xs j)) (xs.size - 1)) = is.foldl (fun m x => if x < m then x else m) i := by
      obtain ⟨f1, f2⟩ := foldMin_spec is i
      refine Int.le_antisymm ?_ ?_
      · obtain ⟨j, hj, ej⟩ := List.mem_iff_getElem.mp f2
        rw [← ej, ← x3 j hj]
        exact b2 j (by rw [x2]; (first | lia | omega))
      · rw [x3 _ hlt]; exact f1 _ (List.getElem_mem _)
    rw [e4]
    exact .val (.int _ _) (R.grow k)

theorem range_any (bs : List Bool) : (List.range bs.length).any (fun i => bs.getD i false) = bs.any id := by
  rw [Bool.eq_iff_iff, List.any_eq_true, List.any_eq_true]
  constructor
  · rintro ⟨i, hi, h⟩
    have hi' : i < bs.length := by simpa using hi
    exact ⟨bs[i], List.getElem_mem _, by simpa [List.getD, hi'] using h⟩
  · rintro ⟨b, hb, h⟩
    obtain ⟨i, hi, rfl⟩ := List.mem_iff_getElem.mp hb
    exact ⟨i, by simpa using hi, by simpa [List.getD, hi] using h⟩
theorem range_all (bs : List Bool) : (List.range bs.length).all (fun i => bs.getD i false) = bs.all id := by
  rw [Bool.eq_iff_iff, List.all_eq_true, List.all_eq_true]
  constructor
  · intro h b hb
    obtain ⟨i, hi, rfl⟩ := List.mem_iff_getElem.mp hb
    have := h i (by simpa using hi)
    simpa [List.getD, hi] using this
  · intro h i hi
    have hi' : i < bs.length := by simpa using hi
    simpa [List.getD, hi'] using h _ (List.getElem_mem hi')

theorem walk_bools {x : Value} {bs : List Bool} {E : Value → Shared → Prop} {P : Value → Shared → Prop} (M : AOK A) (R : Rel c D O F H s) (q : SeqAt' c D s x (bs.map .bool))
    (h : ∀ I fp wr Pp St s2, Walks c.prog c.w A.in1 I fp wr bs.length Pp St → St 0 s2.heap → TruthOf c.prog c.w A.in1 Pp (fun i => bs.getD i false) → (∀ h' tk, (∀ b o, b ∉ wr → s2.heap.get? b = some o → h'.get? b = some o) → Rel c D O F H { s2 with heap := h', toks := tk }) → P (.ref I) s2) :
    wpAny (model c.prog c.w) A.in1 (pyIter x) P E s := by
  have tru : ∀ {cs : List Value}, VRs D cs (bs.map .bool) → TruthOf c.prog c.w A.in1 (fun i v => cs.toArray[i]? = some v) (fun i => bs.getD i false) := fun {cs} v1 i v s Q E hv hQ => by
    have hv' : cs[i]? = some v := by simpa using hv
    obtain ⟨hi, rfl⟩ := List.getElem?_eq_some_iff.mp hv'
    have hi' : i < bs.length := by have := v1.1; simp at this; (first | lia | omega)
    have := v1.2 i hi (by simpa using hi')
    have e : (bs.map V.bool)[i]'(by simpa using hi') = .bool bs[i] := by simp
    rw [e] at this
    rw [this.bool_inv]
    refine wpAny_truthy_bool ?_
    simpa [List.getD, hi'] using hQ
  obtain ⟨f1, f2, f3, f4⟩ := R.fresh
  have keep : ∀ {o : Obj} (h' : Heap) (tk : Nat), (∀ b o', b ∉ [s.heap.objs.size] → (s.heap.push o).get? b = some o' → h'.get? b = some o') → Rel c D O F H { s with heap := h', toks := tk } := fun {o} h' tk k =>
    R.grow fun b o' e => k b o' (by simp; exact Nat.ne_of_lt (Heap.lt_size e)) (Heap.get?_push_of_some _ e)
  cases q with
  | list a cs n e g v1 l =>
    subst e
    have hT : s.heap.IsList a cs.toArray := ⟨_, g, rfl, n, rfl⟩
    refine wpAny_pyIter_list hT ?_
    have hne : a ≠ s.heap.objs.size := Nat.ne_of_lt (Heap.lt_size g)
    have hW := Walks.list (prog := c.prog) (w := c.w) (A := A.in1) M.h s.heap.objs.size a hne cs.toArray
    have hsz : cs.toArray.size = bs.length := by rw [List.size_toArray, v1.1]; simp
    rw [hsz] at hW
    exact h _ _ _ _ _ _ hW ⟨⟨_, Heap.get?_push_size _ rfl, rfl, rfl⟩, hT.push _⟩ (tru v1) fun h' tk k => keep h' tk k
  | tup a cs n e g v1 l =>
    subst e
    have hT : s.heap.IsTuple a cs.toArray := ⟨_, g, rfl, n, rfl⟩
    refine wpAny_pyIter_tuple hT ?_
    have hne : a ≠ s.heap.objs.size := Nat.ne_of_lt (Heap.lt_size g)
    have hW := Walks.tuple (prog := c.prog) (w := c.w) (A := A.in1) M.h s.heap.objs.size a hne cs.toArray
    have hsz : cs.toArray.size = bs.length := by rw [List.size_toArray, v1.1]; simp
    rw [hsz] at hW
    exact h _ _ _ _ _ _ hW ⟨⟨_, Heap.get?_push_size _ rfl, rfl, rfl⟩, hT.push _⟩ (tru v1) fun h' tk k => keep h' tk k

theorem any_snd {a : Value} {va : V} {r : Res} (M : AOK A) (R : Rel c D O F H s) (ha : VR D a va) (h : primOp .any H [va] = some r) : W c A (call (.builtin "any") [a]) (Fin c D O F H r) s := by
  have h' : ((items H va).bind bools?).map (fun bs => Res.val (.bool (bs.any id))) = some r := h
  obtain ⟨bs, e1, rfl⟩ := Option.map_eq_some_iff.mp h'
  obtain ⟨vs, e2, e3⟩ := Option.bind_eq_some_iff.mp e1
  obtain rfl := bools_inv e3
  refine call_any_walk (walk_bools M R (seqAt_of R ha e2) fun I fp wr P St s2 hW st tr k => ⟨I, fp, wr, _, P, St, _, rfl, hW, st, tr, fun h' tk hk => ?_⟩)
  rw [range_any]
  exact .val (.bool _) (k h' tk hk)
theorem all_snd {a : Value} {va : V} {r : Res} (M : AOK A) (R : Rel c D O F H s) (ha : VR D a va) (h : primOp .all H [va] = some r) : W c A (call (.builtin "all") [a]) (Fin c D O F H r) s := by
  have h' : ((items H va).bind bools?).map (fun bs => Res.val (.bool (bs.all id))) = some r := h
  obtain ⟨bs, e1, rfl⟩ := Option.map_eq_some_iff.mp h'
  obtain ⟨vs, e2, e3⟩ := Option.bind_eq_some_iff.mp e1
  obtain rfl := bools_inv e3
  refine call_all_walk (walk_bools M R (seqAt_of R ha e2) fun I fp wr P St s2 hW st tr k => ⟨I, fp, wr, _, P, St, _, rfl, hW, st, tr, fun h' tk hk => ?_⟩)
  rw [range_all]
  exact .val (.bool _) (k h' tk hk)
end
end Mini

end
section
set_option autoImplicit false
set_option linter.unusedVariables false
set_option linter.unusedSectionVars false
set_option linter.unusedSimpArgs false
set_option maxRecDepth 100000
namespace Mini
open PySem PySem.Builtin.Str

section
variable {c : Cx} {mg : Str → Option Value} {G : List String} {A : Around} {D O : OM} {F : FM} {H : MH} {s : Shared}

theorem cutTo_pick {cs : List Value} {k : Int} : slicePick cs.toArray none (some k) none = (cs.take (cutTo cs.length k)).toArray := by
  unfold cutTo
  by_cases h : 0 ≤ k
  · obtain ⟨j, rfl⟩ := Int.eq_ofNat_of_zero_le h
    rw [if_pos h]
    have := slicePick_upto' cs.toArray j
    simpa using this
  · rw [if_neg h]
    have e : k = -((-k).toNat : Int) := by (first | lia | omega)
    have := slicePick_butLast cs.toArray (-k).toNat (by (first | lia | omega))
    rw [← e] at this
    rw [this]
    congr 2
    simp; (first | lia | omega)

theorem slice_list_snd {value : Expr} {l u : Option Expr} {p : Pos} {x : Addr} {cs : List Value} {n : Nat} {vl vu : Value} {lo hi : Option Int} {ws : List V} (R : Rel c D O F H s) (g : s.heap.get? x = some (listObj cs n)) (hl : cs.length ≤ lim) (pl : IsPart vl lo) (pu : IsPart vu hi)
    {ds : List Value} (hp : slicePick cs.toArray lo hi none = ds.toArray) (hv : VRs D ds ws) (hw : ws.length ≤ lim) :
    W c A (PyProof.Rows.subscriptTail value (.Slice l u none p) (.ref x) (.ref s.heap.objs.size)) (Fin c D O F H (.new (.list ws))) { s with heap := s.heap.push { cls := .type "slice", data := .fields #[vl, vu, .none] } } := by
  have hL : (s.heap.push { cls := .type "slice", data := .fields #[vl, vu, .none] }).IsList x cs.toArray := ⟨_, Heap.get?_push_of_some _ g, rfl, n, rfl⟩
  refine PyProof.Rows.tail_any (ops := [.ref s.heap.objs.size, .ref x]) (T := "list") (s := { s with heap := s.heap.push { cls := .type "slice", data := .fields #[vl, vu, .none] } }) ⟨_, Heap.get?_push_of_some _ g, rfl⟩ slot_list_getitem.lookup ?_ (by with_unfolding_all rfl)
  refine wpAny_getItem_list_slice hL (Heap.IsSliceOf.new ..) pl pu .none (by simp) ?_ (by rw [List.size_toArray]; exact lim_size hl)
  exact fin_newList (s := { s with heap := s.heap.push { cls := .type "slice", data := .fields #[vl, vu, .none] } }) (tk := s.toks) (R.grow (tk := s.toks) fun b o e => Heap.get?_push_of_some _ e) hv hw hp

theorem sl_snd {q : Prim} {value : Expr} {l u : Option Expr} {p : Pos} {o vl vu : Value} {vo vi : V} {r : Res} (h : primOp q H [vo, vi] = some r) (hq : q = .sliceTo ∧ vl = .none ∧ VR D vu vi ∨ q = .sliceFrom ∧ VR D vl vi ∧ vu = .none) (ho : VR D o vo) (R : Rel c D O F H s) :
    W c A (PyProof.Rows.subscriptTail value (.Slice l u none p) o (.ref s.heap.objs.size)) (Fin c D O F H r) { s with heap := s.heap.push { cls := .type "slice", data := .fields #[vl, vu, .none] } } := by
  have newl : ∀ {ws : List V}, newL ws = some r → ws.length ≤ lim ∧ r = .new (.list ws) := fun {ws} h => by
    unfold newL at h
    split at h
    · rename_i hl; cases h; exact ⟨hl, rfl⟩
    · cases h
  rcases hq with ⟨rfl, rfl, hv⟩ | ⟨rfl, hv, rfl⟩
  · have h' : sliceToOp H vo vi = some r := h
    cases vo <;> (try (cases vi <;> cases h'; done)) <;> cases vi <;> (try (cases h'; done))
    case fl.int vs k =>
      obtain ⟨x, cs, n, rfl, d, v1, hl⟩ := ho.fl_inv
      obtain ⟨t, rfl⟩ := hv.int_inv
      obtain ⟨hw, rfl⟩ := newl h'
      refine slice_list_snd R (R.dat _ _ d) (by rw [v1.1]; exact hl) .none (.int k t) cutTo_pick ?_ hw
      rw [v1.1]; exact v1.take _
    case ref.int x k =>
      obtain rfl := ho.ref_inv
      obtain ⟨t, rfl⟩ := hv.int_inv
      simp only [sliceToOp] at h'
      split at h'
      case h_2 => cases h'
      rename_i vs e
      obtain ⟨cs, n, v1, g, hl⟩ := R.listAt e
      obtain ⟨hw, rfl⟩ := newl h'
      refine slice_list_snd R g (by rw [v1.1]; exact hl) .none (.int k t) cutTo_pick ?_ hw
      rw [v1.1]; exact v1.take _
  · have h' : sliceFromOp H vo vi = some r := h
    cases vo <;> (try (cases vi <;> cases h'; done)) <;> cases vi <;> (try (cases h'; done))
    case ref.int x k =>
      obtain rfl := ho.ref_inv
      obtain ⟨t, rfl⟩ := hv.int_inv
      simp only [sliceFromOp] at h'
      split at h'
      case h_2 => cases h'
      rename_i vs e
      split at h'
      case isFalse => cases h'
      rename_i hk
      obtain ⟨j, rfl⟩ := Int.eq_ofNat_of_zero_le hk
      obtain ⟨cs, n, v1, g, hl⟩ := R.listAt e
      obtain ⟨hw, rfl⟩ := newl h'
      refine slice_list_snd R g (by rw [v1.1]; exact hl) (.int j t) .none (ds := cs.drop j) ?_ (v1.drop _) hw
      have := slicePick_from' cs.toArray j
      simpa using this

theorem lr_snd {a : Value} {va : V} {r : Res} (M : AOK A) (h : primOp .listRange H [va] = some r) (ha : VR D a va) (R : Rel c D O F H s) : W c A (call (.type "range") [a]) (fun rv s' => W c A (call (.type "list") [rv]) (Fin c D O F H r) s') s := by
  cases h
theorem append_snd {a b : Value} {va vb : V} {r : Res} (R : Rel c D O F H s) (ha : VR D a va) (hb : VR D b vb) (h : primOp .append H [va, vb] = some r) : W c A (call (.builtin "list.append") [a, b]) (Fin c D O F H r) s := by
  cases va <;> (try (cases h; done))
  rename_i x
  obtain rfl := ha.ref_inv
  have h' : (match H x with
    | some (.list vs) => if vs.length < lim then some (Res.upd x (.list (vs ++ [vb])) .none) else none
    | _ => none) = some r := h
  split at h'
  case h_2 => cases h'
  rename_i vs e
  split at h'
  case isFalse => cases h'
  rename_i hl
  cases h'
  obtain ⟨cs, n, v1, g, l⟩ := R.listAt e
  refine wpAny_list_append_plain (items := cs.toArray) ⟨n, g⟩ (fun h' hp hs => ?_) (by rw [List.size_toArray, v1.1]; exact lim_size l)
  obtain ⟨n', g'⟩ := hp
  exact ⟨D, .refl D, .none, R.setH (tk := s.toks) e hs (o := listObj (cs ++ [b]) n') (by rw [g']; simp [listObj]) (.list ⟨n', rfl⟩ (v1.append (.cons hb .nil)) (by simp; (first | lia | omega)))⟩
end
end Mini

end
section
set_option autoImplicit false
set_option linter.unusedVariables false
set_option linter.unusedSectionVars false
set_option linter.unusedSimpArgs false
set_option maxRecDepth 100000
namespace Mini
open PySem PySem.SeqAt
open AutoSeq1 (wpAny_loadPart')

section
variable {c : Cx} {mg : Str → Option Value} {G : List String} {A : Around} {D O : OM} {F : FM} {H : MH} {s : Shared}
theorem findIdx_inv {α : Type} {p : α → Bool} : ∀ {l : List α} {j : Nat}, l.findIdx? p = some j → ∃ h : j < l.length, p l[j] = true ∧ ∀ m (hm : m < l.length), m < j → p l[m] = false := fun {l j} h => by
  obtain ⟨h1, h2, h3⟩ := List.findIdx?_eq_some_iff_getElem.mp h
  exact ⟨h1, h2, fun m hm hj => by simpa using h3 m hj⟩
noncomputable def TupIx (va : V) (id : String) : Prop := False
theorem index_snd {va vx : V} {a x : Value} {r : Res} {id : String} (M : Room A) (R : Rel c D O F H s) (ha : VR D a va) (hx : VR D x vx) (h : primOp .index H [va, vx] = some r) (hid : TupIx va id ∨ (∃ y us, va = .ref y ∧ H y = some (.list us) ∧ id = "list.index")) : W c A (call (.builtin id) [a, x]) (Fin c D O F H r) s := by
  have h' : (indexOp H va vx).map Res.val = some r := h
  obtain ⟨u, e0, rfl⟩ := Option.map_eq_some_iff.mp h'
  unfold indexOp at e0
  split at e0
  case h_2 => cases e0
  rename_i vs ei
  split at e0
  case h_2 => cases e0
  rename_i d ds e1 e2
  obtain ⟨j', ej', rfl⟩ := Option.map_eq_some_iff.mp e0
  obtain ⟨j, ej, hj'⟩ := Option.bind_eq_some_iff.mp ej'
  cases hj'
  obtain ⟨⟨as, r1⟩, c1, p1⟩ := reads_of _ R hx e1
  obtain ⟨hj, hit, hno⟩ := findIdx_inv ej
  have core : ∀ {cs : List Value}, VRs D cs vs → ∃ (hjs : j < cs.toArray.size), PyData.eqv (readOf s.heap cs.toArray[j]) d = true ∧ (∀ m (hm : m < cs.toArray.size), m < j → PyData.eqv (readOf s.heap cs.toArray[m]) d = false) ∧ ∀ y, y ∈ cs.toArray → EqAt A.in1 s y x (PyData.eqv (readOf s.heap y) d) := fun {cs} hv => by
    obtain ⟨⟨bs, r2⟩, c2, p2⟩ := readsAll_of _ R _ _ _ hv e2
    have hu : A.units + 1 + min (PyData.depthAll ds) d.depth < cLine := by have := M.u; unfold lineD at p1; (first | lia | omega)
    have hm := readsAll_map ds cs bs c2 r2
    have hlen : cs.length = ds.length := by rw [← hm]; simp
    have hat : ∀ i (h : i < cs.length) (h' : i < ds.length), readOf s.heap cs[i] = ds[i] := fun i h h' => by
      have : (cs.map (readOf s.heap))[i]'(by simpa using h) = ds[i] := by simp only [hm]
      simpa using this
    refine ⟨by simpa [hlen] using hj, ?_, fun m hm' hlt => ?_, items_eqAt (vs := cs.toArray) (by simpa using r2) r1 c2 c1 hu⟩
    · simp only [List.getElem_toArray]
      rw [hat j (by (first | lia | omega)) hj]; exact hit
    · simp only [List.getElem_toArray]
      have : m < cs.length := by simpa using hm'
      rw [hat m this (by (first | lia | omega))]; exact hno m (by (first | lia | omega)) hlt
  rcases hid with h0 | ⟨y, us, rfl, ey, rfl⟩
  · exact h0.elim
  · simp only [items, ey] at ei
    cases ei
    obtain rfl := ha.ref_inv
    obtain ⟨cs, n, v1, g, hl⟩ := R.listAt ey
    obtain ⟨q1, q2, q3, q4⟩ := core v1
    refine call_meets PySem.F.slot_list_index ⟨_, g, rfl⟩ PySem.F.entry_list_index (PySem.F.args_list_index_2 _ _) (list_indexAt y cs.toArray n none #[] x (fun y => PyData.eqv (readOf s.heap y) d) j q1 (by have := v1.1; simp at q1; unfold lim at hl; (first | lia | omega)) q2 q3) ⟨g, q4, ?_⟩
    exact .valT (.int _ _) R
end
end Mini

end
section
set_option autoImplicit false
set_option linter.unusedVariables false
set_option linter.unusedSectionVars false
set_option linter.unusedSimpArgs false
set_option maxRecDepth 100000
namespace Mini
open PySem

section
variable {c : Cx} {mg : Str → Option Value} {G : List String} {A : Around}

theorem one_of {q : Prim} {H : MH} {vs : List V} {r : Res} (h : primOp q H vs = some r) (h0 : primOp q H [] = none) (h2 : ∀ v w ws, primOp q H (v :: w :: ws) = none) : ∃ v, vs = [v] := by
  cases vs with
  | nil => rw [h0] at h; cases h
  | cons v vs =>
    cases vs with
    | nil => exact ⟨v, rfl⟩
    | cons w ws => rw [h2] at h; cases h
inductive Bfn : Prim → Value → Prop
  | len : Bfn .len (.builtin "len")
  | toInt : Bfn .toInt (.type "int")
  | tupleOf : Bfn .tupleOf (.type "tuple")
  | listOf : Bfn .listOf (.type "list")
  | sorted : Bfn .sorted (.builtin "sorted")
  | min2 : Bfn .min2 (.builtin "min")
  | max2 : Bfn .max2 (.builtin "max")
  | minL : Bfn .minL (.builtin "min")
  | maxL : Bfn .maxL (.builtin "max")
  | any : Bfn .any (.builtin "any")
  | all : Bfn .all (.builtin "all")
  | dictOf : Bfn .dictOf (.type "dict")
theorem bfn_inv {q : Prim} {x : String} {fv : Value} (h : bfn q = some (x, fv)) : Bfn q fv := by
  cases q <;> cases h <;> constructor
theorem pf_bc (gl : Gl c mg G) (M : AOK A) {q : Prim} {x : String} {fv : Value} {D O : OM} {F : FM} {H : MH} {s : Shared} {cs : List Value} {vs : List V} {r : Res} (hq : bfn q = some (x, fv)) (h : primOp q H vs = some r) (hv : VRs D cs vs) (R : Rel c D O F H s) : W c A (call fv cs) (Fin c D O F H r) s := by
  have o1 : (∃ v, vs = [v]) → ∃ a v, cs = [a] ∧ vs = [v] ∧ VR D a v := fun ⟨v, e⟩ => by
    subst e
    obtain ⟨a, ds, rfl, h1, h2⟩ := hv.cons_inv
    obtain rfl := h2.nil_inv
    exact ⟨a, v, rfl, rfl, h1⟩
  have two : ∀ {i j : V}, vs = [i, j] → ∃ a b, cs = [a, b] ∧ VR D a i ∧ VR D b j := fun {i j} e => by
    subst e
    obtain ⟨a, ds, rfl, h1, h2⟩ := hv.cons_inv
    obtain ⟨b, es, rfl, h3, h4⟩ := h2.cons_inv
    obtain rfl := h4.nil_inv
    exact ⟨a, b, rfl, h1, h3⟩
  have hb := bfn_inv hq
  clear hq
  cases hb
  case len =>
    obtain ⟨a, v, rfl, rfl, h1⟩ := o1 (one_of h rfl fun v w ws => by first | rfl | (cases v <;> rfl))
    by_cases hd : ∃ y kvs, v = .ref y ∧ H y = some (.dict kvs)
    · obtain ⟨y, kvs, rfl, e⟩ := hd
      obtain rfl := h1.ref_inv
      have h' : (match H y with
        | some (.list vs) => some (Res.val (.int vs.length))
        | some (.dict kvs) => some (Res.val (.int kvs.length))
        | none => none) = some r := h
      rw [e] at h'
      cases h'
      exact len_dict_snd R trivial e
    · exact len_snd R h1 h fun y kvs e1 e2 => hd ⟨y, kvs, e1, e2⟩
  case toInt =>
    cases h
  case tupleOf =>
    obtain ⟨a, v, rfl, rfl, h1⟩ := o1 (one_of h rfl fun v w ws => by first | rfl | (cases v <;> rfl))
    exact tupleOf_snd M R h1 h
  case listOf =>
    obtain ⟨a, v, rfl, rfl, h1⟩ := o1 (one_of h rfl fun v w ws => by first | rfl | (cases v <;> rfl))
    exact listOf_snd M R h1 h
  case sorted =>
    obtain ⟨a, v, rfl, rfl, h1⟩ := o1 (one_of h rfl fun v w ws => by first | rfl | (cases v <;> rfl))
    exact sorted_snd M R h1 h
  case min2 =>
    have hi : ∃ i j, vs = [.int i, .int j] ∧ r = .val (.int (if j < i then j else i)) := by
      rcases vs with _ | ⟨x, _ | ⟨y, _ | ⟨z, zs⟩⟩⟩
      · cases h
      · first | (cases h; done) | (cases x <;> cases h; done)
      · cases x <;> (try (cases h; done)) <;> cases y <;> (try (cases h; done))
        cases h
        exact ⟨_, _, rfl, rfl⟩
      · first | (cases h; done) | (cases x <;> first | (cases h; done) | (cases y <;> cases h; done))
    obtain ⟨i, j, e, rfl⟩ := hi
    obtain ⟨a, b, rfl, h1, h2⟩ := two e
    exact min2_snd M R h1 h2
  case max2 =>
    cases h
  case minL =>
    obtain ⟨a, v, rfl, rfl, h1⟩ := o1 (one_of h rfl fun v w ws => by first | rfl | (cases v <;> rfl))
    exact minL_snd M R h1 h
  case maxL =>
    obtain ⟨a, v, rfl, rfl, h1⟩ := o1 (one_of h rfl fun v w ws => by first | rfl | (cases v <;> rfl))
    exact maxL_snd M R h1 h
  case any =>
    obtain ⟨a, v, rfl, rfl, h1⟩ := o1 (one_of h rfl fun v w ws => by first | rfl | (cases v <;> rfl))
    exact any_snd M R h1 h
  case all =>
    obtain ⟨a, v, rfl, rfl, h1⟩ := o1 (one_of h rfl fun v w ws => by first | rfl | (cases v <;> rfl))
    exact all_snd M R h1 h
  case dictOf =>
    cases h
end
end Mini

end
section
set_option autoImplicit false
set_option linter.unusedVariables false
set_option linter.unusedSectionVars false
set_option linter.unusedSimpArgs false
set_option maxRecDepth 100000
namespace Mini
open PySem

section
variable {c : Cx} {mg : Str → Option Value} {G : List String} {A : Around} {D O : OM} {F : FM} {H : MH} {s : Shared}

theorem pf_bin {op : Operator} {q : Prim} {a b : Value} {va vb : V} {r : Res} (hq : binP op = some q) (h : primOp q H [va, vb] = some r) (ha : VR D a va) (hb : VR D b vb) (R : Rel c D O F H s) : W c A (binaryOp op a b) (Fin c D O F H r) s := by
  cases op <;> cases hq
  case Add.refl => exact add_snd R ha hb h
  case Sub.refl =>
    cases va <;> (try (cases h; done)) <;> cases vb <;> (try (cases h; done))
    cases h
    exact sub_snd R ha hb
  case Mult.refl =>
    have h' : mulOp H va vb = some r := h
    cases va <;> (try (cases vb <;> cases h'; done)) <;> cases vb <;> (try (cases h'; done))
    case int.int i j =>
      simp only [mulOp] at h'
      split at h'
      · rename_i hs
        cases h'
        rw [Bool.and_eq_true] at hs
        exact mul_snd_int R ha hb hs.1 hs.2
      · cases h'
    case str.int x n =>
      simp only [mulOp] at h'
      split at h'
      · rename_i hs
        cases h'
        rw [Bool.and_eq_true, decide_eq_true_eq] at hs
        exact mul_str_snd R ha hb hs.2 hs.1
      · cases h'
  case Mod.refl =>
    cases va <;> (try (cases h; done)) <;> cases vb <;> (try (cases h; done))
    rename_i i j
    have h' : (if 0 < j then some (Res.val (.int (i % j))) else none) = some r := h
    split at h'
    · rename_i hj; cases h'; exact mod_snd R ha hb hj
    · cases h'
  case FloorDiv.refl =>
    cases va <;> (try (cases h; done)) <;> cases vb <;> (try (cases h; done))
    rename_i i j
    have h' : (if 0 < j && small j then some (Res.val (.int (i / j))) else none) = some r := h
    split at h'
    · rename_i hj; cases h'
      simp only [Bool.and_eq_true, decide_eq_true_eq] at hj
      exact fdiv_snd R ha hb hj.1 hj.2
    · cases h'

theorem rb_inv {b : Option Bool} {r : Res} (h : rb b = some r) : ∃ x, b = some x ∧ r = .val (.bool x) := by
  obtain ⟨x, e1, e2⟩ := Option.map_eq_some_iff.mp h
  exact ⟨x, e1, e2.symm⟩
theorem in_snd (gl : Gl c mg G) (M : AOK A) {a b : Value} {va vb : V} {x : Bool} (h : inOp H va vb = some x) (ha : VR D a va) (hb : VR D b vb) (R : Rel c D O F H s) :
    W c A (compareOp .In a b) (Fin c D O F H (.val (.bool x))) s ∧ W c A (compareOp .NotIn a b) (Fin c D O F H (.val (.bool (!x)))) s := by
  cases vb <;> (try (cases h; done))
  case ref l =>
    obtain rfl := hb.ref_inv
    simp only [inOp] at h
    split at h
    · rename_i vs e
      split at h
      case h_2 => cases h
      rename_i d ds e1 e2
      cases h
      obtain ⟨cs, n, v1, g, _⟩ := R.listAt e
      exact in_list_snd R M.room ha g v1 e1 e2
    · rename_i kvs e
      split at h
      · rename_i ok; cases h; exact in_dict_snd R M.room trivial ha e ok
      · cases h
    · cases h
theorem pf_cmp (gl : Gl c mg G) (M : AOK A) {op : CmpOp} {q : Prim} {a b : Value} {va vb : V} {r : Res} (hq : cmpP op = some q) (h : primOp q H [va, vb] = some r) (ha : VR D a va) (hb : VR D b vb) (R : Rel c D O F H s) : W c A (compareOp op a b) (Fin c D O F H r) s := by
  cases op <;> cases hq
  case Eq.refl => obtain ⟨x, e, rfl⟩ := rb_inv (h : rb (eqOp H va vb) = some r); exact eq_snd R M.room ha hb e
  case NotEq.refl =>
    obtain ⟨x, e, rfl⟩ := rb_inv (h : rb ((eqOp H va vb).map (!·)) = some r)
    obtain ⟨y, e2, rfl⟩ := Option.map_eq_some_iff.mp e
    exact ne_snd R M.room ha hb e2
  case Lt.refl => cases va <;> (try (cases h; done)) <;> cases vb <;> (try (cases h; done)); cases h; exact lt_snd R ha hb
  case LtE.refl => cases va <;> (try (cases h; done)) <;> cases vb <;> (try (cases h; done)); cases h; exact le_snd R ha hb
  case Gt.refl => cases va <;> (try (cases h; done)) <;> cases vb <;> (try (cases h; done)); cases h; exact gt_snd R ha hb
  case GtE.refl => cases va <;> (try (cases h; done)) <;> cases vb <;> (try (cases h; done)); cases h; exact ge_snd R ha hb
  case In.refl => obtain ⟨x, e, rfl⟩ := rb_inv (h : rb (inOp H va vb) = some r); exact (in_snd gl M e ha hb R).1
  case NotIn.refl =>
    obtain ⟨x, e, rfl⟩ := rb_inv (h : rb ((inOp H va vb).map (!·)) = some r)
    obtain ⟨y, e2, rfl⟩ := Option.map_eq_some_iff.mp e
    exact (in_snd gl M e2 ha hb R).2
theorem pf_idx (M : AOK A) {value slice : Expr} {o i : Value} {vo vi : V} {r : Res} (hs : ∀ l u p, slice ≠ .Slice l u none p) (h : primOp .idx H [vo, vi] = some r) (ho : VR D o vo) (hi : VR D i vi) (R : Rel c D O F H s) : W c A (PyProof.Rows.subscriptTail value slice o i) (Fin c D O F H r) s := by
  obtain ⟨x, e, rfl⟩ := Option.map_eq_some_iff.mp (h : (idxOp H vo vi).map .val = some r)
  by_cases hd : ∃ y kvs, vo = .ref y ∧ H y = some (.dict kvs)
  · obtain ⟨y, kvs, rfl, e2⟩ := hd
    obtain rfl := ho.ref_inv
    simp only [idxOp, e2] at e
    split at e
    · rename_i ok
      exact idx_dict_snd R M.room hi e2 ok e hs
    · cases e
  · exact idx_seq_snd R ho hi e (fun y kvs e1 e2 => hd ⟨y, kvs, e1, e2⟩) hs
theorem pf_si (M : AOK A) {o i v : Value} {vo vi vv : V} {r : Res} (h : setOp H vo vi vv = some r) (ho : VR D o vo) (hi : VR D i vi) (hv : VR D v vv) (R : Rel c D O F H s) : W c A (setItem o i v) (fun _ s' => Fin c D O F H r .none s') s := by
  cases vo <;> (try (cases h; done))
  rename_i y
  obtain rfl := ho.ref_inv
  simp only [setOp] at h
  split at h
  · rename_i vs k e
    split at h
    · rename_i hk
      cases h
      obtain ⟨t, rfl⟩ := hi.int_inv
      simp only [Bool.and_eq_true, decide_eq_true_eq] at hk
      exact (setItem_list_snd R hv e hk.1 hk.2).then fun _ s' R' => ⟨D, .refl D, .none, R'⟩
    · cases h
  · rename_i kvs k e
    split at h
    · rename_i hk
      cases h
      rw [Bool.and_eq_true, decide_eq_true_eq] at hk
      exact (setItem_dict_snd R M.room hi hv e hk.1 hk.2).then fun _ s' R' => ⟨D, .refl D, .none, R'⟩
    · cases h
  · cases h
inductive Mth : Prim → String → Prop
  | append : Mth .append "append"
  | index : Mth .index "index"
theorem meth_inv {q : Prim} {x : String} (h : methN q = some x) : Mth q x := by
  cases q <;> cases h <;> constructor
theorem pf_meth (M : AOK A) {q : Prim} {x : String} {ov : Value} {o : V} (hq : methN q = some x) (ht : (methT q H o).isSome = true) (ho : VR D ov o) (R : Rel c D O F H s) : ∃ T id, PlainAttrs T ∧ Slot T (nm x) id ∧ typeOf (.builtin id) = pure (.type "method_descriptor") ∧ s.TypeIs ov T ∧
    (∀ a, ov = .ref a → ∃ ob, s.heap.get? a = some ob ∧ ob.dict = none) ∧ ∀ {D' : OM} {H' : MH} {s' : Shared} {cs : List Value} {vs : List V} {r : Res}, OLe D D' → primOp q H' (o :: vs) = some r → VRs D' cs vs → Rel c D' O F H' s' → W c A (call (.builtin id) (ov :: cs)) (Fin c D' O F H' r) s' := by
  have lst : ∀ {y : Addr} {vs : List V}, o = .ref y → H y = some (.list vs) → s.TypeIs ov "list" ∧ (∀ a, ov = .ref a → ∃ ob, s.heap.get? a = some ob ∧ ob.dict = none) := fun {y vs} e1 e2 => by
    subst e1
    obtain rfl := ho.ref_inv
    obtain ⟨cs, n, v1, g, l⟩ := R.listAt e2
    exact ⟨⟨_, g, rfl⟩, fun a e => by cases e; exact ⟨_, g, rfl⟩⟩
  have hb := meth_inv hq
  clear hq
  cases hb
  case append =>
    cases o <;> (try (cases ht; done))
    rename_i y
    simp only [methT] at ht
    split at ht
    · rename_i vs e
      obtain ⟨t1, t2⟩ := lst rfl e
      refine ⟨"list", "list.append", PySem.F.plainAttrs_list, PySem.F.slot_list_append, type_list_append, t1, t2, fun {D' H' s' cs vs r} k h hv R' => ?_⟩
      cases vs with
      | nil => cases h
      | cons v vs =>
        cases vs with
        | cons _ _ => cases h
        | nil =>
          obtain ⟨b, ds, rfl, h1, h2⟩ := hv.cons_inv
          obtain rfl := h2.nil_inv
          exact append_snd R' (ho.mono k) h1 h
    · cases ht
  case index =>
    cases o <;> (try (cases ht; done))
    case ref y =>
      simp only [methT] at ht
      split at ht
      · rename_i vs e
        obtain ⟨t1, t2⟩ := lst rfl e
        refine ⟨"list", "list.index", PySem.F.plainAttrs_list, PySem.F.slot_list_index, PySem.F.type_list_index, t1, t2, fun {D' H' s' cs vs r} k h hv R' => ?_⟩
        cases vs with
        | nil => cases h
        | cons v vs =>
          cases vs with
          | cons _ _ => cases h
          | nil =>
            obtain ⟨b, ds, rfl, h1, h2⟩ := hv.cons_inv
            obtain rfl := h2.nil_inv
            cases q' : H' y with
            | none =>
              have h' : (indexOp H' (.ref y) v).map Res.val = some r := h
              simp [indexOp, items, q'] at h'
            | some ob =>
              cases ob with
              | dict kvs =>
                have h' : (indexOp H' (.ref y) v).map Res.val = some r := h
                simp [indexOp, items, q'] at h'
              | list us => exact index_snd M.room R' (ho.mono k) h1 h (.inr ⟨y, us, rfl, q', rfl⟩)
      · cases ht

theorem pf_all (gl : Gl c mg G) (A : Around) (M : AOK A) : PF c A where
  bc := fun h1 h2 h3 h4 => pf_bc gl M h1 h2 h3 h4
  bin := fun h1 h2 h3 h4 h5 => pf_bin h1 h2 h3 h4 h5
  cmp := fun h1 h2 h3 h4 h5 => pf_cmp gl M h1 h2 h3 h4 h5
  meth := fun h1 h2 h3 h4 => pf_meth M h1 h2 h3 h4
  idx := fun h1 h2 h3 h4 h5 => pf_idx M h1 h2 h3 h4 h5
  sl := fun h1 h2 h3 h4 => sl_snd h1 h2 h3 h4
  lr := fun h1 h2 h3 => lr_snd M h1 h2 h3
  lrev := fun h1 h2 h3 => by cases h1
  sset := fun h1 h2 h3 => sset_snd M h1 h2 h3
  si := fun h1 h2 h3 h4 h5 => pf_si M h1 h2 h3 h4 h5
  isi := fun {t a va r D O F H s} h1 h2 h3 => by
    obtain ⟨x, e, rfl⟩ := rb_inv (h1 : rb (isiOf H t va) = some r)
    exact isi_snd h3 h2 e
theorem calls_ok (gl : Gl c mg G) {tab : Tab} (ht : TabOK c mg G tab) (n : Nat) (A : Around) (l : List PySem.Env) (hst : A.frames = some l) (hA : AR A n) : CallOK (c.at l) mg A (CallN tab n) := callN_ok gl (fun l A M => pf_all (gl.at l) A M) ht n A l hst hA
end
end Mini

end
section
set_option autoImplicit false
set_option linter.unusedVariables false
set_option linter.unusedSectionVars false
set_option linter.unusedSimpArgs false
set_option maxRecDepth 100000
namespace Mini
open PySem


abbrev Ev (p : Prop) := Option (PLift p)
noncomputable def Ev.cond {r : Prop} (b : Bool) (f : b = true → Ev r) : Ev r := match b, f with
  | true, f => f rfl
  | false, _ => none
noncomputable def Ev.sure {r : Prop} (b : Bool) (f : b = true → r) : Ev r := Ev.cond b fun h => some ⟨f h⟩
noncomputable def Ev.via {p r : Prop} (a : Ev p) (f : p → r) : Ev r := match a with
  | some h => some ⟨f h.down⟩
  | none => none
noncomputable def Ev.next {p r : Prop} (a : Ev p) (f : p → Ev r) : Ev r := match a with
  | some h => f h.down
  | none => none
noncomputable def chkSrc (K : Kn) (sk : SK) (it : Expr) : Option (PSigma fun src : Expr => PLift (SrcTr K sk src it)) := match sk with
  | .plain => some ⟨it, ⟨.plain⟩⟩
  | .range => (match it with
    | .Call (.Name m _) [e] [] _ => if h : m = nm "range" ∧ gloK K "range" = true then some ⟨e, ⟨h.1 ▸ .range h.2⟩⟩ else none
    | _ => none)
  | .reversed => none
noncomputable def chkNames (K : Kn) : (xs : List String) → (es : List Expr) → Ev (TgtNames K xs es)
  | [], es => (match es with
    | [] => some ⟨.nil⟩
    | _ :: _ => none)
  | x :: xs, es => (match es with
    | .Name m _ :: es => if h : m = nm x then Ev.cond (stoK (K.lookup (nm x))) fun h2 => (chkNames K xs es).via fun h3 => h ▸ .cons h2 h3 else none
    | _ => none)
noncomputable def chkTgt (K : Kn) (tgt : List String) (isT : Bool) (te : Expr) : Ev (TgtTr K tgt isT te) := match isT with
  | false => (match tgt with
    | [x] => (match te with
      | .Name m _ => if h : m = nm x then Ev.sure (stoK (K.lookup (nm x))) fun h2 => h ▸ .one h2 else none
      | _ => none)
    | _ => none)
  | true => (match te with
    | .Tuple es _ _ => (chkNames K tgt es).via .tup
    | _ => none)
noncomputable def chkAll {G : List String} {K : Kn} (f : (x : X) → (e : Expr) → Ev (TrE G K x e)) : (xs : List X) → (es : List Expr) → Ev (TrEs G K xs es)
  | [], es => (match es with
    | [] => some ⟨.nil⟩
    | _ :: _ => none)
  | x :: xs, es => (match es with
    | e :: es => (f x e).next fun h => (chkAll f xs es).via fun h2 => .cons h h2
    | [] => none)
noncomputable def asOne : (es : List Expr) → Option { e : Expr // es = [e] }
  | [e] => some ⟨e, rfl⟩
  | _ => none
noncomputable def asCall1 : (a : Expr) → Option (PSigma fun m : Str => PSigma fun p : Pos => PSigma fun e : Expr => PSigma fun q : Pos => PLift (a = .Call (.Name m p) [e] [] q))
  | .Call (.Name m p) [e] [] q => some ⟨m, p, e, q, ⟨rfl⟩⟩
  | _ => none
noncomputable def chkTwo {G : List String} {K : Kn} (f : (x : X) → (e : Expr) → Ev (TrE G K x e)) (m : Str) (p' p : Pos) (args : List Expr) (a : X) (o i : String) {r : X} (mk : ∀ {e : Expr} {p'' q : Pos}, gloK K o = true → gloK K i = true → TrE G K a e → TrE G K r (.Call (.Name (nm o) p') [.Call (.Name (nm i) p'') [e] [] q] [] p)) : Ev (TrE G K r (.Call (.Name m p') args [] p)) :=
  match asOne args with
  | none => none
  | some ⟨b, hb⟩ => (match asCall1 b with
    | none => none
    | some ⟨m2, p'', e, q, ⟨he⟩⟩ => if h : m = nm o ∧ m2 = nm i then Ev.cond (gloK K o) fun h1 => Ev.cond (gloK K i) fun h2 => (f a e).via fun h3 => by
        obtain ⟨rfl, rfl⟩ := h
        rw [hb, he]
        exact mk h1 h2 h3
      else none)
noncomputable def chkB {G : List String} {K : Kn} (f : (x : X) → (e : Expr) → Ev (TrE G K x e)) (m : Str) (p' p : Pos) (args : List Expr) (q : Prim) (xs : List X) : Ev (TrE G K (.prim q xs) (.Call (.Name m p') args [] p)) :=
  match hb : bfn q with
  | none => none
  | some (y, _) => (match args with
    | [] => none
    | e :: es => if h : m = nm y then Ev.cond (gloK K y) fun h1 => (chkAll f xs (e :: es)).via fun h2 => h ▸ .bcall hb h1 h2 else none)
noncomputable def chkIsi {G : List String} {K : Kn} (f : (x : X) → (e : Expr) → Ev (TrE G K x e)) (m : Str) (p' p : Pos) (args : List Expr) (t : Ty) (a : X) : Ev (TrE G K (.prim (.isi t) [a]) (.Call (.Name m p') args [] p)) := match args with
  | [e, .Name m2 _] => if h : m = nm "isinstance" ∧ m2 = nm t.name then Ev.cond (gloK K "isinstance") fun h1 => Ev.cond (gloK K t.name) fun h2 => (f a e).via fun h3 => by
      obtain ⟨rfl, rfl⟩ := h
      exact .isi h1 h2 h3
    else none
  | _ => none
noncomputable def chkPrimCall {G : List String} {K : Kn} (f : (x : X) → (e : Expr) → Ev (TrE G K x e)) (m : Str) (p' p : Pos) (args : List Expr) (q : Prim) (xs : List X) : Ev (TrE G K (.prim q xs) (.Call (.Name m p') args [] p)) := match xs with
  | [a] => (match q with
    | .isi t => chkIsi f m p' p args t a
    | .listRev => chkTwo f m p' p args a "list" "reversed" .listRev
    | .sortedSet => chkTwo f m p' p args a "sorted" "set" .sortedSet
    | q => chkB f m p' p args q [a])
  | xs => chkB f m p' p args q xs
noncomputable def chkC : (c : Const) → (v : V) → Ev (∀ {G : List String} {K : Kn} {k : Nat} {p : Pos}, TrE G K (.cst v) (.Constant c k p))
  | .none, v => (match v with
    | .none => some ⟨.none⟩
    | _ => none)
  | .bool b, v => (match v with
    | .bool b' => if h : b = b' then some ⟨h ▸ .bool⟩ else none
    | _ => none)
  | .int b, v => (match v with
    | .int b' => if h : b = b' then some ⟨h ▸ .int⟩ else none
    | _ => none)
  | .str b, v => (match v with
    | .str b' => if h : b = b' ∧ b.length ≤ lim then some ⟨h.1 ▸ .str h.2⟩ else none
    | _ => none)
  | _, _ => none
noncomputable def chkP2 {G : List String} {K : Kn} (f : (x : X) → (e : Expr) → Ev (TrE G K x e)) (xs : List X) (l r : Expr) {q : Prim} {e : Expr} (mk : ∀ {a b : X}, TrE G K a l → TrE G K b r → TrE G K (.prim q [a, b]) e) : Ev (TrE G K (.prim q xs) e) := match xs with
  | [a, b] => (f a l).next fun h1 => (f b r).via fun h2 => mk h1 h2
  | _ => none
noncomputable def chkP1 {G : List String} {K : Kn} (f : (x : X) → (e : Expr) → Ev (TrE G K x e)) (xs : List X) (l : Expr) {q : Prim} {e : Expr} (mk : ∀ {a : X}, TrE G K a l → TrE G K (.prim q [a]) e) : Ev (TrE G K (.prim q xs) e) := match xs with
  | [a] => (f a l).via fun h1 => mk h1
  | _ => none
noncomputable def evBin (op : Operator) (q : Prim) : Ev (binP op = some q) := match q with
  | .add => (match op with
    | .Add => some ⟨rfl⟩
    | _ => none)
  | .sub => (match op with
    | .Sub => some ⟨rfl⟩
    | _ => none)
  | .mul => (match op with
    | .Mult => some ⟨rfl⟩
    | _ => none)
  | .mod => (match op with
    | .Mod => some ⟨rfl⟩
    | _ => none)
  | .fdiv => (match op with
    | .FloorDiv => some ⟨rfl⟩
    | _ => none)
  | _ => none
noncomputable def evCmp (op : CmpOp) (q : Prim) : Ev (cmpP op = some q) := match q with
  | .eq => (match op with
    | .Eq => some ⟨rfl⟩
    | _ => none)
  | .ne => (match op with
    | .NotEq => some ⟨rfl⟩
    | _ => none)
  | .lt => (match op with
    | .Lt => some ⟨rfl⟩
    | _ => none)
  | .le => (match op with
    | .LtE => some ⟨rfl⟩
    | _ => none)
  | .gt => (match op with
    | .Gt => some ⟨rfl⟩
    | _ => none)
  | .ge => (match op with
    | .GtE => some ⟨rfl⟩
    | _ => none)
  | .isin => (match op with
    | .In => some ⟨rfl⟩
    | _ => none)
  | .notin => (match op with
    | .NotIn => some ⟨rfl⟩
    | _ => none)
  | _ => none
noncomputable def chkCmp {G : List String} {K : Kn} (f : (x : X) → (e : Expr) → Ev (TrE G K x e)) (q : Prim) (xs : List X) (l : Expr) (op : CmpOp) (r : Expr) (p : Pos) : Ev (TrE G K (.prim q xs) (.Compare l [op] [r] p)) :=
  match evCmp op q with
  | some h => chkP2 f xs l r fun h1 h2 => .cmp h.down h1 h2
  | none => (match r with
    | .Constant .none _ _ => (match q, op with
      | _, _ => none)
    | _ => none)
noncomputable def chkSub {G : List String} {K : Kn} (f : (x : X) → (e : Expr) → Ev (TrE G K x e)) (q : Prim) (xs : List X) (l r : Expr) (p : Pos) : Ev (TrE G K (.prim q xs) (.Subscript l r p)) := match q with
  | .idx => chkP2 f xs l r fun h1 h2 => .idx h1 h2
  | .sliceTo => (match r with
    | .Slice none (some r) none _ => chkP2 f xs l r fun h1 h2 => .sliceTo h1 h2
    | _ => none)
  | .sliceFrom => (match r with
    | .Slice (some r) none none _ => chkP2 f xs l r fun h1 h2 => .sliceFrom h1 h2
    | _ => none)
  | _ => none
noncomputable def chkPrim {G : List String} {K : Kn} (f : (x : X) → (e : Expr) → Ev (TrE G K x e)) (q : Prim) (xs : List X) : (e : Expr) → Ev (TrE G K (.prim q xs) e)
  | .BinOp l op r _ => (evBin op q).next fun h => chkP2 f xs l r fun h1 h2 => .bin h h1 h2
  | .UnaryOp op e _ => (match op with
    | .USub => (match q with
      | .neg => chkP1 f xs e fun h1 => .neg h1
      | _ => none)
    | .Not => (match q with
      | .not => chkP1 f xs e fun h1 => .not h1
      | _ => none)
    | _ => none)
  | .Compare l ops rs p => (match ops with
    | [op] => (match rs with
      | [r] => chkCmp f q xs l op r p
      | _ => none)
    | _ => none)
  | .Subscript l r p => chkSub f q xs l r p
  | .Tuple es _ _ => (match q with
    | .tuple => (chkAll f xs es).via .tuple
    | _ => none)
  | .List es _ => (match q with
    | .list => (chkAll f xs es).via .list
    | _ => none)
  | .Dict ks vs _ => (match q with
    | .dict0 => (match xs with
      | [] => (match ks with
        | [] => (match vs with
          | [] => some ⟨.dict0⟩
          | _ => none)
        | _ => none)
      | _ => none)
    | .dict1 => (match ks with
      | [some l] => (match vs with
        | [r] => chkP2 f xs l r fun h1 h2 => .dict1 h1 h2
        | _ => none)
      | _ => none)
    | _ => none)
  | .Call g args kw p => (match kw with
    | [] => (match g with
      | .Name m p' => chkPrimCall f m p' p args q xs
      | _ => none)
    | _ => none)
  | _ => none
noncomputable def chkMeth {G : List String} {K : Kn} (f : (x : X) → (e : Expr) → Ev (TrE G K x e)) (q : Prim) (a : X) (xs : List X) (o : Expr) (m : Str) (p' p : Pos) (args : List Expr) : Ev (TrE G K (.meth q a xs) (.Call (.Attribute o m p') args [] p)) :=
  match hq : methN q with
  | none => none
  | some x => if h : m = nm x then Ev.cond (p'.endLine == p.line) fun h1 => (f a o).next fun h2 => (match xs with
      | [b] => (match args with
        | [e] => (f b e).via fun h3 => h ▸ .meth1 hq h1 h2 h3
        | _ => none)
      | [b, d] => (match args with
        | [e, e'] => (f b e).next fun h3 => (f d e').via fun h4 => h ▸ .meth2 hq h1 h2 h3 h4
        | _ => none)
      | _ => none)
    else none
noncomputable def chkL {G : List String} {K : Kn} (f : (K : Kn) → (x : X) → (e : Expr) → Ev (TrE G K x e)) (x : X) (e : Expr) : Ev (TrC G K x e) := match e with
  | .ListComp elt [⟨te, it, cs, 0⟩] sc _ => (match x with
    | .comp y tgt isT sk a => (match cs with
      | [] => (match chkSrc K sk it with
        | some ⟨src, ⟨hs⟩⟩ => (f K a src).next fun h1 => Ev.cond (scOK K sc) fun h2 => (chkTgt (relabelK K sc.names) tgt isT te).next fun h3 => Ev.cond (scTgt (relabelK K sc.names) tgt) fun h4 => (f (relabelK K sc.names) y elt).via fun h5 => .comp h1 hs h2 h3 h4 h5
        | none => none)
      | _ => none)
    | .compIf y tgt isT sk a z => (match cs with
      | [c] => (match chkSrc K sk it with
        | some ⟨src, ⟨hs⟩⟩ => (f K a src).next fun h1 => Ev.cond (scOK K sc) fun h2 => (chkTgt (relabelK K sc.names) tgt isT te).next fun h3 => Ev.cond (scTgt (relabelK K sc.names) tgt) fun h4 => (f (relabelK K sc.names) y elt).next fun h5 => (f (relabelK K sc.names) z c).via fun h6 => .compIf h1 hs h2 h3 h4 h5 h6
        | none => none)
      | _ => none)
    | _ => none)
  | _ => none
noncomputable def chkE (G : List String) : Nat → (K : Kn) → (x : X) → (e : Expr) → Ev (TrE G K x e)
  | 0, _, _, _ => none
  | n + 1, K, x, e => (match e with
    | .BoolOp op [e] _ => (chkE G n K x e).via .one
    | e => (match x with
      | .cst v => (match e with
        | .Constant c _ _ => (chkC c v).via fun h => h
        | _ => none)
      | .var y => (match e with
        | .Name m _ => if h : m = nm y then Ev.sure (varK (K.lookup (nm y)) && !(nm y == ("__debug__" : Str)) && !(nm y == ("__classdict__" : Str)) && !(y == ".0")) fun h2 => by
            simp only [Bool.and_eq_true, Bool.not_eq_true'] at h2
            obtain ⟨⟨⟨h3, h4⟩, h5⟩, h6⟩ := h2
            subst h
            exact .var h3 h4 h5 h6
          else none
        | _ => none)
      | .prim q xs => chkPrim (chkE G n K) q xs e
      | .and a b => (match e with
        | .BoolOp .And (e :: e' :: es) p => (chkE G n K a e).next fun h1 => (chkE G n K b (.BoolOp .And (e' :: es) p)).via fun h2 => .and h1 h2
        | _ => none)
      | .or a b => (match e with
        | .BoolOp .Or (e :: e' :: es) p => (chkE G n K a e).next fun h1 => (chkE G n K b (.BoolOp .Or (e' :: es) p)).via fun h2 => .or h1 h2
        | _ => none)
      | .call g xs => (match e with
        | .Call (.Name m _) (e :: es) [] _ => if h : m = nm g then Ev.cond (G.contains g) fun h1 => Ev.cond (gloK K g) fun h2 => (chkAll (chkE G n K) xs (e :: es)).via fun h3 => h ▸ .call h1 h2 h3 else none
        | _ => none)
      | .meth q a xs => (match e with
        | .Call (.Attribute o m p') args [] p => chkMeth (chkE G n K) q a xs o m p' p args
        | _ => none)
      | x => (chkL (fun K x e => chkE G n K x e) x e).via .lc))

mutual
noncomputable def chkS (G : List String) (n : Nat) (K : Kn) : (x : S) → (s : Stmt) → Ev (TrS G K x s)
  | .asg x a, s => (match s with
    | .Assign [.Name m _] e _ => if h : m = nm x then Ev.cond (stoK (K.lookup (nm x))) fun h1 => if hc : isComp e = false then (chkE G n K a e).via fun h2 => h ▸ .asg h1 hc h2 else (chkL (fun K x e => chkE G n K x e) a e).via fun h2 => h ▸ .asgC h1 h2 else none
    | _ => none)
  | .asgT xs a, s => (match s with
    | .Assign [.Tuple es _ _] e _ => (chkNames K xs es).next fun h1 => if h : isTupE e = false then (chkE G n K a e).via fun h2 => .asgT h1 h h2 else none
    | _ => none)
  | .asgI a b d, s => (match s with
    | .Assign [.Subscript o i _] e _ => (chkE G n K a o).next fun h1 => (chkE G n K b i).next fun h2 => (chkE G n K d e).via fun h3 => .asgI h1 h2 h3
    | _ => none)
  | .ex a, s => (match s with
    | .Expr e _ => if h : isComp e = false then (chkE G n K a e).via fun h2 => .ex h h2 else none
    | _ => none)
  | .ifs a t u, s => (match s with
    | .If e t' u' _ => (chkE G n K a e).next fun h1 => (chkSs G n K t t').next fun h2 => (chkSs G n K u u').via fun h3 => .ifs h1 h2 h3
    | _ => none)
  | .for tgt isT sk a t, s => (match s with
    | .For te it t' [] _ => (match chkSrc K sk it with
      | some ⟨src, ⟨hs⟩⟩ => (chkE G n K a src).next fun h1 => (chkTgt K tgt isT te).next fun h2 => (chkSs G n K t t').via fun h3 => .for h1 hs h2 h3
      | none => none)
    | _ => none)
  | .whl a t, s => (match s with
    | .While e t' [] _ => (chkE G n K a e).next fun h1 => (chkSs G n K t t').via fun h2 => .whl h1 h2
    | _ => none)
  | .ret a, s => (match s with
    | .Return (some e) _ => (chkE G n K a e).via .ret
    | _ => none)
  | .pass, s => (match s with
    | .Pass _ => some ⟨.pass⟩
    | _ => none)
  | .raise _, s => (match s with
    | .Raise _ _ _ => some ⟨.raise⟩
    | _ => none)
  | .tryS .., _ => none
noncomputable def chkSs (G : List String) (n : Nat) (K : Kn) : (xs : List S) → (s : List Stmt) → Ev (TrSs G K xs s)
  | [], sts => (match sts with
    | [] => some ⟨.nil⟩
    | _ :: _ => none)
  | x :: xs, sts => (match sts with
    | e :: es => (chkS G n K x e).next fun h1 => (chkSs G n K xs es).via fun h2 => .cons h1 h2
    | [] => none)
end

noncomputable def chkF (G : List String) (n : Nat) (ps : List String) (body : List S) (params : Arguments) (stmts : List Stmt) (scope : Scope) : Bool :=
  params.posonlyargs.isEmpty && params.vararg.isNone && params.kwonlyargs.isEmpty && params.kw_defaults.isEmpty && params.kwarg.isNone && params.defaults.isEmpty && decide (params.args.map (·.arg) = ps.map nm) && decide ps.Nodup &&
  (ps.all fun p => scope.names.lookup (nm p) == some .local || scope.names.lookup (nm p) == some .cell) && (scope.names.all fun y => y.2 != .free) && scope.kind == .function && !scope.isCoroutine && !scope.isGenerator && (chkSs G n scope.names body stmts).isSome
theorem chkF_ok {G : List String} {n : Nat} {ps : List String} {body : List S} {params : Arguments} {stmts : List Stmt} {scope : Scope} (h : chkF G n ps body params stmts scope = true) : FnTr G ps body params stmts scope := by
  unfold chkF at h
  simp only [Bool.and_eq_true, decide_eq_true_eq, Bool.not_eq_true', beq_iff_eq] at h
  obtain ⟨⟨⟨⟨⟨⟨⟨⟨⟨⟨⟨⟨⟨h1, h2⟩, h3⟩, h4⟩, h5⟩, h6⟩, h7⟩, h8⟩, h9⟩, h10⟩, h11⟩, h12⟩, h13⟩, h14⟩ := h
  refine ⟨⟨params.args, ?_, h7⟩, h8, h9, h10, h11, h12, h13, (Option.get _ h14).down⟩
  obtain ⟨a, b, v, kw, kd, ka, df⟩ := params
  simp only [List.isEmpty_iff, Option.isNone_iff_eq_none] at h1 h2 h3 h4 h5 h6
  subst h1 h2 h3 h4 h5 h6
  rfl
end Mini

end
section
set_option autoImplicit false
set_option linter.unusedVariables false
set_option linter.unusedSectionVars false
set_option maxRecDepth 100000
namespace Mini
open PySem

noncomputable def D0 (s : Shared) : OM := fun a => s.heap.get? a
theorem rel0 {c : Cx} (hc : c.fr = []) : Rel c (D0 c.s0) (fun _ => none) (fun _ => none) (fun _ => none) c.s0 :=
  ⟨fun _ _ h => h, fun _ _ h => h, fun _ _ h => (by cases h), fun _ _ h => (by cases h), fun _ _ h => (by cases h), fun _ h => (by rcases h with ⟨_, h⟩ | ⟨_, h⟩ <;> cases h), rfl, rfl, fun e he => by rw [hc] at he; cases he⟩

theorem law_call {prog : Program} {w : World} {s₁ : Shared} {mg mb : Str → Option Value} {tab : Tab} {G : List String} {fa l : Addr} {vs : List Value} {ns : List Int} {n : Nat}
    (hst : ∃ o, s₁.heap.get? cStatics = some o) (hg : s₁.heap.Ns mainGlobals mg) (hb : s₁.heap.Ns builtinsNs mb) (hbb : ∀ x : Str, x ≠ "__name__" → mb x = bootBuiltins x) (hbl : ∀ x, x ∈ bNames → mg (nm x) = none) (hnl : s₁.heap.NoLimit) (hcl : ClsAll s₁.heap mg)
    (hfn : ∀ f, G.contains f = true → ∃ a o fd, mg (nm f) = some (.ref a) ∧ s₁.heap.get? a = some o ∧ o.data = .func fd)
    (htab : TabOK ⟨prog, w, s₁, hst, []⟩ mg G tab) (hfa : mg (nm "law") = some (.ref fa)) (hl : s₁.heap.get? l = some (listObj vs 0)) (hi : PyProof.Rows.IntsAre vs ns) (hlen : ns.length ≤ 63) (hn : n + 1 ≤ 500)
    (h : CallN tab (n + 1) "law" [.fl (ns.map .int)] (fun v _ => v = .bool true) ZF (fun _ => none)) :
    codeAny (model prog w) callerA (.call (.ref fa) ⟨[.ref l], []⟩) (fun r s' => r = .ok (.ret (.bool true)) ∧ (∀ b o, s₁.heap.get? b = some o → s'.heap.get? b = some o) ∧ s'.os = s₁.os ∧ s'.gens = s₁.gens) s₁ := by
  have gl : Gl ⟨prog, w, s₁, hst, []⟩ mg G := ⟨hg, ⟨mb, hb, hbb⟩, hbl, hnl, hcl, hfn⟩
  obtain ⟨ps, body, e, ll, w'⟩ := (h : ∃ ps body, tab.lookup "law" = some (ps, body) ∧ ps.length = [V.fl (ns.map .int)].length ∧ wpSs (CallN tab n) body (bindE ps [V.fl (ns.map .int)]) (fun _ H' => V.none = .bool true) (fun v _ => v = .bool true) ZF (fun _ => none))
  obtain ⟨a', o, params, stmts, scope, pm, code, doc, h1, h2, h3, h4, t⟩ := htab "law" ps body e
  rw [h1] at hfa
  cases hfa
  have har : ∀ env, AR (callerA.deeper env) n := fun env => ⟨rfl, by show 4 + 3 + 3 * n + 200 < cLine; unfold cLine; (first | lia | omega), by show 1 + claimMargin + 1 + n < recursionLimit; unfold claimMargin recursionLimit; (first | lia | omega)⟩
  have hvr : VRs (D0 s₁) vs (ns.map .int) := VRs_of_ints hi
  have hv : VRs (D0 s₁) [.ref l] [.fl (ns.map .int)] := .cons (.fl (o := listObj vs 0) (cs := vs) hl ⟨0, rfl⟩ (by simp; unfold lim; (first | lia | omega)) hvr.1 hvr.2) .nil
  refine codeAny_mono (call_code (c := ⟨prog, w, s₁, hst, []⟩) (Q := fun v _ => v = .bool true) (Z := ZF) gl (fun l A M => pf_all (gl.at l) A M) (CallN_mono tab n) rfl (fun env => calls_ok gl htab n _ [env] rfl (har env)) (fun env => (har env).ok) (by show 1 + claimMargin < recursionLimit; unfold claimMargin recursionLimit; (first | lia | omega)) h2 h3 h4 t ll w' hv (rel0 rfl)) fun r s' hr => ?_
  cases r with
  | error e => exact (EX.no hr).elim
  | ok fl =>
    cases fl with
    | ret v =>
      obtain ⟨D', v', H', k, hv', R', rfl⟩ := hr
      obtain rfl := hv'.bool_inv
      exact ⟨rfl, fun b o e => R'.dat _ _ (R'.base _ _ e), R'.os, R'.gens⟩
    | next => exact hr.elim
    | brk => exact hr.elim
    | cont => exact hr.elim
end Mini

end
section
set_option autoImplicit false
set_option linter.unusedVariables false
set_option maxRecDepth 100000
namespace Mini
open PySem PyProof.Rows PySem.W

noncomputable def freeChk (p : Program) (loose : List Str) (x : String) : Bool := !startupNames.contains (nm x) && !loose.contains (nm x) && !((recsOf p).map (·.name)).contains (nm x) && !((litsOf p).map (·.1)).contains (nm x) && !((clssOf p loose).map (·.name)).contains (nm x)
noncomputable def fnChk (p : Program) (G : List String) (e : String × List String × List S) : Bool := (recsOf p).any fun d => d.name == nm e.1 && chkF G 60 e.2.1 e.2.2 d.params d.body d.scope

theorem tab_ok {prog : Program} {w : World} {s₁ : Shared} {mg mb : Str → Option Value} {p : Program} {loose : List Str} {mean : ExcName → Option Value} {tab : Tab} {G : List String} (hst : ∃ o, s₁.heap.get? cStatics = some o) (T : Top p loose mean mg mb s₁.heap) (hc : ∀ e ∈ tab, fnChk p G e = true) :
    TabOK ⟨prog, w, s₁, hst, []⟩ mg G tab := fun f ps body e => by
  have hm : (f, ps, body) ∈ tab := by
    clear hc
    induction tab with
    | nil => cases e
    | cons x r ih =>
      obtain ⟨k, v⟩ := x
      rw [List.lookup_cons] at e
      cases hb : f == k with
      | true => rw [hb] at e; cases e; rw [beq_iff_eq.mp hb]; exact .head _
      | false => rw [hb] at e; exact .tail _ (ih e)
  obtain ⟨d, hd, hq⟩ := List.any_eq_true.mp (hc _ hm)
  rw [Bool.and_eq_true, beq_iff_eq] at hq
  obtain ⟨hn, hk⟩ := hq
  obtain ⟨a, o, pm, code, doc, h1, h2, h3, h4⟩ := T.fn d hd
  rw [hn] at h1 h3 h4
  exact ⟨a, o, d.params, d.body, d.scope, pm, code, doc, h1, h2, h3, h4, chkF_ok hk⟩

theorem law_top {prog : Program} {w : World} {s₁ : Shared} {mg mb : Str → Option Value} {p : Program} {loose : List Str} {mean : ExcName → Option Value} {tab : Tab} {fa l : Addr} {vs : List Value} {ns : List Int} {n : Nat} {P : Params} {cl : ClaimW} {cla : Str → Option Addr} {mean' : ExcName → Option Value} {args : List WData} {xs : List WData}
    (T : Top p loose mean mg mb s₁.heap) (hbl : bNames.all (freeChk p loose) = true) {X : List String} (hX : X.all (fun x => (recsOf p).any fun d => d.name == nm x) = true) (hc : ∀ e ∈ tab, fnChk p (tab.map (·.1) ++ X) e = true) (hfa : mg (nm "law") = some (.ref fa)) (hw : Well P s₁.heap (.ref l) (.list xs)) (hL : s₁.heap.IsList l vs.toArray) (hi : IntsAre vs ns) (hlen : ns.length ≤ 63) (hn : n + 1 ≤ 500)
    (hcl : ClsAll s₁.heap mg) (hgens : s₁.gens = #[]) (hpost : cl.post args (.bool true) args = true) (hra : ∀ k, cl.raises args k = false)
    (h : CallN tab (n + 1) "law" [.fl (ns.map .int)] (fun v _ => v = .bool true) ZF (fun _ => none)) :
    codeAny (model prog w) callerA (.call (.ref fa) ⟨[.ref l], []⟩) (GoodW cl cla mean' args s₁) s₁ := by
  have hst : ∃ o, s₁.heap.get? cStatics = some o := by
    obtain ⟨mc, ⟨o, _, _, e, _⟩, _⟩ := T.nodigits
    exact ⟨o, e⟩
  have tk := tab_ok (prog := prog) (w := w) hst T hc
  have hfn : ∀ f, (tab.map (·.1) ++ X).contains f = true → ∃ a o fd, mg (nm f) = some (.ref a) ∧ s₁.heap.get? a = some o ∧ o.data = .func fd := fun f hf => by
    obtain ⟨d, hd, hq⟩ : ∃ d, d ∈ recsOf p ∧ d.name = nm f := by
      rcases List.mem_append.mp (List.contains_iff_mem.mp hf) with hf' | hf'
      · obtain ⟨e, he, rfl⟩ := List.mem_map.mp hf'
        obtain ⟨d, hd, hq⟩ := List.any_eq_true.mp (hc e he)
        rw [Bool.and_eq_true, beq_iff_eq] at hq
        exact ⟨d, hd, hq.1⟩
      · obtain ⟨d, hd, hq⟩ := List.any_eq_true.mp (List.all_eq_true.mp hX f hf')
        exact ⟨d, hd, beq_iff_eq.mp hq⟩
    obtain ⟨a, o, pm, code, doc, h1, h2, h3, h4⟩ := T.fn d hd
    rw [hq] at h1
    exact ⟨a, o, _, h1, h2, h3⟩
  have hbl' : ∀ x, x ∈ bNames → mg (nm x) = none := fun x hx => by
    have := List.all_eq_true.mp hbl x hx
    unfold freeChk at this
    simp only [Bool.and_eq_true, Bool.not_eq_true', List.contains_eq_mem, decide_eq_false_iff_not] at this
    obtain ⟨⟨⟨⟨q1, q2⟩, q3⟩, q4⟩, q5⟩ := this
    exact T.free _ q1 q2 q3 q4 q5
  have hex : s₁.heap.get? l = some (listObj vs 0) := by
    cases hw with
    | list e _ =>
      obtain ⟨o, ho, hc, m, hd⟩ := hL
      rw [e] at ho
      cases ho
      cases hd
      exact e
  refine codeAny_mono (law_call hst T.g T.b T.builtins hbl' T.nolimit hcl hfn tk hfa hex hi hlen hn h) fun r s' hr => ?_
  obtain ⟨rfl, k, o1, o2⟩ := hr
  exact ⟨.inl ⟨.bool true, .bool true, [], rfl, hra, .bool true, hpost, fun _ => ⟨.nil, fun _ hm => nomatch hm⟩⟩, k, o1, o2.trans hgens⟩
end Mini

end
namespace Mini
open PySem
noncomputable def b_number_of : List S :=
  [.ifs (.prim .notin [.var "thing", .var "numbers"])
    [.asgI (.var "numbers") (.var "thing") (.prim .len [.var "things"]),
     .ex (.meth .append (.var "things") [.var "thing"])]
    [],
  .ret (.prim .idx [.var "numbers", .var "thing"])]
noncomputable def b_led_to : List S :=
  [.asg "found" (.prim .dict0 []),
  .for ["k"] false .range (.prim .len [.var "kept"])
    [.ifs (.prim .eq [.prim .idx [.var "kept", .var "k"], .var "mark"])
       [.for ["room"] false .plain (.var "rooms")
          [.asgI (.var "found") (.prim .idx [.prim .idx [.prim .idx [.var "machine", .cst (.int 1)], .var "room"], .var "k"]) (.cst (.bool true))]]
       []],
  .ret (.prim .tupleOf [.prim .sorted [.var "found"]])]
noncomputable def b_forgot : List S :=
  [.asg "marks" (.prim .list []),
  .for ["mark"] false .plain (.var "kept")
    [.ifs (.prim .notin [.var "mark", .var "marks"])
       [.ex (.meth .append (.var "marks") [.var "mark"])]
       []],
  .asg "groups" (.prim .list [.prim .tuple [.cst (.int 0)]]),
  .asg "numbers" (.prim .dict1 [.prim .tuple [.cst (.int 0)], .cst (.int 0)]),
  .asg "steps" (.prim .list []),
  .asg "good" (.prim .list []),
  .whl (.prim .lt [.prim .len [.var "steps"], .prim .len [.var "groups"]])
    [.asg "rooms" (.prim .idx [.var "groups", .prim .len [.var "steps"]]),
     .asg "ends" (.comp (.call "led_to" [.var "machine", .var "rooms", .var "mark", .var "kept"]) ["mark"] false .plain (.var "marks")),
     .ex (.meth .append (.var "steps") [.comp (.call "number_of" [.var "end", .var "numbers", .var "groups"]) ["end"] false .plain (.var "ends")]),
     .ex (.meth .append (.var "good") [.prim .any [.comp (.prim .idx [.prim .idx [.var "machine", .cst (.int 2)], .var "room"]) ["room"] false .plain (.var "rooms")]])],
  .ret (.prim .tuple [.prim .tupleOf [.var "marks"], .var "steps", .var "good"])]
noncomputable def b_l_draw : List S :=
  [.asgI (.var "_law_tape") (.cst (.int 0)) (.prim .add [.prim .idx [.var "_law_tape", .cst (.int 0)], .cst (.int 1)]),
  .ifs (.prim .le [.prim .idx [.var "_law_tape", .cst (.int 0)], .prim .len [.var "_law_script"]])
    [.ret (.prim .mod [.prim .idx [.var "_law_script", .prim .sub [.prim .idx [.var "_law_tape", .cst (.int 0)], .cst (.int 1)]], .var "_law_many"])]
    [],
  .asg "_law_seed" (.prim .len [.var "_law_script"]),
  .for ["_law_cell"] false .plain (.prim .sliceTo [.var "_law_script", .cst (.int 4)])
    [.asg "_law_seed" (.prim .mod [.prim .add [.prim .mul [.var "_law_seed", .cst (.int 131)], .var "_law_cell"], .cst (.int 1000003)])],
  .ret (.prim .mod [.prim .mod [.prim .mul [.prim .add [.var "_law_seed", .cst (.int 7)], .prim .add [.prim .mul [.prim .idx [.var "_law_tape", .cst (.int 0)], .prim .idx [.var "_law_tape", .cst (.int 0)]], .cst (.int 48271)]], .cst (.int 1000003)], .var "_law_many"])]
noncomputable def b_l_marks : List S :=
  [.asg "_law_signs" (.cst (.str "0123456789abcdefghijklmnopqrstuvwxyzABCDEFGHIJKLMNOPQRSTUVWXYZ")),
  .asg "_law_signs" (.prim .add [.var "_law_signs", .cst (.str "#$&'()*+,-./:;<=>?\x40[]^_{|}~! \"\\`")]),
  .asg "_law_at" (.call "_law_draw" [.var "_law_script", .var "_law_tape", .cst (.int 94)]),
  .asg "_law_step" (.prim .add [.cst (.int 1), .call "_law_draw" [.var "_law_script", .var "_law_tape", .cst (.int 23)]]),
  .ret (.comp (.prim .idx [.var "_law_signs", .prim .mod [.prim .add [.var "_law_at", .prim .mul [.var "_law_step", .var "_law_k"]], .cst (.int 94)]]) ["_law_k"] false .range (.var "_law_many"))]
noncomputable def b_l_things : List S :=
  [.asg "_law_signs" (.call "_law_marks" [.var "_law_script", .var "_law_tape", .var "_law_many"]),
  .asg "_law_way" (.call "_law_draw" [.var "_law_script", .var "_law_tape", .cst (.int 6)]),
  .ifs (.prim .eq [.var "_law_way", .cst (.int 1)])
    [.ret (.comp (.prim .tuple [.prim .idx [.var "_law_signs", .cst (.int 0)], .var "_law_k"]) ["_law_k"] false .range (.var "_law_many"))]
    [],
  .ifs (.prim .eq [.var "_law_way", .cst (.int 2)])
    [.ret (.comp (.prim .mul [.prim .idx [.var "_law_signs", .cst (.int 0)], .prim .add [.var "_law_k", .cst (.int 1)]]) ["_law_k"] false .range (.var "_law_many"))]
    [],
  .ifs (.prim .eq [.var "_law_way", .cst (.int 3)])
    [.ret (.comp (.prim .mul [.cst (.int 7), .var "_law_k"]) ["_law_k"] false .range (.var "_law_many"))]
    [],
  .ret (.var "_law_signs")]
noncomputable def b_l_machine : List S :=
  [.asg "_law_many" (.prim .add [.cst (.int 1), .call "_law_draw" [.var "_law_script", .var "_law_tape", .cst (.int 5)]]),
  .ifs (.prim .eq [.call "_law_draw" [.var "_law_script", .var "_law_tape", .cst (.int 8)], .cst (.int 3)])
    [.asg "_law_many" (.prim .add [.var "_law_many", .call "_law_draw" [.var "_law_script", .var "_law_tape", .cst (.int 6)]])]
    [],
  .asg "_law_steps" (.prim .list []),
  .asg "_law_good" (.prim .list []),
  .for ["_law_room"] false .range (.var "_law_many")
    [.asg "_law_row" (.prim .list []),
     .for ["_law_mark"] false .plain (.var "_law_marks_here")
       [.asg "_law_to" (.call "_law_draw" [.var "_law_script", .var "_law_tape", .prim .mul [.cst (.int 3), .var "_law_many"]]),
        .ifs (.prim .lt [.var "_law_to", .prim .mul [.cst (.int 2), .var "_law_many"]])
          [.ex (.meth .append (.var "_law_row") [.prim .mod [.var "_law_to", .var "_law_many"]])]
          [.ex (.meth .append (.var "_law_row") [.prim .min2 [.prim .sub [.var "_law_many", .cst (.int 1)], .prim .add [.var "_law_room", .cst (.int 1)]]])]],
     .ex (.meth .append (.var "_law_steps") [.var "_law_row"]),
     .ex (.meth .append (.var "_law_good") [.prim .eq [.call "_law_draw" [.var "_law_script", .var "_law_tape", .cst (.int 3)], .cst (.int 0)]])],
  .ret (.prim .tuple [.prim .tupleOf [.var "_law_marks_here"], .var "_law_steps", .var "_law_good"])]
noncomputable def b_l_copy : List S :=
  [.ret (.prim .tuple [.prim .idx [.var "_law_machine_here", .cst (.int 0)], .comp (.prim .listOf [.var "_law_row"]) ["_law_row"] false .plain (.prim .idx [.var "_law_machine_here", .cst (.int 1)]), .prim .listOf [.prim .idx [.var "_law_machine_here", .cst (.int 2)]]])]
noncomputable def b_l_whole : List S :=
  [.ret (.and (.prim (.isi .int) [.var "_law_found"]) (.prim .not [.prim (.isi .bool) [.var "_law_found"]]))]
noncomputable def b_l_is_machine : List S :=
  [.ifs (.or (.prim .not [.prim (.isi .tuple) [.var "_law_found"]]) (.or (.prim .ne [.prim .len [.var "_law_found"], .cst (.int 3)]) (.or (.prim .not [.prim (.isi .tuple) [.prim .idx [.var "_law_found", .cst (.int 0)]]]) (.prim .ne [.prim .idx [.var "_law_found", .cst (.int 0)], .prim .tupleOf [.var "_law_marks_here"]]))))
    [.ret (.cst (.bool false))]
    [],
  .ifs (.or (.prim .not [.prim (.isi .list) [.prim .idx [.var "_law_found", .cst (.int 1)]]]) (.or (.prim .not [.prim (.isi .list) [.prim .idx [.var "_law_found", .cst (.int 2)]]]) (.prim .ne [.prim .len [.prim .idx [.var "_law_found", .cst (.int 1)]], .prim .len [.prim .idx [.var "_law_found", .cst (.int 2)]]])))
    [.ret (.cst (.bool false))]
    [],
  .for ["_law_row"] false .plain (.prim .idx [.var "_law_found", .cst (.int 1)])
    [.ifs (.or (.prim .not [.prim (.isi .list) [.var "_law_row"]]) (.or (.prim .ne [.prim .len [.var "_law_row"], .prim .len [.prim .idx [.var "_law_found", .cst (.int 0)]]]) (.prim .not [.prim .all [.comp (.call "_law_whole" [.var "_law_room"]) ["_law_room"] false .plain (.var "_law_row")]])))
       [.ret (.cst (.bool false))]
       [],
     .ifs (.or (.prim .lt [.prim .minL [.var "_law_row"], .cst (.int 0)]) (.prim .ge [.prim .maxL [.var "_law_row"], .prim .len [.prim .idx [.var "_law_found", .cst (.int 1)]]]))
       [.ret (.cst (.bool false))]
       []],
  .ret (.and (.prim .gt [.prim .len [.prim .idx [.var "_law_found", .cst (.int 1)]], .cst (.int 0)]) (.prim .all [.comp (.prim (.isi .bool) [.var "_law_one"]) ["_law_one"] false .plain (.prim .idx [.var "_law_found", .cst (.int 2)])]))]
noncomputable def b_l_onward : List S :=
  [.asg "_law_found" (.prim .list []),
  .for ["_law_room"] false .plain (.var "_law_rooms")
    [.for ["_law_k"] false .range (.prim .len [.var "_law_kept"])
       [.ifs (.prim .eq [.prim .idx [.var "_law_kept", .var "_law_k"], .var "_law_thing"])
          [.ex (.meth .append (.var "_law_found") [.prim .idx [.prim .idx [.prim .idx [.var "_law_machine_here", .cst (.int 1)], .var "_law_room"], .var "_law_k"]])]
          []]],
  .ret (.prim .sortedSet [.var "_law_found"])]
noncomputable def b_l_forgot : List S :=
  [.asg "_law_left" (.prim .list []),
  .for ["_law_thing"] false .plain (.var "_law_kept")
    [.ifs (.prim .notin [.var "_law_thing", .var "_law_left"])
       [.ex (.meth .append (.var "_law_left") [.var "_law_thing"])]
       []],
  .asg "_law_met" (.prim .list [.prim .list [.cst (.int 0)]]),
  .asg "_law_steps" (.prim .list []),
  .whl (.prim .lt [.prim .len [.var "_law_steps"], .prim .len [.var "_law_met"]])
    [.asg "_law_rooms" (.prim .idx [.var "_law_met", .prim .len [.var "_law_steps"]]),
     .asg "_law_row" (.prim .list []),
     .for ["_law_thing"] false .plain (.var "_law_left")
       [.asg "_law_other" (.call "_law_onward" [.var "_law_machine_here", .var "_law_kept", .var "_law_rooms", .var "_law_thing"]),
        .ifs (.prim .notin [.var "_law_other", .var "_law_met"])
          [.ex (.meth .append (.var "_law_met") [.var "_law_other"])]
          [],
        .ex (.meth .append (.var "_law_row") [.meth .index (.var "_law_met") [.var "_law_other"]])],
     .ex (.meth .append (.var "_law_steps") [.var "_law_row"])],
  .asg "_law_good" (.prim .list []),
  .for ["_law_rooms"] false .plain (.var "_law_met")
    [.ex (.meth .append (.var "_law_good") [.prim .any [.comp (.prim .idx [.prim .idx [.var "_law_machine_here", .cst (.int 2)], .var "_law_room"]) ["_law_room"] false .plain (.var "_law_rooms")]])],
  .ret (.prim .tuple [.prim .tupleOf [.var "_law_left"], .var "_law_steps", .var "_law_good"])]
noncomputable def b_l_fewer : List S :=
  [.asg "_law_found" (.prim .list []),
  .for ["_law_row"] false .plain (.var "_law_steps")
    [.ex (.meth .append (.var "_law_found") [.comp (.prim .mod [.var "_law_room", .prim .len [.var "_law_steps"]]) ["_law_room"] false .plain (.var "_law_row")])],
  .ret (.var "_law_found")]
noncomputable def b_law_03 : List S :=
  [.asg "_law_tape" (.prim .list [.cst (.int 0)]),
  .asg "_law_marks_here" (.call "_law_things" [.var "_law_script", .var "_law_tape", .prim .add [.cst (.int 1), .call "_law_draw" [.var "_law_script", .var "_law_tape", .cst (.int 4)]]]),
  .asg "_law_machine_here" (.call "_law_machine" [.var "_law_script", .var "_law_tape", .var "_law_marks_here"]),
  .ifs (.prim .gt [.prim .len [.prim .idx [.var "_law_machine_here", .cst (.int 1)]], .cst (.int 8)])
    [.asg "_law_machine_here" (.prim .tuple [.prim .idx [.var "_law_machine_here", .cst (.int 0)], .call "_law_fewer" [.prim .sliceTo [.prim .idx [.var "_law_machine_here", .cst (.int 1)], .cst (.int 8)]], .prim .sliceTo [.prim .idx [.var "_law_machine_here", .cst (.int 2)], .cst (.int 8)]])]
    [],
  .asg "_law_some" (.call "_law_marks" [.var "_law_script", .var "_law_tape", .cst (.int 2)]),
  .asg "_law_things_here" (.prim .list [.prim .idx [.var "_law_some", .cst (.int 0)], .prim .idx [.var "_law_some", .cst (.int 1)], .prim .tuple [.prim .idx [.var "_law_some", .cst (.int 0)], .cst (.int 0)], .prim .tuple [.prim .idx [.var "_law_some", .cst (.int 0)], .cst (.int 1)]]),
  .asg "_law_kept" (.comp (.prim .idx [.var "_law_things_here", .call "_law_draw" [.var "_law_script", .var "_law_tape", .cst (.int 4)]]) ["_law_mark"] false .plain (.var "_law_marks_here")),
  .asg "_law_handed" (.prim .listOf [.var "_law_kept"]),
  .asg "_law_whole_here" (.call "_law_copy" [.var "_law_machine_here"]),
  .asg "_law_due" (.call "_law_forgot" [.var "_law_whole_here", .var "_law_kept"]),
  .asg "_law_found" (.call "forgot" [.var "_law_machine_here", .var "_law_handed"]),
  .ifs (.or (.prim .not [.call "_law_is_machine" [.var "_law_found", .prim .idx [.var "_law_due", .cst (.int 0)]]]) (.prim .ne [.var "_law_found", .var "_law_due"]))
    [.ret (.cst (.bool false))]
    [],
  .ex (.meth .append (.prim .idx [.prim .idx [.var "_law_found", .cst (.int 1)], .cst (.int 0)]) [.cst (.int 0)]),
  .ex (.meth .append (.prim .idx [.var "_law_found", .cst (.int 2)]) [.cst (.bool true)]),
  .ret (.and (.prim .eq [.var "_law_machine_here", .var "_law_whole_here"]) (.prim .eq [.var "_law_handed", .var "_law_kept"]))]
noncomputable def tab_03 : Tab :=
  [("number_of", ["thing", "numbers", "things"], b_number_of),
   ("led_to", ["machine", "rooms", "mark", "kept"], b_led_to),
   ("forgot", ["machine", "kept"], b_forgot),
   ("_law_draw", ["_law_script", "_law_tape", "_law_many"], b_l_draw),
   ("_law_marks", ["_law_script", "_law_tape", "_law_many"], b_l_marks),
   ("_law_things", ["_law_script", "_law_tape", "_law_many"], b_l_things),
   ("_law_machine", ["_law_script", "_law_tape", "_law_marks_here"], b_l_machine),
   ("_law_copy", ["_law_machine_here"], b_l_copy),
   ("_law_whole", ["_law_found"], b_l_whole),
   ("_law_is_machine", ["_law_found", "_law_marks_here"], b_l_is_machine),
   ("_law_onward", ["_law_machine_here", "_law_kept", "_law_rooms", "_law_thing"], b_l_onward),
   ("_law_forgot", ["_law_machine_here", "_law_kept"], b_l_forgot),
   ("_law_fewer", ["_law_steps"], b_l_fewer),
   ("law", ["_law_script"], b_law_03)]


end Mini
section
set_option autoImplicit false
namespace Mini
open PySem

noncomputable def Ext (H H' : MH) : Prop := ∀ a o, H a = some o → H' a = some o
theorem Ext.refl (H : MH) : Ext H H := fun _ _ h => h
theorem Ext.trans {H1 H2 H3 : MH} (h : Ext H1 H2) (k : Ext H2 H3) : Ext H1 H3 := fun a o e => k a o (h a o e)
theorem Ext.new {H : MH} {a : Addr} {o : Ob} (h : H a = none) : Ext H (hupd H a o) := fun b x e => by
  unfold hupd; split
  · rename_i q; rw [q, h] at e; cases e
  · exact e
@[simp] theorem hupd_eq (H : MH) (a : Addr) (o : Ob) : hupd H a o a = some o := by simp [hupd]
theorem hupd_ne {H : MH} {a b : Addr} {o : Ob} (h : b ≠ a) : hupd H a o b = H b := by simp [hupd, h]
@[simp] theorem hupd_twice (H : MH) (a : Addr) (o p : Ob) : hupd (hupd H a o) a p = hupd H a p := by funext b; unfold hupd; split <;> rfl
@[simp] theorem upd_same (ρ : Env) (x : String) (v : V) : upd ρ x v x = some v := by simp [upd]
@[simp] theorem upd_ne {ρ : Env} {x y : String} {v : V} (h : y ≠ x) : upd ρ x v y = ρ y := by simp [upd, h]

section
variable (C : CallSem) (ρ : Env) (Q : V → MH → Prop) (Z : Z0) (H : MH) (N : Env → MH → Prop) (R : V → MH → Prop)
@[simp] theorem w_cst (c : V) : wpE C (.cst c) ρ Q Z H = Q c H := by kernel_rfl
@[simp] theorem w_var (x : String) : wpE C (.var x) ρ Q Z H = ∃ v, ρ x = some v ∧ Q v H := by kernel_rfl
@[simp] theorem w_prim (p : Prim) (args : List X) : wpE C (.prim p args) ρ Q Z H = wpL C args ρ (fun vs H' => ∃ r, primOp p H' vs = some r ∧ fin Q H' r) Z H := by kernel_rfl
@[simp] theorem w_and (l r : X) : wpE C (.and l r) ρ Q Z H = wpE C l ρ (asB fun b H' => (b = true → wpE C r ρ Q Z H') ∧ (b = false → Q (.bool false) H')) Z H := by kernel_rfl
@[simp] theorem w_or (l r : X) : wpE C (.or l r) ρ Q Z H = wpE C l ρ (asB fun b H' => (b = false → wpE C r ρ Q Z H') ∧ (b = true → Q (.bool true) H')) Z H := by kernel_rfl
@[simp] theorem w_call (f : String) (args : List X) : wpE C (.call f args) ρ Q Z H = wpL C args ρ (fun vs H' => C f vs Q Z H') Z H := by kernel_rfl
@[simp] theorem w_meth (p : Prim) (o : X) (args : List X) : wpE C (.meth p o args) ρ Q Z H = wpE C o ρ (fun ov H1 => (methT p H1 ov).isSome = true ∧ wpL C args ρ (fun vs H2 => ∃ r, primOp p H2 (ov :: vs) = some r ∧ fin Q H2 r) Z H1) Z H := by kernel_rfl
theorem w_comp (elt : X) (tgt : List String) (isT : Bool) (sk : SK) (src : X) : wpE C (.comp elt tgt isT sk src) ρ Q Z H = wpE C src ρ (fun sv H1 => ∃ vs w, srcItems sk H1 sv = some (vs, w) ∧
      iterC (watch w) (fun v acc k H2 => ∃ ρ1, bindT isT tgt v ρ = some ρ1 ∧ wpE C elt ρ1 (fun ev H3 => k (acc ++ [ev]) H3) ZF H2) vs [] (doneC Q) H1) Z H := by kernel_rfl
@[simp] theorem w_nil (Q : List V → MH → Prop) : wpL C [] ρ Q Z H = Q [] H := by kernel_rfl
@[simp] theorem w_cons (e : X) (r : List X) (Q : List V → MH → Prop) : wpL C (e :: r) ρ Q Z H = wpE C e ρ (fun v H' => wpL C r ρ (fun vs H'' => Q (v :: vs) H'') Z H') Z H := by kernel_rfl
@[simp] theorem s_nil : wpSs C [] ρ N R Z H = N ρ H := by kernel_rfl
theorem s_cons (s : S) (r : List S) : wpSs C (s :: r) ρ N R Z H = wpS C s ρ (fun ρ' H' => wpSs C r ρ' N R Z H') R Z H := by kernel_rfl
@[simp] theorem s_asg (x : String) (e : X) : wpS C (.asg x e) ρ N R Z H = wpE C e ρ (fun v H' => N (upd ρ x v) H') Z H := by kernel_rfl
@[simp] theorem s_asgT (xs : List String) (e : X) : wpS C (.asgT xs e) ρ N R Z H = wpE C e ρ (fun v H' => ∃ ρ1, bindT true xs v ρ = some ρ1 ∧ N ρ1 H') Z H := by kernel_rfl
@[simp] theorem s_asgI (o i e : X) : wpS C (.asgI o i e) ρ N R Z H = wpE C e ρ (fun v H1 => wpE C o ρ (fun ov H2 => wpE C i ρ (fun iv H3 => ∃ r, setOp H3 ov iv v = some r ∧ fin (fun _ H4 => N ρ H4) H3 r) Z H2) Z H1) Z H := by kernel_rfl
@[simp] theorem s_ex (e : X) : wpS C (.ex e) ρ N R Z H = wpE C e ρ (fun v H' => isPlain v = true ∧ N ρ H') Z H := by kernel_rfl
@[simp] theorem s_ret (e : X) : wpS C (.ret e) ρ N R Z H = wpE C e ρ R Z H := by kernel_rfl
@[simp] theorem s_ifs (c : X) (t e : List S) : wpS C (.ifs c t e) ρ N R Z H = wpE C c ρ (asB fun b H' => (b = true → wpSs C t ρ N R Z H') ∧ (b = false → wpSs C e ρ N R Z H')) Z H := by kernel_rfl
theorem s_for (tgt : List String) (isT : Bool) (sk : SK) (src : X) (body : List S) : wpS C (.for tgt isT sk src body) ρ N R Z H = wpE C src ρ (fun sv H1 => ∃ vs w, srcItems sk H1 sv = some (vs, w) ∧
      iterF (watch w) (fun v ρ' k H2 => ∃ ρ1, bindT isT tgt v ρ' = some ρ1 ∧ wpSs C body ρ1 k R ZF H2) vs ρ N H1) Z H := by kernel_rfl
theorem s_whl (c : X) (body : List S) : wpS C (.whl c body) ρ N R Z H = ∃ n, iterW (fun ρ' k H1 => wpE C c ρ' (asB k) ZF H1) (fun ρ' k H2 => wpSs C body ρ' k R ZF H2) n ρ N H := by kernel_rfl
@[simp] theorem s_pass : wpS C .pass ρ N R Z H = N ρ H := by kernel_rfl
@[simp] theorem asB_bool (K : Bool → MH → Prop) (b : Bool) : asB K (.bool b) H = K b H := by simp [asB]
@[simp] theorem fin_val (v : V) : fin Q H (.val v) = Q v H := rfl
@[simp] theorem fin_new (o : Ob) : fin Q H (.new o) = ∀ a, H a = none → Q (.ref a) (hupd H a o) := rfl
@[simp] theorem fin_upd (a : Addr) (o : Ob) (v : V) : fin Q H (.upd a o v) = Q v (hupd H a o) := rfl
end

section
variable (H : MH) (a b : V) (i j : Int) (x y : Bool)
@[simp] theorem p_add : primOp .add H [.int i, .int j] = some (.val (.int (i + j))) := rfl
@[simp] theorem p_sub : primOp .sub H [.int i, .int j] = some (.val (.int (i - j))) := rfl
theorem p_mul (h : small i = true) (h' : small j = true) : primOp .mul H [.int i, .int j] = some (.val (.int (i * j))) := by
  show (if small i && small j then _ else _) = _; rw [h, h']; rfl
theorem p_mod (h : 0 < j) : primOp .mod H [.int i, .int j] = some (.val (.int (i % j))) := if_pos h
@[simp] theorem p_lt : primOp .lt H [.int i, .int j] = some (.val (.bool (decide (i < j)))) := rfl
@[simp] theorem p_le : primOp .le H [.int i, .int j] = some (.val (.bool (decide (i ≤ j)))) := rfl
@[simp] theorem p_gt : primOp .gt H [.int i, .int j] = some (.val (.bool (decide (j < i)))) := rfl
@[simp] theorem p_ge : primOp .ge H [.int i, .int j] = some (.val (.bool (decide (j ≤ i)))) := rfl
@[simp] theorem p_not : primOp .not H [.bool x] = some (.val (.bool (!x))) := rfl
@[simp] theorem p_idx : primOp .idx H [a, b] = (idxOp H a b).map .val := rfl
end
theorem call_of {tab : Tab} {n : Nat} {f : String} {ps : List String} {body : List S} {args : List V} {Q : V → MH → Prop} {Z : Z0} {H : MH} (h : tab.lookup f = some (ps, body)) (l : ps.length = args.length) (w : wpSs (CallN tab n) body (bindE ps args) (fun _ H' => Q .none H') Q Z H) :
    CallN tab (n + 1) f args Q Z H := ⟨ps, body, h, l, w⟩

noncomputable def ExtT (t : Addr) (H H' : MH) : Prop := ∀ a o, a ≠ t → H a = some o → H' a = some o
theorem ExtT.refl (t : Addr) (H : MH) : ExtT t H H := fun _ _ _ h => h
theorem ExtT.trans {t : Addr} {H1 H2 H3 : MH} (h : ExtT t H1 H2) (k : ExtT t H2 H3) : ExtT t H1 H3 := fun a o n e => k a o n (h a o n e)
theorem ExtT.upd {t : Addr} {H : MH} {o : Ob} : ExtT t H (hupd H t o) := fun b x n e => by simpa [hupd, n] using e
theorem ExtT.new {t : Addr} {H : MH} {a : Addr} {o : Ob} (h : H a = none) : ExtT t H (hupd H a o) := fun b x _ e => Ext.new h b x e
theorem Ext.toT {t : Addr} {H H' : MH} (h : Ext H H') : ExtT t H H' := fun a o _ e => h a o e
theorem ne_of_some {H : MH} {a b : Addr} {o : Ob} (ha : H a = none) (hb : H b = some o) : b ≠ a := fun e => by rw [e, ha] at hb; cases hb
theorem new_other {H : MH} {a b : Addr} {o o' : Ob} (ha : H a = none) (hb : H b = some o) : hupd H a o' b = some o := by rw [hupd_ne (ne_of_some ha hb)]; exact hb

theorem idx_list {H : MH} {a : Addr} {vs : List V} {k : Int} {j : Nat} {v : V} (h : H a = some (.list vs)) (e : pyIdx vs.length k = some j) (hv : vs[j]? = some v) : idxOp H (.ref a) (.int k) = some v := by
  simp only [idxOp, h, e, Option.bind_some, hv]
theorem pyIdx_nat {n j : Nat} (h : j < n) : pyIdx n (j : Int) = some j := by
  unfold pyIdx; rw [if_pos (by (first | lia | omega)), if_pos (by (first | lia | omega))]; simp
theorem pyIdx_pos {n : Nat} {k : Int} (h : 0 ≤ k) (h' : k < n) : pyIdx n k = some k.toNat := by
  unfold pyIdx; rw [if_pos h, if_pos h']
theorem methT_app {H : MH} {a : Addr} {vs : List V} (h : H a = some (.list vs)) : (methT .append H (.ref a)).isSome = true := by
  show (match H a with
    | some (.list _) => some "list"
    | _ => none).isSome = true
  rw [h]; rfl
theorem src_list {H : MH} {a : Addr} {vs : List V} (h : H a = some (.list vs)) : srcItems .plain H (.ref a) = some (vs, some (a, vs)) := by
  show (match H a with
    | some (.list vs) => some (vs, some (a, vs))
    | _ => none) = _
  rw [h]
theorem src_tup (H : MH) (vs : List V) : srcItems .plain H (.tup vs) = some (vs, none) := rfl
theorem src_range (H : MH) {m : Nat} (h : m ≤ lim) : srcItems .range H (.int m) = some ((List.range m).map (fun (i : Nat) => V.int i), none) := by
  show (if (decide (0 ≤ (m : Int)) && decide ((m : Int) ≤ lim)) = true then some ((List.range (m : Int).toNat).map (fun (i : Nat) => V.int i), none) else none) = _
  rw [if_pos, Int.toNat_natCast]
  rw [Bool.and_eq_true, decide_eq_true_eq, decide_eq_true_eq]
  exact ⟨Int.natCast_nonneg m, by (first | lia | omega)⟩
theorem iterF_all {w : MH → Prop} {st : V → Env → (Env → MH → Prop) → MH → Prop} {N : Env → MH → Prop} (I : List V → Env → MH → Prop) (hw : ∀ vs ρ H, I vs ρ H → w H) (hs : ∀ v vs ρ H, I (v :: vs) ρ H → st v ρ (fun ρ' H' => I vs ρ' H') H)
    (hm : ∀ v ρ k k' H, (∀ a H, k a H → k' a H) → st v ρ k H → st v ρ k' H) (hN : ∀ ρ H, I [] ρ H → N ρ H) : ∀ (vs : List V) (ρ : Env) (H : MH), I vs ρ H → iterF w st vs ρ N H
  | [], ρ, H, h => ⟨hw _ _ _ h, hN _ _ h⟩
  | v :: vs, ρ, H, h => ⟨hw _ _ _ h, hm v ρ _ _ H (fun ρ' H' h' => iterF_all I hw hs hm hN vs ρ' H' h') (hs v vs ρ H h)⟩
theorem iterC_all {w : MH → Prop} {st : V → List V → (List V → MH → Prop) → MH → Prop} {K : List V → MH → Prop} (I : List V → List V → MH → Prop) (hw : ∀ vs acc H, I vs acc H → w H) (hs : ∀ v vs acc H, I (v :: vs) acc H → st v acc (fun acc' H' => I vs acc' H') H)
    (hm : ∀ v acc k k' H, (∀ a H, k a H → k' a H) → st v acc k H → st v acc k' H) (hN : ∀ acc H, I [] acc H → K acc H) : ∀ (vs acc : List V) (H : MH), I vs acc H → iterC w st vs acc K H
  | [], acc, H, h => ⟨hw _ _ _ h, hN _ _ h⟩
  | v :: vs, acc, H, h => ⟨hw _ _ _ h, hm v acc _ _ H (fun acc' H' h' => iterC_all I hw hs hm hN vs acc' H' h') (hs v vs acc H h)⟩

noncomputable def valOf : Option Res → Option V
  | some (.val v) => some v
  | _ => none
mutual
noncomputable def pev (H : MH) (ρ : Env) : X → Option V
  | .cst c => some c
  | .var x => ρ x
  | .prim p args => (pevs H ρ args).bind fun vs => valOf (primOp p H vs)
  | .and l r => (match pev H ρ l with
    | some (.bool true) => pev H ρ r
    | some (.bool false) => some (.bool false)
    | _ => none)
  | .or l r => (match pev H ρ l with
    | some (.bool false) => pev H ρ r
    | some (.bool true) => some (.bool true)
    | _ => none)
  | .meth p o args => (match pev H ρ o with
    | some ov => if (methT p H ov).isSome then (pevs H ρ args).bind fun vs => valOf (primOp p H (ov :: vs)) else none
    | none => none)
  | _ => none
noncomputable def pevs (H : MH) (ρ : Env) : List X → Option (List V)
  | [] => some []
  | e :: r => (pev H ρ e).bind fun v => (pevs H ρ r).map fun vs => v :: vs
end
@[simp] theorem pev_cst (H : MH) (ρ : Env) (c : V) : pev H ρ (.cst c) = some c := by kernel_rfl
@[simp] theorem pev_var (H : MH) (ρ : Env) (x : String) : pev H ρ (.var x) = ρ x := by kernel_rfl
@[simp] theorem pev_prim (H : MH) (ρ : Env) (p : Prim) (as : List X) : pev H ρ (.prim p as) = (pevs H ρ as).bind fun vs => valOf (primOp p H vs) := by kernel_rfl
theorem pev_meth0 (H : MH) (ρ : Env) (p : Prim) (o : X) (as : List X) : pev H ρ (.meth p o as) = (match pev H ρ o with
    | some ov => if (methT p H ov).isSome then (pevs H ρ as).bind fun vs => valOf (primOp p H (ov :: vs)) else none
    | none => none) := by kernel_rfl
theorem pev_meth {H : MH} {ρ : Env} {p : Prim} {o : X} {as : List X} {ov : V} {vs : List V} (ho : pev H ρ o = some ov) (hm : (methT p H ov).isSome = true) (ha : pevs H ρ as = some vs) : pev H ρ (.meth p o as) = valOf (primOp p H (ov :: vs)) := by
  rw [pev_meth0, ho]
  show (if (methT p H ov).isSome then (pevs H ρ as).bind fun vs => valOf (primOp p H (ov :: vs)) else none) = _
  rw [hm, ha]; rfl
theorem pev_and (H : MH) (ρ : Env) (l r : X) : pev H ρ (.and l r) = (match pev H ρ l with
    | some (.bool true) => pev H ρ r
    | some (.bool false) => some (.bool false)
    | _ => none) := by kernel_rfl
theorem pev_or (H : MH) (ρ : Env) (l r : X) : pev H ρ (.or l r) = (match pev H ρ l with
    | some (.bool false) => pev H ρ r
    | some (.bool true) => some (.bool true)
    | _ => none) := by kernel_rfl
@[simp] theorem pevs_nil (H : MH) (ρ : Env) : pevs H ρ [] = some [] := by kernel_rfl
@[simp] theorem pevs_cons (H : MH) (ρ : Env) (e : X) (r : List X) : pevs H ρ (e :: r) = (pev H ρ e).bind fun v => (pevs H ρ r).map fun vs => v :: vs := by kernel_rfl
mutual
theorem pev_ok {C : CallSem} {ρ : Env} {Z : Z0} {H : MH} : ∀ (e : X) (v : V) (Q : V → MH → Prop), pev H ρ e = some v → Q v H → wpE C e ρ Q Z H
  | .cst c, v, Q, h, q => by rw [w_cst]; rw [pev_cst] at h; cases h; exact q
  | .var x, v, Q, h, q => by rw [w_var]; rw [pev_var] at h; exact ⟨v, h, q⟩
  | .prim p args, v, Q, h, q => by
    rw [w_prim]
    rw [pev_prim] at h
    obtain ⟨vs, e1, e2⟩ := Option.bind_eq_some_iff.mp h
    refine pevs_ok args vs _ e1 ?_
    unfold valOf at e2
    split at e2
    · rename_i u e3; cases e2; exact ⟨_, e3, q⟩
    · cases e2
  | .and l r, v, Q, h, q => by
    rw [w_and]
    rw [pev_and] at h
    split at h
    · rename_i e1; exact pev_ok l _ _ e1 (by rw [asB_bool]; exact ⟨fun _ => pev_ok r v Q h q, fun e => by cases e⟩)
    · rename_i e1; cases h; exact pev_ok l _ _ e1 (by rw [asB_bool]; exact ⟨fun e => by (cases e), fun _ => q⟩)
    · cases h
  | .or l r, v, Q, h, q => by
    rw [w_or]
    rw [pev_or] at h
    split at h
    · rename_i e1; exact pev_ok l _ _ e1 (by rw [asB_bool]; exact ⟨fun _ => pev_ok r v Q h q, fun e => by cases e⟩)
    · rename_i e1; cases h; exact pev_ok l _ _ e1 (by rw [asB_bool]; exact ⟨fun e => by (cases e), fun _ => q⟩)
    · cases h
  | .call _ _, v, Q, h, q => by cases h
  | .meth p o args, v, Q, h, q => by
    rw [w_meth]
    rw [pev_meth0] at h
    split at h
    · rename_i ov e0
      split at h
      · rename_i hm
        obtain ⟨vs, e1, e2⟩ := Option.bind_eq_some_iff.mp h
        refine pev_ok o _ _ e0 ⟨hm, pevs_ok args vs _ e1 ?_⟩
        unfold valOf at e2
        split at e2
        · rename_i u e3; cases e2; exact ⟨_, e3, q⟩
        · cases e2
      · cases h
    · cases h
  | .comp _ _ _ _ _, v, Q, h, q => by cases h
  | .compIf _ _ _ _ _ _, v, Q, h, q => by cases h
theorem pevs_ok {C : CallSem} {ρ : Env} {Z : Z0} {H : MH} : ∀ (es : List X) (vs : List V) (Q : List V → MH → Prop), pevs H ρ es = some vs → Q vs H → wpL C es ρ Q Z H
  | [], vs, Q, h, q => by rw [w_nil]; rw [pevs_nil] at h; cases h; exact q
  | e :: r, vs, Q, h, q => by
    rw [w_cons]
    rw [pevs_cons] at h
    obtain ⟨v, e1, e2⟩ := Option.bind_eq_some_iff.mp h
    obtain ⟨ws, e3, rfl⟩ := Option.map_eq_some_iff.mp e2
    exact pev_ok e v _ e1 (pevs_ok r ws _ e3 q)
end
section
variable {C : CallSem} {ρ : Env} {Q : V → MH → Prop} {Z : Z0} {H : MH} {N : Env → MH → Prop} {R : V → MH → Prop} {r : List S} {e : X} {v : V}
theorem st_set {x : String} (h : pev H ρ e = some v) (k : wpSs C r (upd ρ x v) N R Z H) : wpSs C (.asg x e :: r) ρ N R Z H := by
  rw [s_cons, s_asg]; exact pev_ok e v _ h k
theorem st_setC {x f : String} {as : List X} {vs : List V} (h : pevs H ρ as = some vs) (k : C f vs (fun v H' => wpSs C r (upd ρ x v) N R Z H') Z H) : wpSs C (.asg x (.call f as) :: r) ρ N R Z H := by
  rw [s_cons, s_asg, w_call]; exact pevs_ok as vs _ h k
theorem st_back (h : pev H ρ e = some v) (k : R v H) : wpSs C (.ret e :: r) ρ N R Z H := by
  rw [s_cons, s_ret]; exact pev_ok e v _ h k
theorem st_if {b : Bool} {t u : List S} (h : pev H ρ e = some (.bool b)) (kt : b = true → wpSs C t ρ (fun ρ' H' => wpSs C r ρ' N R Z H') R Z H) (kf : b = false → wpSs C u ρ (fun ρ' H' => wpSs C r ρ' N R Z H') R Z H) : wpSs C (.ifs e t u :: r) ρ N R Z H := by
  rw [s_cons, s_ifs]; exact pev_ok e _ _ h (by rw [asB_bool]; exact ⟨kt, kf⟩)
theorem l_pure {es : List X} {K : List V → MH → Prop} (h : pev H ρ e = some v) (k : wpL C es ρ (fun vs H' => K (v :: vs) H') Z H) : wpL C (e :: es) ρ K Z H := by
  rw [w_cons]; exact pev_ok e v _ h k
theorem i_call {f : String} {as : List X} {vs : List V} (h : pevs H ρ as = some vs) (k : C f vs Q Z H) : wpE C (.call f as) ρ Q Z H := by
  rw [w_call]; exact pevs_ok as vs _ h k
end
@[simp] theorem valOf_val (v : V) : valOf (some (.val v)) = some v := rfl
@[simp] theorem valOf_map (o : Option V) : valOf (o.map .val) = o := by cases o <;> rfl
@[simp] theorem valOf_rb (o : Option Bool) : valOf (rb o) = o.map .bool := by cases o <;> rfl
@[simp] theorem p_eq (H : MH) (a b : V) : primOp .eq H [a, b] = rb (eqOp H a b) := rfl
@[simp] theorem p_ne (H : MH) (a b : V) : primOp .ne H [a, b] = rb ((eqOp H a b).map (!·)) := rfl
@[simp] theorem p_isin (H : MH) (a b : V) : primOp .isin H [a, b] = rb (inOp H a b) := rfl
@[simp] theorem p_notin (H : MH) (a b : V) : primOp .notin H [a, b] = rb ((inOp H a b).map (!·)) := rfl
@[simp] theorem p_neg (H : MH) (i : Int) : primOp .neg H [.int i] = some (.val (.int (-i))) := rfl
@[simp] theorem p_lenS (H : MH) (x : Str) : primOp .len H [.str x] = some (.val (.int x.length)) := rfl
@[simp] theorem p_lenT (H : MH) (vs : List V) : primOp .len H [.tup vs] = some (.val (.int vs.length)) := rfl
@[simp] theorem p_lenF (H : MH) (vs : List V) : primOp .len H [.fl vs] = some (.val (.int vs.length)) := rfl
theorem p_lenL {H : MH} {a : Addr} {vs : List V} (h : H a = some (.list vs)) : primOp .len H [.ref a] = some (.val (.int vs.length)) := by
  show (match H a with
      | some (.list vs) => some (Res.val (.int vs.length))
      | some (.dict kvs) => some (.val (.int kvs.length))
      | none => none) = _
  rw [h]
@[simp] theorem p_tuple (H : MH) (vs : List V) : primOp .tuple H vs = valT vs := by cases vs <;> rfl
@[simp] theorem p_list (H : MH) (vs : List V) : primOp .list H vs = newL vs := by cases vs <;> rfl
@[simp] theorem p_isi (H : MH) (t : Ty) (a : V) : primOp (.isi t) H [a] = rb (isiOf H t a) := rfl
@[simp] theorem p_addS (H : MH) (x y : Str) : primOp .add H [.str x, .str y] = valS (x ++ y) := rfl
@[simp] theorem idx_tup (H : MH) (vs : List V) (k : Int) : idxOp H (.tup vs) (.int k) = (pyIdx vs.length k).bind (vs[·]?) := rfl
@[simp] theorem idx_fl (H : MH) (vs : List V) (k : Int) : idxOp H (.fl vs) (.int k) = (pyIdx vs.length k).bind (vs[·]?) := rfl
theorem idx_dict {H : MH} {a : Addr} {kvs : List (V × V)} {k : V} (h : H a = some (.dict kvs)) (ok : dOK kvs k = true) : idxOp H (.ref a) k = dfind kvs k := by
  cases k <;> simp only [idxOp, h, ok, if_true]

section
variable {C : CallSem} {ρ : Env} {Q : V → MH → Prop} {Z : Z0} {H : MH} {N : Env → MH → Prop} {R : V → MH → Prop} {r : List S}
theorem st_forG (hC : MonoC C) {tgt : List String} {isT : Bool} {sk : SK} {src : X} {body : List S}
    (h : wpE C src ρ (fun sv H1 => ∃ vs w, srcItems sk H1 sv = some (vs, w) ∧ ∃ I : List V → Env → MH → Prop, I vs ρ H1 ∧ (∀ vs ρ' H', I vs ρ' H' → watch w H') ∧
      (∀ v vs ρ' H', I (v :: vs) ρ' H' → ∃ ρ1, bindT isT tgt v ρ' = some ρ1 ∧ wpSs C body ρ1 (fun ρ2 H2 => I vs ρ2 H2) R ZF H') ∧ ∀ ρ' H', I [] ρ' H' → wpSs C r ρ' N R Z H') Z H) : wpSs C (.for tgt isT sk src body :: r) ρ N R Z H := by
  rw [s_cons, s_for]
  refine wpE_mono hC h (fun sv H1 hh => ?_) fun _ _ z => z
  obtain ⟨vs, w, e, I, h0, hw, hs, hN⟩ := hh
  exact ⟨vs, w, e, iterF_all I hw hs (fun v ρ' k k' H' kk hh => let ⟨ρ1, e, x⟩ := hh; ⟨ρ1, e, wpSs_mono hC x kk (fun _ _ z => z) fun _ _ z => z⟩) hN vs ρ H1 h0⟩
theorem i_compG (hC : MonoC C) {elt : X} {tgt : List String} {isT : Bool} {sk : SK} {src : X}
    (h : wpE C src ρ (fun sv H1 => ∃ vs w, srcItems sk H1 sv = some (vs, w) ∧ ∃ I : List V → List V → MH → Prop, I vs [] H1 ∧ (∀ vs acc H', I vs acc H' → watch w H') ∧
      (∀ v vs acc H', I (v :: vs) acc H' → ∃ ρ1, bindT isT tgt v ρ = some ρ1 ∧ wpE C elt ρ1 (fun ev H2 => I vs (acc ++ [ev]) H2) ZF H') ∧ ∀ acc H', I [] acc H' → doneC Q acc H') Z H) : wpE C (.comp elt tgt isT sk src) ρ Q Z H := by
  rw [w_comp]
  refine wpE_mono hC h (fun sv H1 hh => ?_) fun _ _ z => z
  obtain ⟨vs, w, e, I, h0, hw, hs, hN⟩ := hh
  exact ⟨vs, w, e, iterC_all I hw hs (fun v acc k k' H' kk hh => let ⟨ρ1, e, x⟩ := hh; ⟨ρ1, e, wpE_mono hC x (fun _ _ z => kk _ _ z) fun _ _ z => z⟩) hN vs [] H1 h0⟩
theorem st_whlG (hC : MonoC C) {c : X} {body : List S} (I : Nat → Env → MH → Prop) (n : Nat) (h0 : I n ρ H)
    (hs : ∀ n ρ' H', I n ρ' H' → ∃ b, pev H' ρ' c = some (.bool b) ∧ (b = true → wpSs C body ρ' (fun ρ2 H2 => ∃ m, m < n ∧ I m ρ2 H2) R ZF H') ∧ (b = false → wpSs C r ρ' N R Z H')) : wpSs C (.whl c body :: r) ρ N R Z H := by
  rw [s_cons, s_whl]
  have gen : ∀ k n ρ' H', n < k → I n ρ' H' → iterW (fun ρ' k H1 => wpE C c ρ' (asB k) ZF H1) (fun ρ' k H2 => wpSs C body ρ' k R ZF H2) k ρ' (fun ρ' H' => wpSs C r ρ' N R Z H') H' := by
    intro k
    induction k with
    | zero => intro n _ _ h; (first | lia | omega)
    | succ k ih =>
      intro n ρ' H' hn hI
      obtain ⟨b, e, ht, hf⟩ := hs n ρ' H' hI
      refine pev_ok c _ _ e ?_
      rw [asB_bool]
      exact ⟨fun hb => wpSs_mono hC (ht hb) (fun ρ2 H2 ⟨m, hm, hI2⟩ => ih m ρ2 H2 (by (first | lia | omega)) hI2) (fun _ _ z => z) fun _ _ z => z, hf⟩
  exact ⟨n + 1, gen (n + 1) n ρ H (Nat.lt_succ_self n) h0⟩
end
end Mini

end
section
set_option autoImplicit false
set_option linter.unusedVariables false
set_option linter.unusedSimpArgs false
set_option maxRecDepth 100000
namespace Mini
open PySem

theorem small_of {i : Int} (h : i.natAbs < 1000000000000000000) : small i = true := decide_eq_true h
theorem small_le {i : Int} (h1 : -1000000000000000 ≤ i) (h2 : i ≤ 1000000000000000) : small i = true := small_of (by (first | lia | omega))

theorem draw_spec {tab : Tab} {n : Nat} (hd : tab.lookup "_law_draw" = some (["_law_script", "_law_tape", "_law_many"], b_l_draw)) {ns : List Int} {t : Addr} {m k : Int} {Q : V → MH → Prop} {Z : Z0} {H : MH} (hk : H t = some (.list [.int k])) (h0 : 0 ≤ k) (hb : k < 1000000) (hm : 0 < m) (hn : ns.length ≤ 63)
    (hQ : ∀ r H', 0 ≤ r → r < m → ExtT t H H' → H' t = some (.list [.int (k + 1)]) → Q (.int r) H') : CallN tab (n + 1) "_law_draw" [.fl (ns.map .int), .ref t, .int m] Q Z H := by
  refine call_of hd rfl ?_
  have hC := CallN_mono tab n
  generalize CallN tab n = C at hC
  have tp : ∀ {H1 : MH} {j : Int}, H1 t = some (.list [.int j]) → idxOp H1 (.ref t) (.int 0) = some (.int j) := fun h => idx_list h (pyIdx_nat (j := 0) (by simp)) rfl
  unfold b_l_draw
  rw [s_cons, s_asgI]
  refine pev_ok _ (.int (k + 1)) _ (by simp [bindE, List.lookup, tp hk]) ?_
  refine pev_ok _ (.ref t) _ (by simp [bindE, List.lookup]) (pev_ok _ (.int 0) _ rfl ?_)
  refine ⟨_, by simp only [setOp, hk]; rfl, ?_⟩
  rw [fin_upd]
  generalize hH1 : hupd H t (.list ([V.int k].set (Int.toNat 0) (.int (k + 1)))) = H1
  have hk1 : H1 t = some (.list [.int (k + 1)]) := by rw [← hH1]; simp
  have e1 : ExtT t H H1 := by rw [← hH1]; exact .upd
  clear hH1
  refine st_if (b := decide (k + 1 ≤ (ns.length : Int))) (by simp [bindE, List.lookup, tp hk1]) (fun hle => ?_) fun hgt => ?_
  · have hle' : k + 1 ≤ (ns.length : Int) := by simpa using hle
    have hkl : k.toNat < ns.length := by (first | lia | omega)
    refine st_back (v := .int (ns[k.toNat] % m)) ?_ ?_
    · have e : k + 1 - 1 = k := by (first | lia | omega)
      simp [bindE, List.lookup, tp hk1, e, pyIdx_pos h0 (by simp; (first | lia | omega) : k < ((ns.map V.int).length : Int)), pyIdx_pos h0 (by (first | lia | omega) : k < (ns.length : Int)), hkl, p_mod _ _ _ hm]
    · exact hQ _ _ (Int.emod_nonneg _ (by (first | lia | omega))) (Int.emod_lt_of_pos _ hm) e1 hk1
  rw [s_nil]
  refine st_set (v := .int ns.length) (by simp [bindE, List.lookup]) ?_
  refine st_forG hC ?_
  rw [w_prim]
  refine pevs_ok _ [.fl (ns.map .int), .int 4] _ (by simp [bindE, List.lookup, upd]) ?_
  refine ⟨.new (.list ((ns.map V.int).take 4)), ?_, ?_⟩
  · show newL ((ns.map V.int).take (cutTo (ns.map V.int).length 4)) = _
    have : cutTo (ns.map V.int).length 4 = 4 := by unfold cutTo; rw [if_pos (by (first | lia | omega))]; rfl
    rw [this]
    unfold newL
    rw [if_pos]; simp; unfold lim; (first | lia | omega)
  rw [fin_new]
  intro b hb1
  have hk2 : hupd H1 b (.list ((ns.map V.int).take 4)) t = some (.list [.int (k + 1)]) := new_other hb1 hk1
  have hb2 : hupd H1 b (.list ((ns.map V.int).take 4)) b = some (.list ((ns.map V.int).take 4)) := hupd_eq ..
  have e2 : ExtT t H (hupd H1 b (.list ((ns.map V.int).take 4))) := e1.trans (.new hb1)
  refine ⟨(ns.map V.int).take 4, some (b, (ns.map V.int).take 4), src_list (hupd_eq ..), ?_⟩
  generalize hupd H1 b (.list ((ns.map V.int).take 4)) = H2 at hk2 hb2 e2
  refine ⟨fun vs ρ H' => H' = H2 ∧ (∀ v ∈ vs, ∃ i, v = .int i) ∧ ρ "_law_tape" = some (.ref t) ∧ ρ "_law_many" = some (.int m) ∧ ∃ sd : Int, 0 ≤ sd ∧ sd < 1000003 ∧ ρ "_law_seed" = some (.int sd), ?_, ?_, ?_, ?_⟩
  · refine ⟨rfl, fun v hv => ?_, by simp [bindE, List.lookup, upd], by simp [bindE, List.lookup, upd], ns.length, by (first | lia | omega), by (first | lia | omega), by simp [upd]⟩
    obtain ⟨i, _, e⟩ := List.mem_map.mp (List.mem_of_mem_take hv); exact ⟨i, e.symm⟩
  · rintro vs ρ H' ⟨rfl, _⟩; exact hb2
  · rintro v vs ρ H' ⟨rfl, hv, r1, r2, sd, s1, s2, s3⟩
    obtain ⟨i, rfl⟩ := hv v (.head _)
    refine ⟨_, rfl, ?_⟩
    refine st_set (v := .int ((sd * 131 + i) % 1000003)) ?_ ?_
    · simp [upd, s3, p_mul _ _ _ (small_le (i := sd) (by (first | lia | omega)) (by (first | lia | omega))) (by decide : small 131 = true), p_mod]
    · rw [s_nil]
      exact ⟨rfl, fun v hv' => hv v (.tail _ hv'), by simp [upd, r1], by simp [upd, r2], (sd * 131 + i) % 1000003, Int.emod_nonneg _ (by decide), Int.emod_lt_of_pos _ (by decide), by simp [upd]⟩
  · rintro ρ H' ⟨rfl, _, r1, r2, sd, s1, s2, s3⟩
    have hq : 0 ≤ (k + 1) * (k + 1) ∧ (k + 1) * (k + 1) ≤ 1000000000000 := by
      constructor
      · exact Int.mul_nonneg (by (first | lia | omega)) (by (first | lia | omega))
      · have := Int.mul_le_mul (show k + 1 ≤ 1000000 by (first | lia | omega)) (show k + 1 ≤ 1000000 by (first | lia | omega)) (by (first | lia | omega)) (by decide)
        (first | lia | omega)
    refine st_back (v := .int ((sd + 7) * ((k + 1) * (k + 1) + 48271) % 1000003 % m)) ?_ ?_
    · simp [r1, r2, s3, tp hk2, p_mul _ _ _ (small_le (i := k + 1) (by (first | lia | omega)) (by (first | lia | omega))) (small_le (i := k + 1) (by (first | lia | omega)) (by (first | lia | omega))), p_mul _ _ _ (small_le (i := sd + 7) (by (first | lia | omega)) (by (first | lia | omega))) (small_le (i := (k + 1) * (k + 1) + 48271) (by (first | lia | omega)) (by (first | lia | omega))), p_mod _ _ _ hm, p_mod]
    · exact hQ _ _ (Int.emod_nonneg _ (by (first | lia | omega))) (Int.emod_lt_of_pos _ hm) e2 hk2
end Mini

end
section
set_option autoImplicit false
set_option linter.unusedVariables false
set_option linter.unusedSimpArgs false
set_option maxRecDepth 100000
namespace Mini
open PySem

abbrev okS (x : Str) : Prop := PyData.strOk x = true
theorem eqv_str (a b : Str) : PyData.eqv (.str a) (.str b) = (a == b) := by kernel_rfl
theorem eqv_int (a b : Int) : PyData.eqv (.int a) (.int b) = (a == b) := by kernel_rfl
theorem eqOp_of {H : MH} {a b : V} {x y : PyData} (h : toD lineD H a = some x) (k : toD lineD H b = some y) : eqOp H a b = some (PyData.eqv x y) := by
  unfold eqOp; rw [h, k]
theorem eq_int {H : MH} {a b : Int} : eqOp H (.int a) (.int b) = some (a == b) := by kernel_rfl
theorem mapO_cons1 {α β : Type} {f : α → Option β} {a : α} {l : List α} {b : β} {m : List β} (h : f a = some b) (k : mapO f l = some m) : mapO f (a :: l) = some (b :: m) := by
  show (match f a, mapO f l with
    | some b, some t => some (b :: t)
    | _, _ => Option.none) = _
  rw [h, k]
theorem inOp_list {H : MH} {a : Addr} {vs : List V} {x : V} {d : PyData} {ds : List PyData} (h : H a = some (.list vs)) (e1 : toD lineD H x = some d) (e2 : mapO (toD lineD H) vs = some ds) : inOp H x (.ref a) = some (ds.any fun y => PyData.eqv y d) := by
  show (match H a with
    | some (.list vs) => (match toD lineD H x, mapO (toD lineD H) vs with
      | some d, some ds => some (ds.any fun y => PyData.eqv y d)
      | _, _ => Option.none)
    | some (.dict kvs) => if dOK kvs x then some (dfind kvs x).isSome else Option.none
    | _ => Option.none) = _
  rw [h]
  show (match toD lineD H x, mapO (toD lineD H) vs with
      | some d, some ds => some (ds.any fun y => PyData.eqv y d)
      | _, _ => Option.none) = _
  rw [e1, e2]
noncomputable def subs : Nat → List (List Int)
  | 0 => [[]]
  | n + 1 => subs n ++ (subs n).map (· ++ [(n : Int)])
theorem subs_len (n : Nat) : (subs n).length = 2 ^ n := by
  induction n with
  | zero => rfl
  | succ n ih => simp [subs, ih, Nat.pow_succ]; (first | lia | omega)
theorem newL_ok {vs : List V} (h : vs.length ≤ lim) : newL vs = some (.new (.list vs)) := if_pos h
theorem valT_ok {vs : List V} (h : vs.length ≤ lim) : valT vs = some (.val (.tup vs)) := if_pos h
theorem valS_ok {x : Str} (h : x.length ≤ lim) : valS x = some (.val (.str x)) := if_pos h

end Mini

end
section
set_option autoImplicit false
set_option linter.unusedVariables false
set_option linter.unusedSimpArgs false
set_option maxRecDepth 100000
namespace Mini
open PySem

section
variable {C : CallSem} {ρ : Env} {Q : V → MH → Prop} {Z : Z0} {H : MH} {N : Env → MH → Prop} {R : V → MH → Prop} {r t : List S} {e : X}
end

theorem idx_str {H : MH} {w : Str} {i : Nat} (h : i < w.length) : idxOp H (.str w) (.int i) = some (.str ⟨#[w.cps[i]'h]⟩) := by
  have h' : i < w.cps.size := h
  simp only [idxOp, pyIdx_nat h, Option.bind_some, Array.getElem?_eq_getElem h', Option.map_some]
  rfl
end Mini

end
section
set_option autoImplicit false
set_option linter.unusedVariables false
set_option linter.unusedSimpArgs false
set_option maxRecDepth 100000
namespace Mini
open PySem

abbrev DrawTab (tab : Tab) : Prop := tab.lookup "_law_draw" = some (["_law_script", "_law_tape", "_law_many"], b_l_draw)
structure Tape (t : Addr) (k : Int) (H : MH) : Prop where
  at' : H t = some (.list [.int k])
  lo : 0 ≤ k
  hi : k < 1000000

theorem draw_e {tab : Tab} {n : Nat} (hd : DrawTab tab) {ns : List Int} (hn : ns.length ≤ 63) {ρ : Env} {t : Addr} {m k : Int} {Q : V → MH → Prop} {Z : Z0} {H : MH} (rs : ρ "_law_script" = some (.fl (ns.map .int))) (rt : ρ "_law_tape" = some (.ref t)) (ht : Tape t k H) (hm : 0 < m)
    (hQ : ∀ r H', 0 ≤ r → r < m → ExtT t H H' → H' t = some (.list [.int (k + 1)]) → Q (.int r) H') : wpE (CallN tab (n + 1)) (.call "_law_draw" [.var "_law_script", .var "_law_tape", .cst (.int m)]) ρ Q Z H :=
  i_call (vs := [.fl (ns.map .int), .ref t, .int m]) (by simp [rs, rt]) (draw_spec hd ht.at' ht.lo ht.hi hm hn hQ)

theorem Tape.next {t : Addr} {k : Int} {H H' : MH} (h : Tape t k H) (e : H' t = some (.list [.int (k + 1)])) (hb : k + 1 < 1000000) : Tape t (k + 1) H' := ⟨e, by have := h.lo; (first | lia | omega), hb⟩
end Mini

end
section
set_option autoImplicit false
set_option linter.unusedVariables false
set_option linter.unusedSimpArgs false
set_option maxRecDepth 100000
namespace Mini
open PySem

theorem okS_append {a b : Str} (ha : okS a) (hb : okS b) : okS (a ++ b) := by
  have e : (a ++ b).cps = a.cps ++ b.cps := rfl
  unfold okS PyData.strOk at *
  rw [e, Array.all_append, ha, hb]; rfl
theorem okS_char {x : Str} (h : okS x) : ∀ c ∈ x.cps.toList, okS ⟨#[c]⟩ := fun c hc => by
  unfold okS PyData.strOk at *
  rw [Array.all_eq_true_iff_forall_mem] at h
  have := h c (Array.mem_toList_iff.mp hc)
  simpa using this
theorem slen (a b : Str) : (a ++ b).length = a.length + b.length := Array.size_append
noncomputable def sgn : Str := ("0123456789abcdefghijklmnopqrstuvwxyzABCDEFGHIJKLMNOPQRSTUVWXYZ" : Str) ++ ("#$&'()*+,-./:;<=>?\x40[]^_{|}~! \"\\`" : Str)
theorem sgn_len : sgn.length = 94 := by decide +kernel
theorem sgn_ok : okS sgn := by decide +kernel
abbrev MarksTab (tab : Tab) : Prop := tab.lookup "_law_marks" = some (["_law_script", "_law_tape", "_law_many"], b_l_marks)
noncomputable def Signs (ms : List Str) : Prop := ∀ x ∈ ms, okS x ∧ x.length = 1

theorem ints_ok : ∀ (l : List Int), ints? (l.map .int) = some l
  | [] => rfl
  | x :: r => by have := ints_ok r; simp [ints?, mapO] at this ⊢; rw [this]
end Mini

end
section
set_option autoImplicit false
set_option linter.unusedVariables false
set_option linter.unusedSimpArgs false
set_option maxRecDepth 100000
namespace Mini
open PySem

section
variable {C : CallSem} {ρ : Env} {Q : V → MH → Prop} {Z : Z0} {H : MH} {N : Env → MH → Prop} {R : V → MH → Prop} {r : List S}
theorem drop_cons {vs us : List V} {u : V} {i : Nat} (h : u :: us = vs.drop i) : ∃ hi : i < vs.length, u = vs[i] ∧ us = vs.drop (i + 1) := by
  rcases Nat.lt_or_ge i vs.length with hi | hi
  · rw [List.drop_eq_getElem_cons hi] at h
    obtain ⟨a, b⟩ := List.cons.inj h
    exact ⟨hi, a, b⟩
  · rw [List.drop_of_length_le hi] at h; cases h
theorem drop_nil {vs : List V} {i : Nat} (h : [] = vs.drop i) (hi : i ≤ vs.length) : i = vs.length := by
  rcases Nat.lt_or_ge i vs.length with hi | hi
  · rw [List.drop_eq_getElem_cons hi] at h; cases h
  · (first | lia | omega)
theorem st_forI (hC : MonoC C) {x : String} {sk : SK} {src : X} {body : List S} {sv : V} {vs : List V} {w : Option (Addr × List V)} (hs : pev H ρ src = some sv) (hi : srcItems sk H sv = some (vs, w)) (I : Nat → Env → MH → Prop) (h0 : I 0 ρ H) (hw : ∀ i ρ' H', I i ρ' H' → watch w H')
    (hb : ∀ i (h : i < vs.length) ρ' H', I i ρ' H' → wpSs C body (upd ρ' x vs[i]) (fun ρ2 H2 => I (i + 1) ρ2 H2) R ZF H') (hN : ∀ ρ' H', I vs.length ρ' H' → wpSs C r ρ' N R Z H') : wpSs C (.for [x] false sk src body :: r) ρ N R Z H := by
  refine st_forG hC (pev_ok _ sv _ hs ⟨vs, w, hi, fun us ρ' H' => ∃ i, i ≤ vs.length ∧ us = vs.drop i ∧ I i ρ' H', ⟨0, Nat.zero_le _, by simp, h0⟩, ?_, ?_, ?_⟩)
  · rintro us ρ' H' ⟨i, _, _, h⟩; exact hw i ρ' H' h
  · rintro u us ρ' H' ⟨i, hl, hu, h⟩
    obtain ⟨hi, rfl, rfl⟩ := drop_cons hu
    exact ⟨_, rfl, wpSs_mono hC (hb i hi ρ' H' h) (fun ρ2 H2 k => ⟨i + 1, hi, rfl, k⟩) (fun _ _ z => z) fun _ _ z => z⟩
  · rintro ρ' H' ⟨i, hl, hu, h⟩
    have := drop_nil hu hl
    subst this
    exact hN ρ' H' h
theorem i_compI (hC : MonoC C) {x : String} {sk : SK} {src elt : X} {sv : V} {vs : List V} {w : Option (Addr × List V)} (hs : pev H ρ src = some sv) (hi : srcItems sk H sv = some (vs, w)) (I : Nat → List V → MH → Prop) (h0 : I 0 [] H) (hw : ∀ i acc H', I i acc H' → watch w H')
    (hb : ∀ i (h : i < vs.length) acc H', I i acc H' → wpE C elt (upd ρ x vs[i]) (fun ev H2 => I (i + 1) (acc ++ [ev]) H2) ZF H') (hN : ∀ acc H', I vs.length acc H' → doneC Q acc H') : wpE C (.comp elt [x] false sk src) ρ Q Z H := by
  refine i_compG hC (pev_ok _ sv _ hs ⟨vs, w, hi, fun us acc H' => ∃ i, i ≤ vs.length ∧ us = vs.drop i ∧ I i acc H', ⟨0, Nat.zero_le _, by simp, h0⟩, ?_, ?_, ?_⟩)
  · rintro us ρ' H' ⟨i, _, _, h⟩; exact hw i ρ' H' h
  · rintro u us ρ' H' ⟨i, hl, hu, h⟩
    obtain ⟨hi, rfl, rfl⟩ := drop_cons hu
    exact ⟨_, rfl, wpE_mono hC (hb i hi ρ' H' h) (fun ρ2 H2 k => ⟨i + 1, hi, rfl, k⟩) (fun _ _ z => z)⟩
  · rintro ρ' H' ⟨i, hl, hu, h⟩
    have := drop_nil hu hl
    subst this
    exact hN ρ' H' h
theorem i_compP (hC : MonoC C) {α : Type} {x : String} {sk : SK} {src elt : X} {sv : V} {l : List α} {g f : α → V} {w : Option (Addr × List V)} (hs : pev H ρ src = some sv) (hi : srcItems sk H sv = some (l.map g, w)) (hw : watch w H) (hb : ∀ a ∈ l, pev H (upd ρ x (g a)) elt = some (f a)) (hl : l.length ≤ lim) (hQ : ∀ a, H a = none → Q (.ref a) (hupd H a (.list (l.map f)))) :
    wpE C (.comp elt [x] false sk src) ρ Q Z H := by
  refine i_compI hC hs hi (fun i acc H' => H' = H ∧ acc = (l.take i).map f) ⟨rfl, by simp⟩ (fun i acc H' h => by rw [h.1]; exact hw) ?_ ?_
  · rintro i h acc H' ⟨rfl, rfl⟩
    have hi' : i < l.length := by simpa using h
    refine pev_ok _ (f l[i]) _ ?_ ⟨rfl, ?_⟩
    · rw [List.getElem_map]; exact hb _ (List.getElem_mem _)
    · rw [List.take_succ_eq_append_getElem hi', List.map_append]; rfl
  · rintro acc H' ⟨rfl, rfl⟩
    rw [List.length_map, List.take_length]
    exact ⟨by rw [List.length_map]; exact hl, hQ⟩
theorem i_compE (hC : MonoC C) {α : Type} {x : String} {sk : SK} {src elt : X} {sv : V} {l : List α} {g f : α → V} {w : Option (Addr × List V)} (hs : pev H ρ src = some sv) (hi : srcItems sk H sv = some (l.map g, w)) (hw : ∀ H', Ext H H' → watch w H') (hb : ∀ a ∈ l, ∀ H', Ext H H' → wpE C elt (upd ρ x (g a)) (fun ev H2 => ev = f a ∧ Ext H' H2) ZF H') (hl : l.length ≤ lim) (hQ : ∀ a H', Ext H H' → H' a = none → Q (.ref a) (hupd H' a (.list (l.map f)))) :
    wpE C (.comp elt [x] false sk src) ρ Q Z H := by
  refine i_compI hC hs hi (fun i acc H' => Ext H H' ∧ acc = (l.take i).map f) ⟨.refl _, by simp⟩ (fun i acc H' h => hw _ h.1) ?_ ?_
  · rintro i h acc H' ⟨e, rfl⟩
    have hi' : i < l.length := by simpa using h
    have hm := List.getElem_mem hi'
    have hx : (l.map g)[i] = g l[i] := by simp
    rw [hx]
    refine wpE_mono hC (hb _ hm H' e) (fun v H2 k => ⟨e.trans k.2, ?_⟩) fun _ _ z => z
    rw [k.1, List.take_succ_eq_append_getElem hi', List.map_append]; rfl
  · rintro acc H' ⟨e, rfl⟩
    rw [List.length_map, List.take_length]
    exact ⟨by rw [List.length_map]; exact hl, fun a ha => hQ a H' e ha⟩
theorem st_app {x : String} {e : X} {a : Addr} {vs : List V} {v : V} (ho : ρ x = some (.ref a)) (h : H a = some (.list vs)) (hl : vs.length < lim) (he : wpE C e ρ (fun v H' => H' a = some (.list vs) ∧ wpSs C r ρ N R Z (hupd H' a (.list (vs ++ [v])))) Z H) (hC : MonoC C) : wpSs C (.ex (.meth .append (.var x) [e]) :: r) ρ N R Z H := by
  rw [s_cons, s_ex, w_meth]
  refine pev_ok _ (.ref a) _ (by simp [ho]) ⟨methT_app h, ?_⟩
  rw [w_cons]
  refine wpE_mono hC he (fun v H' k => ?_) fun _ _ z => z
  rw [w_nil]
  refine ⟨.upd a (.list (vs ++ [v])) .none, ?_, rfl, k.2⟩
  show (match H' a with
    | some (.list vs) => if vs.length < lim then some (Res.upd a (.list (vs ++ [v])) .none) else none
    | _ => none) = _
  rw [k.1]; simp only [hl, if_true]
theorem st_appP {x : String} {e : X} {a : Addr} {vs : List V} {v : V} (ho : ρ x = some (.ref a)) (h : H a = some (.list vs)) (hl : vs.length < lim) (he : pev H ρ e = some v) (hk : wpSs C r ρ N R Z (hupd H a (.list (vs ++ [v])))) (hC : MonoC C) : wpSs C (.ex (.meth .append (.var x) [e]) :: r) ρ N R Z H :=
  st_app ho h hl (v := v) (pev_ok _ _ _ he ⟨h, hk⟩) hC
theorem st_new {x : String} {es : List X} {vs : List V} (h : pevs H ρ es = some vs) (hl : vs.length ≤ lim) (hk : ∀ a, H a = none → wpSs C r (upd ρ x (.ref a)) N R Z (hupd H a (.list vs))) : wpSs C (.asg x (.prim .list es) :: r) ρ N R Z H := by
  rw [s_cons, s_asg, w_prim]
  refine pevs_ok _ vs _ h ⟨_, by rw [p_list]; exact newL_ok hl, ?_⟩
  rw [fin_new]; exact hk
end
noncomputable def ExtL (L : List Addr) (H H' : MH) : Prop := ∀ a o, a ∉ L → H a = some o → H' a = some o
theorem ExtL.refl (L : List Addr) (H : MH) : ExtL L H H := fun _ _ _ h => h
theorem ExtL.trans {L : List Addr} {H1 H2 H3 : MH} (h : ExtL L H1 H2) (k : ExtL L H2 H3) : ExtL L H1 H3 := fun a o n e => k a o n (h a o n e)
theorem ExtL.upd {L : List Addr} {a : Addr} {H : MH} {o : Ob} (h : a ∈ L) : ExtL L H (hupd H a o) := fun b x n e => by
  have : b ≠ a := fun q => n (q ▸ h)
  simpa [hupd, this] using e
theorem Ext.toL {L : List Addr} {H H' : MH} (h : Ext H H') : ExtL L H H' := fun a o _ e => h a o e
theorem ExtT.toL {t : Addr} {L : List Addr} {H H' : MH} (h : ExtT t H H') (ht : t ∈ L) : ExtL L H H' := fun a o n e => h a o (fun q => n (q ▸ ht)) e
theorem nin0 {a : Addr} : a ∉ ([] : List Addr) := fun h => by cases h
theorem ninc {a x : Addr} {L : List Addr} (h : a ≠ x) (k : a ∉ L) : a ∉ x :: L := fun m => by
  cases m with
  | head => exact h rfl
  | tail _ m => exact k m
theorem nin1 {a x : Addr} (h : a ≠ x) : a ∉ [x] := ninc h nin0
theorem nin2 {a x y : Addr} (h : a ≠ x) (k : a ≠ y) : a ∉ [x, y] := ninc h (nin1 k)
theorem nin3 {a x y z : Addr} (h : a ≠ x) (k : a ≠ y) (l : a ≠ z) : a ∉ [x, y, z] := ninc h (nin2 k l)
theorem nin4 {a x y z w : Addr} (h : a ≠ x) (k : a ≠ y) (l : a ≠ z) (m : a ≠ w) : a ∉ [x, y, z, w] := ninc h (nin3 k l m)
theorem ni1 {a x : Addr} {L : List Addr} (h : a ∉ x :: L) : a ≠ x := fun e => h (e ▸ .head _)
theorem nir {a x : Addr} {L : List Addr} (h : a ∉ x :: L) : a ∉ L := fun e => h (.tail _ e)
theorem ni2 {a x y : Addr} {L : List Addr} (h : a ∉ x :: y :: L) : a ≠ y := ni1 (nir h)
theorem ni3 {a x y z : Addr} {L : List Addr} (h : a ∉ x :: y :: z :: L) : a ≠ z := ni2 (nir h)
theorem ni4 {a x y z w : Addr} {L : List Addr} (h : a ∉ x :: y :: z :: w :: L) : a ≠ w := ni3 (nir h)
theorem ni5 {a x y z w u : Addr} {L : List Addr} (h : a ∉ x :: y :: z :: w :: u :: L) : a ≠ u := ni4 (nir h)
section
variable {ρ : Env} {H : MH} {x : String} {v a b : V} {e e1 e2 : X} {p : Prim}
theorem pva (h : ρ x = some v) : pev H ρ (.var x) = some v := Eq.trans (by kernel_rfl) h
theorem pc : pev H ρ (.cst v) = some v := by kernel_rfl
theorem p1 (h1 : pev H ρ e = some a) (h : primOp p H [a] = some (.val v)) : pev H ρ (.prim p [e]) = some v := by
  rw [pev_prim, pevs_cons, h1, pevs_nil]; show valOf (primOp p H [a]) = _; rw [h]; rfl
theorem p2 (h1 : pev H ρ e1 = some a) (h2 : pev H ρ e2 = some b) (h : primOp p H [a, b] = some (.val v)) : pev H ρ (.prim p [e1, e2]) = some v := by
  rw [pev_prim, pevs_cons, h1, pevs_cons, h2, pevs_nil]; show valOf (primOp p H [a, b]) = _; rw [h]; rfl
theorem pix (h1 : pev H ρ e1 = some a) (h2 : pev H ρ e2 = some b) (h : idxOp H a b = some v) : pev H ρ (.prim .idx [e1, e2]) = some v := p2 h1 h2 (by rw [p_idx, h]; rfl)
theorem pln {r : Addr} {vs : List V} (h1 : pev H ρ e = some (.ref r)) (h : H r = some (.list vs)) : pev H ρ (.prim .len [e]) = some (.int vs.length) := p1 h1 (p_lenL h)
theorem plt {i j : Int} (h1 : pev H ρ e1 = some (.int i)) (h2 : pev H ρ e2 = some (.int j)) : pev H ρ (.prim .lt [e1, e2]) = some (.bool (decide (i < j))) := p2 h1 h2 (p_lt _ _ _)
theorem pni {c : Bool} (h1 : pev H ρ e1 = some a) (h2 : pev H ρ e2 = some b) (h : inOp H a b = some c) : pev H ρ (.prim .notin [e1, e2]) = some (.bool (!c)) := p2 h1 h2 (by rw [p_notin, h]; rfl)
theorem peq {c : Bool} (h1 : pev H ρ e1 = some a) (h2 : pev H ρ e2 = some b) (h : eqOp H a b = some c) : pev H ρ (.prim .eq [e1, e2]) = some (.bool c) := p2 h1 h2 (by rw [p_eq, h]; rfl)
theorem pne {c : Bool} (h1 : pev H ρ e1 = some a) (h2 : pev H ρ e2 = some b) (h : eqOp H a b = some c) : pev H ρ (.prim .ne [e1, e2]) = some (.bool (!c)) := p2 h1 h2 (by rw [p_ne, h]; rfl)
theorem ptp (h1 : pev H ρ e1 = some a) (h2 : pev H ρ e2 = some b) : pev H ρ (.prim .tuple [e1, e2]) = some (.tup [a, b]) := p2 h1 h2 (by rw [p_tuple]; exact valT_ok (by simp; decide))
theorem psn : pevs H ρ [] = some [] := by kernel_rfl
theorem psc {es : List X} {vs : List V} (h : pev H ρ e = some v) (k : pevs H ρ es = some vs) : pevs H ρ (e :: es) = some (v :: vs) := by rw [pevs_cons, h, k]; rfl
theorem ps1 (h : pev H ρ e = some v) : pevs H ρ [e] = some [v] := psc h psn
theorem ps2 (h1 : pev H ρ e1 = some a) (h2 : pev H ρ e2 = some b) : pevs H ρ [e1, e2] = some [a, b] := psc h1 (ps1 h2)
end
theorem len_rangeV (m : Nat) (f : Nat → V) : ((List.range m).map f).length = m := by simp
theorem lt_rangeV {m j : Nat} {f : Nat → V} (h : j < ((List.range m).map f).length) : j < m := by rwa [len_rangeV] at h
theorem get_rangeV {m j : Nat} {f : Nat → V} (h : j < ((List.range m).map f).length) : ((List.range m).map f)[j] = f j := by simp
end Mini

end
section
set_option autoImplicit false
set_option linter.unusedVariables false
set_option linter.unusedSimpArgs false
set_option maxRecDepth 100000
namespace Mini
open PySem

theorem mapO_map {α β γ : Type} {f : α → Option β} {g : γ → α} {h : γ → β} : ∀ (l : List γ), (∀ a ∈ l, f (g a) = some (h a)) → mapO f (l.map g) = some (l.map h)
  | [], _ => rfl
  | a :: l, k => by
    simp only [List.map_cons, mapO, k a (.head _), mapO_map l fun b hb => k b (.tail _ hb)]
noncomputable def Marks (mv : List V) : Prop := ∃ ds : List PyData, (∀ H k, mapO (toD (k + 1) H) mv = some ds) ∧ ∀ i j (hi : i < ds.length) (hj : j < ds.length), PyData.eqv ds[i] ds[j] = decide (i = j)
theorem find_at {α : Type} {p : α → Bool} : ∀ {l : List α} {i : Nat} (h : i < l.length), p l[i] = true → (∀ j (h' : j < l.length), j < i → p l[j] = false) → l.findIdx? p = some i
  | a :: l, 0, h, ht, _ => by simp at ht; simp [List.findIdx?_cons, ht]
  | a :: l, i + 1, h, ht, hf => by
    have h0 := hf 0 (by simp) (by (first | lia | omega))
    simp at h0
    rw [List.findIdx?_cons, h0]
    simp only [Bool.false_eq_true, if_false]
    rw [find_at (l := l) (i := i) (by simpa using h) (by simpa using ht) fun j h' hj => hf (j + 1) (by simpa using h') (by (first | lia | omega))]
    rfl
theorem toD_strK {k : Nat} {H : MH} {a : Str} (h : okS a) : toD k H (.str a) = some (.str a) := by
  have e : toD k H (.str a) = if PyData.strOk a then some (.str a) else Option.none := by cases k <;> kernel_rfl
  rw [e, if_pos h]
theorem toD_intK (k : Nat) (H : MH) (i : Int) : toD k H (.int i) = some (.int i) := by cases k <;> kernel_rfl
theorem toD_boolK (k : Nat) (H : MH) (i : Bool) : toD k H (.bool i) = some (.bool i) := by cases k <;> kernel_rfl
theorem marks_strs {ms : List Str} (ok : ∀ x ∈ ms, okS x) (nd : ms.Nodup) : Marks (ms.map .str) := by
  refine ⟨ms.map .str, fun H k => mapO_map ms fun x hx => toD_strK (ok x hx), fun i j hi hj => ?_⟩
  rw [List.getElem_map, List.getElem_map, eqv_str]
  have hi' : i < ms.length := by simpa using hi
  have hj' : j < ms.length := by simpa using hj
  rw [Bool.eq_iff_iff, beq_iff_eq, decide_eq_true_eq]
  constructor
  · intro e
    rcases Nat.lt_trichotomy i j with h | h | h
    · exact absurd e (List.pairwise_iff_getElem.mp nd i j hi' hj' h)
    · exact h
    · exact absurd e.symm (List.pairwise_iff_getElem.mp nd j i hj' hi' h)
  · rintro rfl; rfl
theorem marks_fun {m : Nat} {g : Nat → V} {d : Nat → PyData} (hd : ∀ k H q, toD (q + 1) H (g k) = some (d k)) (he : ∀ i j, PyData.eqv (d i) (d j) = decide (i = j)) : Marks ((List.range m).map g) :=
  ⟨(List.range m).map d, fun H q => mapO_map _ fun k _ => hd k H q, fun i j hi hj => by simp [he]⟩

theorem toD_tupK (k : Nat) (H : MH) (vs : List V) : toD (k + 1) H (.tup vs) = (mapO (toD k H) vs).map .tuple := by kernel_rfl
theorem toD_pair {k : Nat} {H : MH} {a : Str} {i : Int} (h : okS a) : toD (k + 1) H (.tup [.str a, .int i]) = some (.tuple [.str a, .int i]) := by
  rw [toD_tupK, mapO_cons1 (toD_strK h) (mapO_cons1 (toD_intK k H i) rfl)]; rfl
theorem eqv_pair (a : Str) (i j : Int) : PyData.eqv (.tuple [.str a, .int i]) (.tuple [.str a, .int j]) = ((a == a) && ((i == j) && true)) := by kernel_rfl
theorem sgn_nodup : sgn.cps.toList.Nodup := by decide +kernel
noncomputable def sgnAt (p : Nat) : Str := ⟨#[sgn.cps[p]?.getD 0]⟩
theorem sgnAt_eq {p : Nat} (h : p < sgn.length) : (⟨#[sgn.cps[p]'h]⟩ : Str) = sgnAt p := by
  unfold sgnAt
  have h' : p < sgn.cps.size := h
  rw [Array.getElem?_eq_getElem h']; rfl
theorem sgnAt_inj {p q : Nat} (hp : p < 94) (hq : q < 94) (h : sgnAt p = sgnAt q) : p = q := by
  have lp : p < sgn.cps.size := by have := sgn_len; unfold Str.length at this; (first | lia | omega)
  have lq : q < sgn.cps.size := by have := sgn_len; unfold Str.length at this; (first | lia | omega)
  unfold sgnAt at h
  rw [Array.getElem?_eq_getElem lp, Array.getElem?_eq_getElem lq] at h
  have h2 : sgn.cps[p] = sgn.cps[q] := by simpa using h
  rcases Nat.lt_trichotomy p q with k | k | k
  · exact absurd h2 (by have := List.pairwise_iff_getElem.mp sgn_nodup p q (by simpa using lp) (by simpa using lq) k; simpa using this)
  · exact k
  · exact absurd h2.symm (by have := List.pairwise_iff_getElem.mp sgn_nodup q p (by simpa using lq) (by simpa using lp) k; simpa using this)
theorem sgnAt_ok {p : Nat} (hp : p < 94) : okS (sgnAt p) := by
  have lp : p < sgn.length := by rw [sgn_len]; exact hp
  rw [← sgnAt_eq lp]
  exact okS_char sgn_ok _ (Array.mem_toList_iff.mpr (Array.getElem_mem lp))
noncomputable def sgnPos (a s : Int) (j : Nat) : Nat := ((a + (1 + s) * (j : Int)) % 94).toNat
theorem sgnPos_lt (a s : Int) (j : Nat) : sgnPos a s j < 94 := by
  have b1 := Int.emod_nonneg (a + (1 + s) * (j : Int)) (b := 94) (by decide)
  have b2 := Int.emod_lt_of_pos (a + (1 + s) * (j : Int)) (b := 94) (by decide)
  unfold sgnPos; (first | lia | omega)
theorem sgnPos_inj {a s : Int} (s0 : 0 ≤ s) (s1 : s < 23) {i j : Nat} (hi : i < 4) (hj : j < 4) (h : sgnPos a s i = sgnPos a s j) : i = j := by
  have b1 := Int.emod_nonneg (a + (1 + s) * (i : Int)) (b := 94) (by decide)
  have b2 := Int.emod_nonneg (a + (1 + s) * (j : Int)) (b := 94) (by decide)
  unfold sgnPos at h
  have h' : (a + (1 + s) * (i : Int)) % 94 = (a + (1 + s) * (j : Int)) % 94 := by (first | lia | omega)
  have ci : i = 0 ∨ i = 1 ∨ i = 2 ∨ i = 3 := by (first | lia | omega)
  have cj : j = 0 ∨ j = 1 ∨ j = 2 ∨ j = 3 := by (first | lia | omega)
  rcases ci with rfl | rfl | rfl | rfl <;> rcases cj with rfl | rfl | rfl | rfl <;> simp at h' ⊢ <;> (first | lia | omega)
theorem marks_spec2 {tab : Tab} (hm : MarksTab tab) (hd : DrawTab tab) {n : Nat} {ns : List Int} (hn : ns.length ≤ 63) {t : Addr} {k : Int} {many : Nat} (hmany : many ≤ 4) {Q : V → MH → Prop} {Z : Z0} {H : MH} (ht : H t = some (.list [.int k])) (k0 : 0 ≤ k) (k1 : k + 2 < 1000000)
    (hQ : ∀ a ms H', ExtT t H H' → H' t = some (.list [.int (k + 2)]) → H' a = some (.list (ms.map .str)) → ms.length = many → Signs ms → ms.Nodup → a ≠ t → H a = none → Q (.ref a) H') : CallN tab (n + 2) "_law_marks" [.fl (ns.map .int), .ref t, .int many] Q Z H := by
  refine call_of hm rfl ?_
  have hC := CallN_mono tab (n + 1)
  unfold b_l_marks
  refine st_set (v := .str "0123456789abcdefghijklmnopqrstuvwxyzABCDEFGHIJKLMNOPQRSTUVWXYZ") rfl ?_
  refine st_set (v := .str sgn) ?_ ?_
  · have : valS sgn = some (.val (.str sgn)) := valS_ok (by rw [sgn_len]; decide)
    simp only [pev_prim, pevs_cons, pevs_nil, pev_var, pev_cst, upd, reduceIte, String.reduceEq, Option.bind_some, Option.map_some, p_addS]
    exact congrArg valOf this
  have tp : Tape t k H := ⟨ht, k0, by (first | lia | omega)⟩
  rw [s_cons, s_asg]
  refine draw_e hd hn (by kernel_rfl) (by kernel_rfl) tp (by decide) fun at' H1 a0 a1 x1 e1 => ?_
  rw [s_cons, s_asg, w_prim]
  refine l_pure (v := .int 1) rfl ?_
  rw [w_cons]
  refine draw_e hd hn (by kernel_rfl) (by kernel_rfl) (tp.next e1 (by (first | lia | omega))) (by decide) fun st H2 s0 s1 x2 e2 => ?_
  rw [w_nil]
  refine ⟨_, p_add _ _ _, ?_⟩
  rw [fin_val]
  have x12 := x1.trans x2
  have e2' : H2 t = some (.list [.int (k + 2)]) := by rw [e2]; congr 4; (first | lia | omega)
  rw [s_cons, s_ret]
  refine i_compP hC (l := List.range many) (g := fun (i : Nat) => V.int i) (f := fun j => .str (sgnAt (sgnPos at' st j))) (sv := .int many) (by kernel_rfl) (src_range H2 (by unfold lim; (first | lia | omega))) trivial (fun j hj => ?_) (by simp; unfold lim; (first | lia | omega)) fun a ha => ?_
  · have hj' : j < many := by simpa using hj
    have b1 := Int.emod_nonneg (at' + (1 + st) * (j : Int)) (b := 94) (by decide)
    have b2 := Int.emod_lt_of_pos (at' + (1 + st) * (j : Int)) (b := 94) (by decide)
    have b3 : ((at' + (1 + st) * (j : Int)) % 94).toNat < sgn.length := by rw [sgn_len]; (first | lia | omega)
    have e3 : ((((at' + (1 + st) * (j : Int)) % 94).toNat : Nat) : Int) = (at' + (1 + st) * (j : Int)) % 94 := by (first | lia | omega)
    have e4 := idx_str (H := H2) b3
    rw [e3, sgnAt_eq b3] at e4
    simp only [pev_prim, pevs_cons, pevs_nil, pev_var, pev_cst, upd, reduceIte, String.reduceEq, Option.bind_some, Option.map_some, p_mul H2 _ _ (small_le (i := 1 + st) (by (first | lia | omega)) (by (first | lia | omega))) (small_le (i := (j : Int)) (by (first | lia | omega)) (by (first | lia | omega))), valOf_val, p_add, p_mod _ _ _ (show (0 : Int) < 94 by decide), p_idx, e4, valOf_map]
    rfl
  · have hat : a ≠ t := fun e => by rw [e, e2'] at ha; cases ha
    have hHa : H a = none := by
      cases q : H a with
      | none => rfl
      | some o => rw [x12 _ _ hat q] at ha; cases ha
    refine hQ a ((List.range many).map fun j => sgnAt (sgnPos at' st j)) _ (x12.trans (.new ha)) (new_other ha e2') (by rw [hupd_eq, List.map_map]; rfl) (by simp) (fun x hx => ?_) ?_ hat hHa
    · obtain ⟨j, _, rfl⟩ := List.mem_map.mp hx
      exact ⟨sgnAt_ok (sgnPos_lt ..), rfl⟩
    · rw [List.Nodup, List.pairwise_map]
      refine List.Pairwise.imp_of_mem ?_ (List.nodup_range (n := many))
      intro i j hi hj hne he
      simp at hi hj
      exact hne (sgnPos_inj s0 s1 (by (first | lia | omega)) (by (first | lia | omega)) (sgnAt_inj (sgnPos_lt ..) (sgnPos_lt ..) he))
end Mini

end
section
set_option autoImplicit false
set_option linter.unusedVariables false
set_option linter.unusedSimpArgs false
set_option maxRecDepth 100000
namespace Mini
open PySem

structure ThTab (tab : Tab) : Prop where
  dr : DrawTab tab
  ma : MarksTab tab
  th : tab.lookup "_law_things" = some (["_law_script", "_law_tape", "_law_many"], b_l_things)
  me : tab.lookup "_law_machine" = some (["_law_script", "_law_tape", "_law_marks_here"], b_l_machine)

theorem repT_len (a : Str) (n : Nat) : (repS a n).length = n * a.length := by
  induction n with
  | zero => simp [repS]; rfl
  | succ n ih => show (a ++ repS a n).length = _; rw [slen, ih, Nat.succ_mul]; (first | lia | omega)
theorem repS_ok {a : Str} (h : okS a) (n : Nat) : okS (repS a n) := by
  induction n with
  | zero => show okS Str.empty; decide +kernel
  | succ n ih => exact okS_append h ih
theorem fresh_T {t a : Addr} {H H' : MH} {o : Ob} (x : ExtT t H H') (ha : H' a = none) (ht : H' t = some o) : a ≠ t ∧ H a = none := by
  have hat : a ≠ t := fun e => by rw [e, ht] at ha; cases ha
  refine ⟨hat, ?_⟩
  cases q : H a with
  | none => rfl
  | some o => rw [x _ _ hat q] at ha; cases ha

theorem things_spec {tab : Tab} (T : ThTab tab) {n : Nat} {ns : List Int} (hn : ns.length ≤ 63) {t : Addr} {k : Int} {many : Nat} (hm1 : 1 ≤ many) (hmany : many ≤ 4) {Q : V → MH → Prop} {Z : Z0} {H : MH} (ht : H t = some (.list [.int k])) (k0 : 0 ≤ k) (k1 : k + 3 < 1000000)
    (hQ : ∀ a mv H', ExtT t H H' → H' t = some (.list [.int (k + 3)]) → H' a = some (.list mv) → mv.length = many → Marks mv → a ≠ t → H a = none → Q (.ref a) H') : CallN tab (n + 3) "_law_things" [.fl (ns.map .int), .ref t, .int many] Q Z H := by
  refine call_of T.th rfl ?_
  have hC := CallN_mono tab (n + 2)
  unfold b_l_things
  refine st_setC (vs := [.fl (ns.map .int), .ref t, .int many]) (by kernel_rfl) ?_
  refine marks_spec2 T.ma T.dr hn hmany ht k0 (by (first | lia | omega)) fun sa ms H1 x1 e1 es hl hsg hnd hst hsn => ?_
  rw [s_cons, s_asg]
  refine draw_e T.dr hn (by kernel_rfl) (by kernel_rfl) ⟨e1, by (first | lia | omega), by (first | lia | omega)⟩ (by decide) fun w H2 w0 w1 x2 e2 => ?_
  have e2' : H2 t = some (.list [.int (k + 3)]) := by rw [e2]; congr 4; (first | lia | omega)
  have es2 := x2 _ _ hst es
  have x12 := x1.trans x2
  obtain ⟨s0, hs0⟩ : ∃ s0, ms[0]? = some s0 := ⟨ms[0]'(by (first | lia | omega)), List.getElem?_eq_getElem _⟩
  have ok0 : okS s0 ∧ s0.length = 1 := hsg s0 (List.mem_of_getElem? hs0)
  have i0 : idxOp H2 (.ref sa) (.int 0) = some (.str s0) := idx_list es2 (pyIdx_nat (j := 0) (by simp; (first | lia | omega))) (by simp [hs0])
  have hlm : many ≤ lim := by unfold lim; (first | lia | omega)
  have sm : small 7 = true := by decide
  refine st_if (b := w == 1) (by simp [upd, eq_int]) (fun _ => ?_) fun _ => ?_
  · rw [s_cons, s_ret]
    refine i_compP hC (l := List.range many) (g := fun (i : Nat) => V.int i) (f := fun i => .tup [.str s0, .int i]) (sv := .int many) (by kernel_rfl) (src_range H2 hlm) trivial (fun j hj => ?_) (by simpa using hlm) fun a ha => ?_
    · simp [upd, i0, valT_ok (show [V.str s0, .int j].length ≤ lim by simp; decide)]
    · obtain ⟨hat, hHa⟩ := fresh_T x12 ha e2'
      refine hQ a _ _ (x12.trans (.new ha)) (new_other ha e2') (hupd_eq ..) (by simp) (marks_fun (d := fun i => .tuple [.str s0, .int i]) (fun i H q => ?_) fun i j => ?_) hat hHa
      · exact toD_pair ok0.1
      · rw [eqv_pair, beq_self_eq_true, Bool.true_and, Bool.and_true, Bool.eq_iff_iff, beq_iff_eq, decide_eq_true_eq]; (first | lia | omega)
  rw [s_nil]
  refine st_if (b := w == 2) (by simp [upd, eq_int]) (fun _ => ?_) fun _ => ?_
  · rw [s_cons, s_ret]
    refine i_compP hC (l := List.range many) (g := fun (i : Nat) => V.int i) (f := fun i => .str (repS s0 (i + 1))) (sv := .int many) (by kernel_rfl) (src_range H2 hlm) trivial (fun j hj => ?_) (by simpa using hlm) fun a ha => ?_
    · have hj' : j < many := by simpa using hj
      have e5 : primOp .mul H2 [.str s0, .int ((j : Int) + 1)] = some (.val (.str (repS s0 (j + 1)))) := by
        show mulOp H2 (.str s0) (.int ((j : Int) + 1)) = _
        unfold mulOp
        dsimp only
        have e6 : ((j : Int) + 1).toNat = j + 1 := by (first | lia | omega)
        rw [if_pos, e6]
        rw [Bool.and_eq_true, decide_eq_true_eq, ok0.2]
        exact ⟨small_le (by (first | lia | omega)) (by (first | lia | omega)), by unfold lim; (first | lia | omega)⟩
      simp [upd, i0, e5]
    · obtain ⟨hat, hHa⟩ := fresh_T x12 ha e2'
      refine hQ a _ _ (x12.trans (.new ha)) (new_other ha e2') (hupd_eq ..) (by simp) (marks_fun (d := fun i => .str (repS s0 (i + 1))) (fun i H q => ?_) fun i j => ?_) hat hHa
      · exact toD_strK (repS_ok ok0.1 _)
      · rw [eqv_str, Bool.eq_iff_iff, beq_iff_eq, decide_eq_true_eq]
        refine ⟨fun e => ?_, fun e => by rw [e]⟩
        have := congrArg Str.length e
        rw [repT_len, repT_len, ok0.2] at this
        (first | lia | omega)
  rw [s_nil]
  refine st_if (b := w == 3) (by simp [upd, eq_int]) (fun _ => ?_) fun _ => ?_
  · rw [s_cons, s_ret]
    refine i_compP hC (l := List.range many) (g := fun (i : Nat) => V.int i) (f := fun i => .int (7 * (i : Int))) (sv := .int many) (by kernel_rfl) (src_range H2 hlm) trivial (fun j hj => ?_) (by simpa using hlm) fun a ha => ?_
    · have hj' : j < many := by simpa using hj
      simp [upd, p_mul H2 _ _ sm (small_le (i := (j : Int)) (by (first | lia | omega)) (by (first | lia | omega)))]
    · obtain ⟨hat, hHa⟩ := fresh_T x12 ha e2'
      refine hQ a _ _ (x12.trans (.new ha)) (new_other ha e2') (hupd_eq ..) (by simp) (marks_fun (d := fun i => .int (7 * (i : Int))) (fun i H q => ?_) fun i j => ?_) hat hHa
      · exact toD_intK _ H _
      · rw [eqv_int, Bool.eq_iff_iff, beq_iff_eq, decide_eq_true_eq]
        (first | lia | omega)
  rw [s_nil]
  refine st_back (v := .ref sa) (by kernel_rfl) ?_
  exact hQ sa _ _ x12 e2' es2 (by simpa using hl) (marks_strs (fun x hx => (hsg x hx).1) hnd) hst hsn

structure Mach where
  n : Nat
  m : Nat
  st : Int → Nat → Int
  go : Int → Bool
noncomputable def Mach.OK (M : Mach) : Prop := 0 < M.n ∧ ∀ (r : Int) (k : Nat), 0 ≤ r → r < M.n → k < M.m → 0 ≤ M.st r k ∧ M.st r k < M.n
structure MachAt (t : Addr) (H : MH) (sa ga : Addr) (rs : List Addr) (M : Mach) : Prop where
  s : H sa = some (.list (rs.map .ref))
  g : H ga = some (.list ((List.range M.n).map fun (i : Nat) => .bool (M.go i)))
  l : rs.length = M.n
  r : ∀ i (h : i < rs.length), H rs[i] = some (.list ((List.range M.m).map fun k => .int (M.st i k)))
  st : sa ≠ t
  gt : ga ≠ t
  rt : ∀ a ∈ rs, a ≠ t
theorem MachAt.extT {t : Addr} {H H' : MH} {sa ga : Addr} {rs : List Addr} {M : Mach} (h : MachAt t H sa ga rs M) (x : ExtT t H H') : MachAt t H' sa ga rs M :=
  ⟨x _ _ h.st h.s, x _ _ h.gt h.g, h.l, fun i hi => x _ _ (h.rt _ (List.getElem_mem _)) (h.r i hi), h.st, h.gt, h.rt⟩
noncomputable def mval (mv : List V) (sa ga : Addr) : V := .tup [.tup mv, .ref sa, .ref ga]
section
variable {t : Addr} {H : MH} {sa ga : Addr} {rs : List Addr} {M : Mach} {mv : List V} {ρ : Env}
theorem pm0 {x : String} (h : ρ x = some (mval mv sa ga)) : pev H ρ (.prim .idx [.var x, .cst (.int 0)]) = some (.tup mv) := pix (pva h) pc rfl
theorem pm1 {x : String} (h : ρ x = some (mval mv sa ga)) : pev H ρ (.prim .idx [.var x, .cst (.int 1)]) = some (.ref sa) := pix (pva h) pc rfl
theorem pm2 {x : String} (h : ρ x = some (mval mv sa ga)) : pev H ρ (.prim .idx [.var x, .cst (.int 2)]) = some (.ref ga) := pix (pva h) pc rfl
theorem MachAt.ext (h : MachAt t H sa ga rs M) {H' : MH} (x : ∀ {a : Addr} {o : Ob}, H a = some o → H' a = some o) : MachAt t H' sa ga rs M :=
  ⟨x h.s, x h.g, h.l, fun i hi => x (h.r i hi), h.st, h.gt, h.rt⟩
theorem MachAt.idx1 (h : MachAt t H sa ga rs M) {r : Int} (r0 : 0 ≤ r) (r1 : r < M.n) : ∃ a, idxOp H (.ref sa) (.int r) = some (.ref a) ∧ a ∈ rs ∧ H a = some (.list ((List.range M.m).map fun k => .int (M.st r k))) := by
  have hr : r.toNat < rs.length := by have := h.l; (first | lia | omega)
  have e : ((r.toNat : Nat) : Int) = r := by (first | lia | omega)
  have hh := h.r r.toNat hr
  rw [e] at hh
  exact ⟨rs[r.toNat], idx_list h.s (by rw [List.length_map]; exact pyIdx_pos r0 (by have := h.l; (first | lia | omega))) (by rw [List.getElem?_map, List.getElem?_eq_getElem hr]; rfl), List.getElem_mem _, hh⟩
theorem MachAt.idx2 (h : MachAt t H sa ga rs M) {r : Int} {k : Nat} (r0 : 0 ≤ r) (r1 : r < M.n) (hk : k < M.m) : ∃ a, idxOp H (.ref sa) (.int r) = some (.ref a) ∧ idxOp H (.ref a) (.int k) = some (.int (M.st r k)) := by
  obtain ⟨a, e1, _, e2⟩ := h.idx1 r0 r1
  refine ⟨a, e1, idx_list e2 (pyIdx_nat (by simpa using hk)) ?_⟩
  rw [List.getElem?_map, List.getElem?_range hk]; rfl
theorem MachAt.good (h : MachAt t H sa ga rs M) {r : Int} (r0 : 0 ≤ r) (r1 : r < M.n) : idxOp H (.ref ga) (.int r) = some (.bool (M.go r)) := by
  have e : ((r.toNat : Nat) : Int) = r := by (first | lia | omega)
  refine idx_list h.g (by rw [List.length_map, List.length_range]; exact pyIdx_pos r0 r1) ?_
  rw [List.getElem?_map, List.getElem?_range (by (first | lia | omega)), Option.map_some, e]
theorem MachAt.pstep (h : MachAt t H sa ga rs M) {x : String} {er ek : X} {r : Int} {k : Nat} (hx : ρ x = some (mval mv sa ga)) (hr : pev H ρ er = some (.int r)) (hk : pev H ρ ek = some (.int k)) (r0 : 0 ≤ r) (r1 : r < M.n) (k1 : k < M.m) :
    pev H ρ (.prim .idx [.prim .idx [.prim .idx [.var x, .cst (.int 1)], er], ek]) = some (.int (M.st r k)) := by
  obtain ⟨a, e1, e2⟩ := h.idx2 r0 r1 k1
  simp [hx, hr, hk, mval, pyIdx, e1, e2]
theorem MachAt.pgood (h : MachAt t H sa ga rs M) {x : String} {er : X} {r : Int} (hx : ρ x = some (mval mv sa ga)) (hr : pev H ρ er = some (.int r)) (r0 : 0 ≤ r) (r1 : r < M.n) :
    pev H ρ (.prim .idx [.prim .idx [.var x, .cst (.int 2)], er]) = some (.bool (M.go r)) := by
  simp [hx, hr, mval, pyIdx, h.good r0 r1]
end
end Mini

end
section
set_option autoImplicit false
set_option linter.unusedVariables false
set_option linter.unusedSimpArgs false
set_option maxRecDepth 100000
namespace Mini
open PySem

theorem p_tupleOfL {H : MH} {a : Addr} {vs : List V} (h : H a = some (.list vs)) : primOp .tupleOf H [.ref a] = valT vs := by
  show (items H (.ref a)).bind valT = _
  simp [items, h]
@[simp] theorem p_min2 (H : MH) (a b : Int) : primOp .min2 H [.int a, .int b] = some (.val (.int (if b < a then b else a))) := rfl
noncomputable def machL (m : Nat) (rows : List (List Int)) (gs : List Bool) : Mach := ⟨rows.length, m, fun r k => ((rows[r.toNat]?.getD [])[k]?).getD 0, fun r => (gs[r.toNat]?).getD false⟩
noncomputable def rowOK (m n : Nat) (row : List Int) : Prop := row.length = m ∧ ∀ x ∈ row, 0 ≤ x ∧ x < n
theorem machL_ok {m : Nat} {rows : List (List Int)} {gs : List Bool} (h0 : 0 < rows.length) (hr : ∀ row ∈ rows, rowOK m rows.length row) : (machL m rows gs).OK := by
  refine ⟨h0, fun r k r0 r1 hk => ?_⟩
  simp only [machL] at r1 hk ⊢
  have h1 : r.toNat < rows.length := by (first | lia | omega)
  obtain ⟨l1, l2⟩ := hr _ (List.getElem_mem h1)
  have h2 : k < rows[r.toNat].length := by (first | lia | omega)
  have e : ((rows[r.toNat]?.getD [])[k]?).getD 0 = rows[r.toNat][k] := by rw [List.getElem?_eq_getElem h1, Option.getD_some, List.getElem?_eq_getElem h2, Option.getD_some]
  rw [e]
  exact l2 _ (List.getElem_mem _)
theorem machL_row {m : Nat} {rows : List (List Int)} {gs : List Bool} {i : Nat} (h : i < rows.length) (hl : rows[i].length = m) : (rows[i].map V.int) = (List.range m).map fun k => .int ((machL m rows gs).st i k) := by
  apply List.ext_getElem
  · simp [hl]
  · intro j h1 h2
    have h3 : j < rows[i].length := by simpa using h1
    simp only [List.getElem_map, List.getElem_range, machL, Int.toNat_natCast, List.getElem?_eq_getElem h, Option.getD_some, List.getElem?_eq_getElem h3]
theorem machL_good {m : Nat} {rows : List (List Int)} {gs : List Bool} (h : gs.length = rows.length) : gs.map V.bool = (List.range (machL m rows gs).n).map fun (i : Nat) => .bool ((machL m rows gs).go i) := by
  apply List.ext_getElem
  · simp [machL, h]
  · intro j h1 h2
    have h3 : j < gs.length := by simpa using h1
    simp only [List.getElem_map, List.getElem_range, machL, Int.toNat_natCast, Option.getD_some, List.getElem?_eq_getElem h3]
theorem machL_at {t : Addr} {H : MH} {sa ga : Addr} {rs : List Addr} {m : Nat} {rows : List (List Int)} {gs : List Bool} (h1 : H sa = some (.list (rs.map .ref))) (h2 : H ga = some (.list (gs.map .bool))) (h3 : rs.length = rows.length) (h4 : gs.length = rows.length) (h5 : ∀ i (h : i < rs.length) (h' : i < rows.length), H rs[i] = some (.list (rows[i].map .int))) (h6 : ∀ row ∈ rows, row.length = m) (h7 : sa ≠ t) (h8 : ga ≠ t) (h9 : ∀ a ∈ rs, a ≠ t) : MachAt t H sa ga rs (machL m rows gs) :=
  ⟨h1, by rw [h2, machL_good h4], h3, fun i h => by rw [h5 i h (by (first | lia | omega)), machL_row (gs := gs) (by (first | lia | omega)) (h6 _ (List.getElem_mem _))]; rfl, h7, h8, h9⟩

structure Rows (L : List Addr) (H : MH) (m n : Nat) (rs : List Addr) (rows : List (List Int)) : Prop where
  len : rs.length = rows.length
  at' : ∀ i (h : i < rs.length) (h' : i < rows.length), H rs[i] = some (.list (rows[i].map .int))
  off : ∀ a ∈ rs, a ∉ L
  ok : ∀ row ∈ rows, rowOK m n row
theorem Rows.extL {L L' : List Addr} {H H' : MH} {m n : Nat} {rs : List Addr} {rows : List (List Int)} (h : Rows L H m n rs rows) (x : ExtL L' H H') (hs : ∀ a ∈ rs, a ∉ L') : Rows L H' m n rs rows :=
  ⟨h.len, fun i a b => x _ _ (hs _ (List.getElem_mem _)) (h.at' i a b), h.off, h.ok⟩
theorem Rows.snoc {L : List Addr} {H : MH} {m n : Nat} {rs : List Addr} {rows : List (List Int)} {a : Addr} {row : List Int} (h : Rows L H m n rs rows) (ha : H a = some (.list (row.map .int))) (hL : a ∉ L) (ok : rowOK m n row) : Rows L H m n (rs ++ [a]) (rows ++ [row]) := by
  refine ⟨by simp [h.len], fun i h1 h2 => ?_, fun b hb => ?_, fun r hr => ?_⟩
  · rcases Nat.lt_or_ge i rs.length with k | k
    · rw [List.getElem_append_left k, List.getElem_append_left (by have := h.len; (first | lia | omega))]
      exact h.at' i k (by have := h.len; (first | lia | omega))
    · simp at h1
      have : i = rs.length := by (first | lia | omega)
      subst this
      have e := h.len
      simp [ha, e]
  · rcases List.mem_append.mp hb with k | k
    · exact h.off b k
    · simp at k; rw [k]; exact hL
  · rcases List.mem_append.mp hr with k | k
    · exact h.ok r k
    · simp at k; rw [k]; exact ok

theorem machine_row {tab : Tab} (T : ThTab tab) {n : Nat} {ns : List Int} (hn : ns.length ≤ 63) {t ma ra : Addr} {k : Int} {mv : List V} {many i : Nat} (hm : 1 ≤ many) (hm2 : many ≤ 10) (hi : i < many) (hmv : mv.length ≤ 4) {ρ : Env} {N : Env → MH → Prop} {Q : V → MH → Prop} {H : MH} {r : List S} (ht : H t = some (.list [.int k])) (k0 : 0 ≤ k) (k1 : k + mv.length < 1000000)
    (rs : ρ "_law_script" = some (.fl (ns.map .int))) (rt : ρ "_law_tape" = some (.ref t)) (rm : ρ "_law_many" = some (.int many)) (rk : ρ "_law_marks_here" = some (.ref ma)) (rr : ρ "_law_row" = some (.ref ra)) (ro : ρ "_law_room" = some (.int i)) (hma : H ma = some (.list mv)) (hra : H ra = some (.list [])) (d1 : ma ≠ t) (d2 : ra ≠ t) (d3 : ma ≠ ra)
    (hN : ∀ row ρ' H', (∀ x, x ≠ "_law_to" → x ≠ "_law_mark" → ρ' x = ρ x) → ExtL [t, ra] H H' → H' t = some (.list [.int (k + mv.length)]) → H' ra = some (.list (row.map .int)) → rowOK mv.length many row → wpSs (CallN tab (n + 2)) r ρ' N Q ZF H') :
    wpSs (CallN tab (n + 2)) (.for ["_law_mark"] false .plain (.var "_law_marks_here")
       [.asg "_law_to" (.call "_law_draw" [.var "_law_script", .var "_law_tape", .prim .mul [.cst (.int 3), .var "_law_many"]]),
        .ifs (.prim .lt [.var "_law_to", .prim .mul [.cst (.int 2), .var "_law_many"]])
          [.ex (.meth .append (.var "_law_row") [.prim .mod [.var "_law_to", .var "_law_many"]])]
          [.ex (.meth .append (.var "_law_row") [.prim .min2 [.prim .sub [.var "_law_many", .cst (.int 1)], .prim .add [.var "_law_room", .cst (.int 1)]]])]] :: r) ρ N Q ZF H := by
  have hC := CallN_mono tab (n + 2)
  refine st_forI hC (sv := .ref ma) (Eq.trans (by kernel_rfl) rk) (src_list hma) (fun j ρ' H' => (∀ x, x ≠ "_law_to" → x ≠ "_law_mark" → ρ' x = ρ x) ∧ ExtL [t, ra] H H' ∧ ∃ row : List Int, row.length = j ∧ (∀ x ∈ row, 0 ≤ x ∧ x < many) ∧ H' t = some (.list [.int (k + j)]) ∧ H' ra = some (.list (row.map .int)) ∧ j ≤ mv.length) ⟨fun _ _ _ => rfl, .refl _ _, [], rfl, (fun x hx => by cases hx), by simpa using ht, hra, Nat.zero_le _⟩ ?_ ?_ ?_
  · rintro j ρ' H' ⟨_, x, _⟩; exact x _ _ (by simp [d1, d3]) hma
  · rintro j hj ρ' H' ⟨hρ, x, row, hl, hrow, e, er, hjl⟩
    have q1 : ρ' "_law_script" = some (.fl (ns.map .int)) := by rw [hρ _ (by decide) (by decide)]; exact rs
    have q2 : ρ' "_law_tape" = some (.ref t) := by rw [hρ _ (by decide) (by decide)]; exact rt
    have q3 : ρ' "_law_many" = some (.int many) := by rw [hρ _ (by decide) (by decide)]; exact rm
    have q4 : ρ' "_law_row" = some (.ref ra) := by rw [hρ _ (by decide) (by decide)]; exact rr
    have q5 : ρ' "_law_room" = some (.int i) := by rw [hρ _ (by decide) (by decide)]; exact ro
    have sm : small (many : Int) = true := small_le (by (first | lia | omega)) (by (first | lia | omega))
    have s3 : small 3 = true := by decide
    have s2 : small 2 = true := by decide
    refine st_setC (vs := [.fl (ns.map .int), .ref t, .int (3 * (many : Int))]) (by simp [upd, q1, q2, q3, p_mul H' _ _ s3 sm]) ?_
    refine draw_spec T.dr e (by (first | lia | omega)) (by (first | lia | omega)) (by (first | lia | omega)) hn fun to H2 t0 t1 x2 e2 => ?_
    have er2 := x2 _ _ d2 er
    have x2' : ExtL [t, ra] H H2 := x.trans (x2.toL (by simp))
    have hlm : (row.map V.int).length < lim := by simp; unfold lim; (first | lia | omega)
    have fin : ∀ (y : Int) (ρ2 : Env), 0 ≤ y → y < many → (∀ x, x ≠ "_law_to" → x ≠ "_law_mark" → ρ2 x = ρ x) → (∀ x, x ≠ "_law_to" → x ≠ "_law_mark" → ρ2 x = ρ x) ∧ ExtL [t, ra] H (hupd H2 ra (.list (row.map .int ++ [.int y]))) ∧ ∃ row' : List Int, row'.length = j + 1 ∧ (∀ x ∈ row', 0 ≤ x ∧ x < many) ∧ (hupd H2 ra (.list (row.map .int ++ [.int y]))) t = some (.list [.int (k + (j + 1 : Nat))]) ∧ (hupd H2 ra (.list (row.map .int ++ [.int y]))) ra = some (.list (row'.map .int)) ∧ j + 1 ≤ mv.length := by
      intro y ρ2 y0 y1 h2
      refine ⟨h2, x2'.trans (.upd (by simp)), row ++ [y], by simp [hl], fun z hz => ?_, ?_, by simp, hj⟩
      · rcases List.mem_append.mp hz with h | h
        · exact hrow z h
        · simp at h; (first | lia | omega)
      · rw [hupd_ne (fun q => d2 q.symm), e2]; congr 4; (first | lia | omega)
    have hρ2 : ∀ x, x ≠ "_law_to" → x ≠ "_law_mark" → upd (upd ρ' "_law_mark" mv[j]) "_law_to" (.int to) x = ρ x := fun x h1 h2 => by rw [upd_ne h1, upd_ne h2]; exact hρ x h1 h2
    refine st_if (b := decide (to < 2 * (many : Int))) (by simp [upd, q3, p_mul H2 _ _ s2 sm]) (fun _ => ?_) fun _ => ?_
    · refine st_appP (v := .int (to % (many : Int))) (Eq.trans (by kernel_rfl) q4) er2 hlm (by simp [upd, q3, p_mod H2 _ _ (show (0 : Int) < many by (first | lia | omega))]) ?_ hC
      rw [s_nil, s_nil]
      have b1 := Int.emod_nonneg to (b := (many : Int)) (by (first | lia | omega))
      have b2 := Int.emod_lt_of_pos to (b := (many : Int)) (by (first | lia | omega))
      exact fin _ _ b1 b2 hρ2
    · refine st_appP (v := .int (if (i : Int) + 1 < (many : Int) - 1 then (i : Int) + 1 else (many : Int) - 1)) (Eq.trans (by kernel_rfl) q4) er2 hlm (by simp [upd, q3, q5]) ?_ hC
      rw [s_nil, s_nil]
      refine fin _ _ ?_ ?_ hρ2 <;> split <;> (first | lia | omega)
  · rintro ρ' H' ⟨hρ, x, row, hl, hrow, e, er, hjl⟩
    exact hN row ρ' H' hρ x e er ⟨hl, hrow⟩
end Mini

end
section
set_option autoImplicit false
set_option linter.unusedVariables false
set_option linter.unusedSimpArgs false
set_option maxRecDepth 100000
namespace Mini
open PySem

theorem machine_spec {tab : Tab} (T : ThTab tab) {n : Nat} {ns : List Int} (hn : ns.length ≤ 63) {t ma : Addr} {k : Int} {mv : List V} (hmv : mv.length ≤ 4) {Q : V → MH → Prop} {Z : Z0} {H : MH} (ht : H t = some (.list [.int k])) (k0 : 0 ≤ k) (k1 : k + 60 < 1000000) (hma : H ma = some (.list mv)) (d1 : ma ≠ t)
    (hQ : ∀ (sa ga : Addr) (rs : List Addr) (rows : List (List Int)) (gs : List Bool) (k' : Int) (H' : MH), ExtT t H H' → H' t = some (.list [.int k']) → k ≤ k' → k' ≤ k + 60 → H' sa = some (.list (rs.map .ref)) → H' ga = some (.list (gs.map .bool)) → gs.length = rows.length → Rows [t, sa, ga] H' mv.length rows.length rs rows → 0 < rows.length → rows.length ≤ 10 → sa ≠ t → ga ≠ t → Q (mval mv sa ga) H') :
    CallN tab (n + 3) "_law_machine" [.fl (ns.map .int), .ref t, .ref ma] Q Z H := by
  refine call_of T.me rfl ?_
  have hC := CallN_mono tab (n + 2)
  unfold b_l_machine
  rw [s_cons, s_asg, w_prim]
  refine l_pure (v := .int 1) rfl ?_
  rw [w_cons]
  refine draw_e T.dr hn (by kernel_rfl) (by kernel_rfl) ⟨ht, by (first | lia | omega), by (first | lia | omega)⟩ (by decide) fun a H1 a0 a1 x1 e1 => ?_
  rw [w_nil]
  refine ⟨_, p_add _ _ _, ?_⟩
  rw [fin_val, s_cons, s_ifs, w_prim, w_cons]
  refine draw_e T.dr hn (by kernel_rfl) (by kernel_rfl) ⟨e1, by (first | lia | omega), by (first | lia | omega)⟩ (by decide) fun b H2 b0 b1 x2 e2 => ?_
  refine l_pure (v := .int 3) rfl ?_
  rw [w_nil]
  refine ⟨.val (.bool (b == 3)), by rw [p_eq, eq_int]; rfl, ?_⟩
  rw [fin_val, asB_bool]
  have x12 := x1.trans x2
  have rest : ∀ (many : Nat) (ρ : Env) (H3 : MH) (k3 : Int), 1 ≤ many → many ≤ 10 → ρ "_law_script" = some (.fl (ns.map .int)) → ρ "_law_tape" = some (.ref t) → ρ "_law_marks_here" = some (.ref ma) → ρ "_law_many" = some (.int many) → ExtT t H H3 → H3 t = some (.list [.int k3]) → k ≤ k3 → k3 ≤ k + 3 →
      wpSs (CallN tab (n + 2)) (b_l_machine.drop 2) ρ (fun _ H' => Q .none H') Q Z H3 := by
    intro many ρ H3 k3 m1 m2 rs rt rk rm x3 e3 kl ku
    show wpSs _ (_ :: _) _ _ _ _ _
    refine st_new (vs := []) (by simp) (by simp) fun sa hsa => ?_
    refine st_new (vs := []) (by simp) (by simp) fun ga hga => ?_
    have hst : sa ≠ t := fun e => by rw [e, e3] at hsa; cases hsa
    have e4 : hupd H3 sa (.list []) t = some (.list [.int k3]) := new_other hsa e3
    have hgt : ga ≠ t := fun e => by rw [e, e4] at hga; cases hga
    have hsg : ga ≠ sa := fun e => by rw [e, hupd_eq] at hga; cases hga
    have x5 : ExtT t H (hupd (hupd H3 sa (.list [])) ga (.list [])) := x3.trans ((Ext.new hsa).toT.trans (Ext.new hga).toT)
    have e5 : hupd (hupd H3 sa (.list [])) ga (.list []) t = some (.list [.int k3]) := new_other hga e4
    have s5 : hupd (hupd H3 sa (.list [])) ga (.list []) sa = some (.list []) := new_other hga (hupd_eq ..)
    have g5 : hupd (hupd H3 sa (.list [])) ga (.list []) ga = some (.list []) := hupd_eq ..
    have n5 : H3 sa = none := hsa
    generalize hH5 : hupd (hupd H3 sa (.list [])) ga (.list []) = H5 at x5 e5 s5 g5
    have fs : H sa = none := (fresh_T x3 hsa e3).2
    have fg : H ga = none := by
      have h3 : H3 ga = none := by
        cases q : H3 ga with
        | none => rfl
        | some o => rw [hupd_ne hsg, q] at hga; cases hga
      exact (fresh_T x3 h3 e3).2
    have m5 : H5 ma = some (.list mv) := x5 _ _ d1 hma
    have dms : ma ≠ sa := fun e => by rw [e, fs] at hma; cases hma
    have dmg : ma ≠ ga := fun e => by rw [e, fg] at hma; cases hma
    refine st_forI hC (sv := .int many) (Eq.trans (by kernel_rfl) rm) (src_range H5 (by unfold lim; (first | lia | omega))) (fun i ρ' H' => ρ' "_law_script" = some (.fl (ns.map .int)) ∧ ρ' "_law_tape" = some (.ref t) ∧ ρ' "_law_marks_here" = some (.ref ma) ∧ ρ' "_law_many" = some (.int many) ∧ ρ' "_law_steps" = some (.ref sa) ∧ ρ' "_law_good" = some (.ref ga) ∧ ExtL [t, sa, ga] H5 H' ∧ ∃ (rs : List Addr) (rows : List (List Int)) (gs : List Bool), H' t = some (.list [.int (k3 + i * (mv.length + 1))]) ∧ H' sa = some (.list (rs.map .ref)) ∧ H' ga = some (.list (gs.map .bool)) ∧ gs.length = i ∧ rows.length = i ∧ Rows [t, sa, ga] H' mv.length many rs rows) ?_ (fun _ _ _ _ => trivial) ?_ ?_
    · exact ⟨Eq.trans (by kernel_rfl) rs, Eq.trans (by kernel_rfl) rt, Eq.trans (by kernel_rfl) rk, Eq.trans (by kernel_rfl) rm, by kernel_rfl, by kernel_rfl, .refl _ _, [], [], [], by simpa using e5, s5, g5, rfl, rfl, rfl, (fun i h => by cases h), (fun a h => by cases h), fun a h => by cases h⟩
    · rintro i hi ρ' H' ⟨q1, q2, q3, q4, q5, q6, x, rs', rows, gs, e, es, eg, lg, lr, hR⟩
      have hi' : i < many := by simpa using hi
      have ei : ((List.range many).map (fun (i : Nat) => V.int i))[i] = V.int i := by simp
      rw [ei]
      have hmul : (i : Int) * ((mv.length : Int) + 1) ≤ 9 * 5 := by
        refine Int.mul_le_mul (by (first | lia | omega)) (by (first | lia | omega)) (by (first | lia | omega)) (by (first | lia | omega))
      have hmul0 : 0 ≤ (i : Int) * ((mv.length : Int) + 1) := Int.mul_nonneg (by (first | lia | omega)) (by (first | lia | omega))
      refine st_new (vs := []) (by simp) (by simp) fun ra hra => ?_
      have drt : ra ≠ t := fun q => by rw [q, e] at hra; cases hra
      have drs : ra ≠ sa := fun q => by rw [q, es] at hra; cases hra
      have drg : ra ≠ ga := fun q => by rw [q, eg] at hra; cases hra
      have m' : H' ma = some (.list mv) := x _ _ (nin3 d1 dms dmg) m5
      have drm : ma ≠ ra := fun q => by rw [← q, m'] at hra; cases hra
      have hRn : ∀ a ∈ rs', a ∉ [t, ra] := fun a ha => by
        have h1 := hR.off a ha
        refine nin2 (ni1 h1) fun q => ?_
        obtain ⟨j, hj, rfl⟩ := List.mem_iff_getElem.mp ha
        have := hR.at' j hj (by have := hR.len; (first | lia | omega))
        rw [q, hra] at this; cases this
      refine machine_row T hn m1 m2 hi' hmv (new_other hra e) (by (first | lia | omega)) (by (first | lia | omega)) (Eq.trans (by kernel_rfl) q1) (Eq.trans (by kernel_rfl) q2) (Eq.trans (by kernel_rfl) q4) (Eq.trans (by kernel_rfl) q3) (by kernel_rfl) (by kernel_rfl) (new_other hra m') (hupd_eq ..) d1 drt drm fun row ρ2 H2 hρ y e2 er hrow => ?_
      have y' : ExtL [t, ra] H' H2 := (Ext.new hra).toL.trans y
      have es2 : H2 sa = some (.list (rs'.map .ref)) := y' _ _ (nin2 hst drs.symm) es
      have eg2 : H2 ga = some (.list (gs.map .bool)) := y' _ _ (nin2 hgt drg.symm) eg
      have hR2 := hR.extL y' hRn
      have lrs : rs'.length ≤ 10 := by have := hR.len; (first | lia | omega)
      have w : ∀ {s : String} {v : V}, s ≠ "_law_to" → s ≠ "_law_mark" → s ≠ "_law_row" → s ≠ "_law_room" → ρ' s = some v → ρ2 s = some v := fun h1 h2 h3 h4 h5 => by rw [hρ _ h1 h2, upd_ne h3, upd_ne h4]; exact h5
      refine st_appP (v := .ref ra) (w (by decide) (by decide) (by decide) (by decide) q5) es2 (by simp; unfold lim; (first | lia | omega)) (by rw [pev_var, hρ _ (by decide) (by decide)]; simp [upd]) ?_ hC
      have e3' : hupd H2 sa (.list (rs'.map .ref ++ [.ref ra])) t = some (.list [.int (k3 + i * (mv.length + 1) + mv.length)]) := by rw [hupd_ne hst.symm]; exact e2
      have eg3 : hupd H2 sa (.list (rs'.map .ref ++ [.ref ra])) ga = some (.list (gs.map .bool)) := by rw [hupd_ne hsg]; exact eg2
      have es3 : hupd H2 sa (.list (rs'.map .ref ++ [.ref ra])) sa = some (.list ((rs' ++ [ra]).map .ref)) := by rw [hupd_eq, List.map_append]; rfl
      have er3 : hupd H2 sa (.list (rs'.map .ref ++ [.ref ra])) ra = some (.list (row.map .int)) := by rw [hupd_ne drs]; exact er
      have hR3 : Rows [t, sa, ga] (hupd H2 sa (.list (rs'.map .ref ++ [.ref ra]))) mv.length many (rs' ++ [ra]) (rows ++ [row]) :=
        (hR2.extL (L' := [sa]) (.upd (.head _)) (fun a ha => nin1 (ni2 (hR.off a ha)))).snoc er3 (nin3 drt drs drg) hrow
      have x3' : ExtL [t, sa, ga] H5 (hupd H2 sa (.list (rs'.map .ref ++ [.ref ra]))) := fun a o ha h => by
        have h1 := x _ _ ha h
        have hne : a ≠ ra := fun q => by rw [q, hra] at h1; cases h1
        rw [hupd_ne (ni2 ha)]
        exact y' _ _ (nin2 (ni1 ha) hne) h1
      generalize hupd H2 sa (.list (rs'.map .ref ++ [.ref ra])) = H6 at e3' eg3 es3 hR3 x3'
      refine st_app (v := .none) (w (by decide) (by decide) (by decide) (by decide) q6) eg3 (by simp; unfold lim; (first | lia | omega)) ?_ hC
      rw [w_prim, w_cons]
      refine draw_e T.dr hn (w (by decide) (by decide) (by decide) (by decide) q1) (w (by decide) (by decide) (by decide) (by decide) q2) ⟨e3', by (first | lia | omega), by (first | lia | omega)⟩ (by decide) fun c H7 c0 c1 x7 e7 => ?_
      refine l_pure (v := .int 0) rfl ?_
      rw [w_nil]
      refine ⟨.val (.bool (c == 0)), by rw [p_eq, eq_int]; rfl, ?_⟩
      rw [fin_val]
      refine ⟨x7 _ _ hgt eg3, ?_⟩
      rw [s_nil]
      refine ⟨w (by decide) (by decide) (by decide) (by decide) q1, w (by decide) (by decide) (by decide) (by decide) q2, w (by decide) (by decide) (by decide) (by decide) q3, w (by decide) (by decide) (by decide) (by decide) q4, w (by decide) (by decide) (by decide) (by decide) q5, w (by decide) (by decide) (by decide) (by decide) q6, (x3'.trans (x7.toL (by simp))).trans (.upd (by simp)), rs' ++ [ra], rows ++ [row], gs ++ [c == 0], ?_, ?_, ?_, by simp [lg], by simp [lr], ?_⟩
      · rw [hupd_ne hgt.symm, e7]
        have h9 : k3 + (i : Int) * ((mv.length : Int) + 1) + (mv.length : Int) + 1 = k3 + ((i + 1 : Nat) : Int) * ((mv.length : Int) + 1) := by
          rw [Int.natCast_add, Int.add_mul]; (first | lia | omega)
        rw [h9]
      · rw [hupd_ne hsg.symm]; exact x7 _ _ hst es3
      · rw [hupd_eq]; simp
      · refine (hR3.extL (L' := [t]) (fun a o ha h => x7 a o (ni1 ha) h) (fun a ha => nin1 (ni1 (hR3.off a ha)))).extL (L' := [ga]) (.upd (.head _)) fun a ha => nin1 (ni3 (hR3.off a ha))
    · rintro ρ' H' ⟨q1, q2, q3, q4, q5, q6, x, rs', rows, gs, e, es, eg, lg, lr, hR⟩
      simp only [List.length_map, List.length_range] at lg lr e
      have xT : ExtT t H H' := fun a o ha h => by
        have h5 := x5 _ _ ha h
        have n1 : a ≠ sa := fun q => by rw [q, fs] at h; cases h
        have n2 : a ≠ ga := fun q => by rw [q, fg] at h; cases h
        exact x _ _ (nin3 ha n1 n2) h5
      have m' : H' ma = some (.list mv) := xT _ _ d1 hma
      have hmul : (many : Int) * ((mv.length : Int) + 1) ≤ 10 * 5 := by
        refine Int.mul_le_mul (by (first | lia | omega)) (by (first | lia | omega)) (by (first | lia | omega)) (by (first | lia | omega))
      have hmul0 : 0 ≤ (many : Int) * ((mv.length : Int) + 1) := Int.mul_nonneg (by (first | lia | omega)) (by (first | lia | omega))
      have v1 : valT mv = some (.val (.tup mv)) := valT_ok (by unfold lim; (first | lia | omega))
      have v2 : valT [.tup mv, .ref sa, .ref ga] = some (.val (mval mv sa ga)) := valT_ok (by simp; unfold lim; (first | lia | omega))
      refine st_back (v := mval mv sa ga) (by simp [q3, q5, q6, p_tupleOfL m', v1, v2]) ?_
      rw [← lr] at hR
      exact hQ sa ga rs' rows gs _ H' xT e (by (first | lia | omega)) (by (first | lia | omega)) es eg (by (first | lia | omega)) hR (by (first | lia | omega)) (by (first | lia | omega)) hst hgt
  refine ⟨fun _ => ?_, fun _ => ?_⟩
  · rw [s_cons, s_asg, w_prim]
    refine l_pure (v := .int (1 + a)) (by kernel_rfl) ?_
    rw [w_cons]
    refine draw_e T.dr hn (by kernel_rfl) (by kernel_rfl) ⟨e2, by (first | lia | omega), by (first | lia | omega)⟩ (by decide) fun c H3 c0 c1 x3 e3 => ?_
    rw [w_nil]
    refine ⟨_, p_add _ _ _, ?_⟩
    rw [fin_val, s_nil]
    have he : (((1 + a + c).toNat : Nat) : Int) = 1 + a + c := by (first | lia | omega)
    refine rest (1 + a + c).toNat _ H3 (k + 1 + 1 + 1) (by (first | lia | omega)) (by (first | lia | omega)) (by kernel_rfl) (by kernel_rfl) (by kernel_rfl) (by rw [he]; simp [upd]) (x12.trans x3) e3 (by (first | lia | omega)) (by (first | lia | omega))
  · rw [s_nil]
    have he : (((1 + a).toNat : Nat) : Int) = 1 + a := by (first | lia | omega)
    refine rest (1 + a).toNat _ H2 (k + 1 + 1) (by (first | lia | omega)) (by (first | lia | omega)) (by kernel_rfl) (by kernel_rfl) (by kernel_rfl) (by rw [he]; simp [upd]) x12 e2 (by (first | lia | omega)) (by (first | lia | omega))
end Mini

end
section
set_option autoImplicit false
set_option linter.unusedVariables false
set_option linter.unusedSimpArgs false
set_option maxRecDepth 100000
namespace Mini
open PySem

noncomputable def numF : Nat → List V → List (V × V)
  | _, [] => []
  | i, v :: r => (v, .int i) :: numF (i + 1) r
noncomputable def numD (vs : List V) : List (V × V) := numF 0 vs
theorem numF_len : ∀ (vs : List V) (i : Nat), (numF i vs).length = vs.length
  | [], _ => rfl
  | v :: r, i => by simp [numF, numF_len r]
theorem numF_keys : ∀ (vs : List V) (i : Nat), (numF i vs).map (·.1) = vs
  | [], _ => rfl
  | v :: r, i => by simp [numF, numF_keys r]
theorem numF_snoc : ∀ (vs : List V) (i : Nat) (v : V), numF i (vs ++ [v]) = numF i vs ++ [(v, .int ((i + vs.length : Nat) : Int))]
  | [], i, v => by simp [numF]
  | u :: r, i, v => by
    simp only [List.cons_append, numF, numF_snoc r (i + 1) v, List.length_cons]
    congr 4
    congr 2
    (first | lia | omega)
theorem numF_find_none : ∀ (vs : List V) (i : Nat) (v : V), v ∉ vs → dfind (numF i vs) v = none
  | [], _, _, _ => rfl
  | u :: r, i, v, h => by
    simp only [List.mem_cons, not_or] at h
    have hb : (u == v) = false := by simp; exact fun e => h.1 e.symm
    have := numF_find_none r (i + 1) v h.2
    simp only [dfind, numF, List.find?, hb] at this ⊢
    exact this
theorem numF_find : ∀ (vs : List V) (i j : Nat) (h : j < vs.length), vs.Nodup → dfind (numF i vs) vs[j] = some (.int ((i + j : Nat) : Int))
  | u :: r, i, 0, h, nd => by simp [dfind, numF, List.find?]
  | u :: r, i, j + 1, h, nd => by
    have h' : j < r.length := by simpa using h
    have nd' := List.nodup_cons.mp nd
    have hb : (u == r[j]) = false := by
      simp; intro e; exact nd'.1 (e ▸ List.getElem_mem h')
    have := numF_find r (i + 1) j h' nd'.2
    simp only [List.getElem_cons_succ, dfind, numF, List.find?, hb] at this ⊢
    rw [this]; congr 3; (first | lia | omega)
theorem dput_new : ∀ (kvs : List (V × V)) (k v : V), dfind kvs k = none → dput kvs k v = kvs ++ [(k, v)]
  | [], _, _, _ => rfl
  | (a, b) :: r, k, v, h => by
    by_cases e : a = k
    · subst e; simp [dfind, List.find?] at h
    · have hb : (a == k) = false := by simp [e]
      have : dfind r k = none := by simp only [dfind, List.find?, hb] at h ⊢; exact h
      simp [dput, e, dput_new r k v this]
noncomputable def KeysOK (c : Nat) (vs : List V) : Prop := c < 3 ∧ ∀ v ∈ vs, kk v = c
theorem KeysOK.dOK {c : Nat} {vs : List V} {v : V} (h : KeysOK c vs) (hv : kk v = c) : dOK (numD vs) v = true := by
  unfold Mini.dOK
  rw [Bool.and_eq_true, decide_eq_true_eq, List.all_eq_true]
  refine ⟨by rw [hv]; exact h.1, fun p hp => ?_⟩
  have : p.1 ∈ vs := by
    have := List.mem_map_of_mem (f := (·.1)) hp
    rwa [numD, numF_keys] at this
  rw [h.2 _ this, hv]; simp
structure Num (c : Nat) (H : MH) (na ga : Addr) (vs : List V) : Prop where
  d : H na = some (.dict (numD vs))
  l : H ga = some (.list vs)
  nd : vs.Nodup
  ok : KeysOK c vs
theorem Num.extL {c : Nat} {L : List Addr} {H H' : MH} {na ga : Addr} {vs : List V} (h : Num c H na ga vs) (x : ExtL L H H') (h1 : na ∉ L) (h2 : ga ∉ L) : Num c H' na ga vs := ⟨x _ _ h1 h.d, x _ _ h2 h.l, h.nd, h.ok⟩

theorem number_spec {tab : Tab} {n : Nat} (hd : tab.lookup "number_of" = some (["thing", "numbers", "things"], b_number_of)) {c : Nat} {na ga : Addr} {vs : List V} {v : V} {Q : V → MH → Prop} {Z : Z0} {H : MH} (h : Num c H na ga vs) (hv : kk v = c) (hl : vs.length < lim)
    (hQ : ∀ (i : Nat) vs' H', Num c H' na ga vs' → ExtL [na, ga] H H' → vs'[i]? = some v → (vs' = vs ∨ (v ∉ vs ∧ vs' = vs ++ [v])) → Q (.int i) H') : CallN tab (n + 1) "number_of" [v, .ref na, .ref ga] Q Z H := by
  refine call_of hd rfl ?_
  generalize CallN tab n = C
  unfold b_number_of
  have hin : inOp H v (.ref na) = some (dfind (numD vs) v).isSome := by simp only [inOp, h.d, h.ok.dOK hv, if_true]
  have hne : na ≠ ga := fun e => by have h1 := h.d; rw [e, h.l] at h1; cases h1
  by_cases hm : v ∈ vs
  · obtain ⟨i, hi, rfl⟩ := List.mem_iff_getElem.mp hm
    have hf : dfind (numD vs) vs[i] = some (.int i) := by have := numF_find vs 0 i hi h.nd; simpa [numD] using this
    refine st_if (b := false) (by simp [bindE, List.lookup, hin, hf]) (fun e => by cases e) fun _ => ?_
    rw [s_nil]
    refine st_back (v := .int i) (by simp [bindE, List.lookup, idx_dict h.d (h.ok.dOK hv), hf]) ?_
    exact hQ i vs H h (.refl _ _) (List.getElem?_eq_getElem hi) (.inl rfl)
  · have hf : dfind (numD vs) v = none := numF_find_none vs 0 v hm
    refine st_if (b := true) (by simp [bindE, List.lookup, hin, hf]) (fun _ => ?_) fun e => by cases e
    rw [s_cons, s_asgI]
    refine pev_ok _ (.int vs.length) _ (by simp [bindE, List.lookup, p_lenL h.l]) (pev_ok _ (.ref na) _ (by kernel_rfl) (pev_ok _ v _ (by kernel_rfl) ?_))
    have hput : dput (numD vs) v (.int vs.length) = numD (vs ++ [v]) := by
      rw [dput_new _ _ _ hf, numD, numD, numF_snoc]; simp
    refine ⟨.upd na (.dict (numD (vs ++ [v]))) .none, ?_, ?_⟩
    · simp only [setOp, h.d]
      rw [if_pos, hput]
      rw [Bool.and_eq_true, decide_eq_true_eq, numD, numF_len]
      exact ⟨h.ok.dOK hv, hl⟩
    rw [fin_upd]
    have l1 : hupd H na (.dict (numD (vs ++ [v]))) ga = some (.list vs) := by rw [hupd_ne hne.symm]; exact h.l
    rw [s_cons, s_ex, w_meth]
    refine pev_ok _ (.ref ga) _ (by kernel_rfl) ⟨methT_app l1, ?_⟩
    rw [w_cons]
    refine pev_ok _ v _ (by kernel_rfl) ?_
    rw [w_nil]
    refine ⟨.upd ga (.list (vs ++ [v])) .none, ?_, ?_⟩
    · show (match hupd H na (.dict (numD (vs ++ [v]))) ga with
        | some (.list vs) => if vs.length < lim then some (Res.upd ga (.list (vs ++ [v])) .none) else none
        | _ => none) = _
      rw [l1]; simp only [hl, if_true]
    rw [fin_upd]
    refine ⟨rfl, ?_⟩
    rw [s_nil]
    have nd' : (vs ++ [v]).Nodup := by
      rw [List.nodup_append]
      exact ⟨h.nd, by simp, fun a ha b hb e => by simp at hb; rw [hb] at e; exact hm (e ▸ ha)⟩
    have ok' : KeysOK c (vs ++ [v]) := ⟨h.ok.1, fun u hu => by
      rcases List.mem_append.mp hu with k | k
      · exact h.ok.2 u k
      · simp at k; rw [k]; exact hv⟩
    have hN : Num c (hupd (hupd H na (.dict (numD (vs ++ [v])))) ga (.list (vs ++ [v]))) na ga (vs ++ [v]) := ⟨by rw [hupd_ne hne]; exact hupd_eq .., hupd_eq .., nd', ok'⟩
    have hx : ExtL [na, ga] H (hupd (hupd H na (.dict (numD (vs ++ [v])))) ga (.list (vs ++ [v]))) := (ExtL.upd (by simp)).trans (.upd (by simp))
    generalize hupd (hupd H na (.dict (numD (vs ++ [v])))) ga (.list (vs ++ [v])) = H' at hN hx
    have hf2 : dfind (numD (vs ++ [v])) v = some (.int vs.length) := by
      have := numF_find (vs ++ [v]) 0 vs.length (by simp) nd'
      simpa [numD] using this
    refine st_back (v := .int vs.length) (by simp [bindE, List.lookup, idx_dict hN.d (ok'.dOK hv), hf2]) ?_
    exact hQ vs.length _ H' hN hx (by simp) (.inr ⟨hm, rfl⟩)

noncomputable def tupI (g : List Int) : V := .tup (g.map .int)
theorem tupI_inj {a b : List Int} (h : tupI a = tupI b) : a = b := by
  have h' : a.map V.int = b.map V.int := by unfold tupI at h; injection h
  exact List.map_inj_right (fun x y e => by injection e) |>.mp h'
theorem kk_tupI (g : List Int) : kk (tupI g) = 2 := by
  have : intsAll (g.map V.int) = true := by
    unfold intsAll; rw [List.all_eq_true]; intro v hv; obtain ⟨x, _, rfl⟩ := List.mem_map.mp hv; rfl
  simp [kk, tupI, this]
theorem insI_mem (x y : Int) : ∀ l : List Int, y ∈ insI x l ↔ y = x ∨ y ∈ l
  | [] => by simp [insI]
  | a :: l => by
    unfold insI
    split
    · simp
    · simp only [List.mem_cons, insI_mem x y l]
      constructor
      · rintro (h | h | h)
        · exact .inr (.inl h)
        · exact .inl h
        · exact .inr (.inr h)
      · rintro (h | h | h)
        · exact .inr (.inl h)
        · exact .inl h
        · exact .inr (.inr h)
theorem sortI_mem (y : Int) : ∀ l : List Int, y ∈ sortI l ↔ y ∈ l
  | [] => by simp [sortI]
  | a :: l => by simp only [sortI, insI_mem, sortI_mem y l, List.mem_cons]
theorem insI_len (x : Int) : ∀ l : List Int, (insI x l).length = l.length + 1
  | [] => rfl
  | a :: l => by unfold insI; split <;> simp [insI_len x l]
theorem sortI_len : ∀ l : List Int, (sortI l).length = l.length
  | [] => rfl
  | a :: l => by simp [sortI, insI_len, sortI_len l]
theorem insI_lt {x : Int} : ∀ {l : List Int}, l.Pairwise (· < ·) → x ∉ l → (insI x l).Pairwise (· < ·)
  | [], _, _ => by simp [insI]
  | a :: l, h, hx => by
    obtain ⟨h1, h2⟩ := List.pairwise_cons.mp h
    simp only [List.mem_cons, not_or] at hx
    unfold insI
    split
    · refine List.pairwise_cons.mpr ⟨fun y hy => ?_, h⟩
      rcases List.mem_cons.mp hy with rfl | hy
      · (first | lia | omega)
      · have := h1 y hy; (first | lia | omega)
    · refine List.pairwise_cons.mpr ⟨fun y hy => ?_, insI_lt h2 hx.2⟩
      rcases (insI_mem x y l).mp hy with rfl | hy
      · (first | lia | omega)
      · exact h1 y hy
theorem sortI_lt : ∀ {l : List Int}, l.Nodup → (sortI l).Pairwise (· < ·)
  | [], _ => by simp [sortI]
  | a :: l, h => by
    obtain ⟨h1, h2⟩ := List.nodup_cons.mp h
    exact insI_lt (sortI_lt h2) (fun k => h1 ((sortI_mem a l).mp k))
noncomputable def Grp (n : Nat) (g : List Int) : Prop := g.Pairwise (· < ·) ∧ ∀ x ∈ g, 0 ≤ x ∧ x < n
theorem grp_subs : ∀ (n : Nat) (g : List Int), Grp n g → g ∈ subs n
  | 0, g, h => by
    cases g with
    | nil => simp [subs]
    | cons x l => have := h.2 x (.head _); (first | lia | omega)
  | n + 1, g, h => by
    unfold subs
    rw [List.mem_append]
    rcases List.eq_nil_or_concat g with rfl | ⟨g', y, rfl⟩
    · exact .inl (grp_subs n [] ⟨.nil, fun x hx => by cases hx⟩)
    · rw [List.concat_eq_append] at h ⊢
      obtain ⟨p1, p2, p3⟩ := List.pairwise_append.mp h.1
      have hy := h.2 y (by simp)
      have hg' : ∀ x ∈ g', 0 ≤ x ∧ x < y := fun x hx => ⟨(h.2 x (by simp [hx])).1, p3 x hx y (by simp)⟩
      by_cases e : y = n
      · subst e
        refine .inr (List.mem_map.mpr ⟨g', grp_subs n g' ⟨p1, hg'⟩, rfl⟩)
      · refine .inl (grp_subs n _ ⟨h.1, fun x hx => ?_⟩)
        rcases List.mem_append.mp hx with k | k
        · have := hg' x k; (first | lia | omega)
        · simp at k; (first | lia | omega)
theorem nodup_le {α : Type} [DecidableEq α] : ∀ {l L : List α}, l.Nodup → (∀ x ∈ l, x ∈ L) → l.length ≤ L.length
  | [], L, _, _ => Nat.zero_le _
  | a :: l, L, h, hs => by
    obtain ⟨h1, h2⟩ := List.nodup_cons.mp h
    have ha := hs a (.head _)
    have := nodup_le (l := l) (L := L.erase a) h2 fun x hx => (List.mem_erase_of_ne (fun e : x = a => h1 (e ▸ hx))).mpr (hs x (.tail _ hx))
    rw [List.length_erase_of_mem ha] at this
    have hp := List.length_pos_of_mem ha
    simp; (first | lia | omega)
theorem grps_le {n : Nat} {G : List (List Int)} (nd : G.Nodup) (h : ∀ g ∈ G, Grp n g) : G.length ≤ 2 ^ n := by
  rw [← subs_len]; exact nodup_le nd fun g hg => grp_subs n g (h g hg)
end Mini

end
section
set_option autoImplicit false
set_option linter.unusedVariables false
set_option linter.unusedSimpArgs false
set_option maxRecDepth 100000
namespace Mini
open PySem

section
variable {α : Type} [DecidableEq α]
noncomputable def addK (l : List α) (x : α) : List α := if x ∈ l then l else l ++ [x]
theorem addK_mem (l : List α) (x y : α) : y ∈ addK l x ↔ y ∈ l ∨ y = x := by
  unfold addK; split
  · rename_i h; exact ⟨.inl, fun k => k.elim id fun e => e ▸ h⟩
  · simp
theorem addK_nodup {l : List α} (h : l.Nodup) (x : α) : (addK l x).Nodup := by
  unfold addK; split
  · exact h
  · rename_i hx
    rw [List.nodup_append]
    exact ⟨h, by simp, fun a ha b hb e => by simp at hb; rw [hb] at e; exact hx (e ▸ ha)⟩
theorem foldAdd_mem {β : Type} (f : β → α) : ∀ (g : List β) (l : List α) (x : α), x ∈ g.foldl (fun l y => addK l (f y)) l ↔ x ∈ l ∨ ∃ y ∈ g, x = f y
  | [], l, x => by simp
  | b :: g, l, x => by
    rw [List.foldl_cons, foldAdd_mem f g, addK_mem]
    constructor
    · rintro ((h | h) | ⟨y, hy, h⟩)
      · exact .inl h
      · exact .inr ⟨b, .head _, h⟩
      · exact .inr ⟨y, .tail _ hy, h⟩
    · rintro (h | ⟨y, hy, h⟩)
      · exact .inl (.inl h)
      · rcases List.mem_cons.mp hy with rfl | hy
        · exact .inl (.inr h)
        · exact .inr ⟨y, hy, h⟩
theorem foldAdd_nodup {β : Type} (f : β → α) : ∀ (g : List β) {l : List α}, l.Nodup → (g.foldl (fun l y => addK l (f y)) l).Nodup
  | [], l, h => h
  | b :: g, l, h => by rw [List.foldl_cons]; exact foldAdd_nodup f g (addK_nodup h _)
end
noncomputable def keysAt (M : Mach) (g : List Int) (l : List Int) (k : Nat) : List Int := g.foldl (fun l y => addK l (M.st y k)) l
theorem ints_le {n : Nat} {l : List Int} (nd : l.Nodup) (h : ∀ x ∈ l, 0 ≤ x ∧ x < n) : l.length ≤ n := by
  have := nodup_le (L := (List.range n).map fun (i : Nat) => (i : Int)) nd fun x hx => List.mem_map.mpr ⟨x.toNat, by have := h x hx; simp; (first | lia | omega), by have := h x hx; (first | lia | omega)⟩
  simpa using this
noncomputable def dictB (l : List Int) : List (V × V) := l.map fun x => (.int x, .bool true)
theorem dictB_ok (l : List Int) (x : Int) : dOK (dictB l) (.int x) = true := by
  unfold dOK
  rw [Bool.and_eq_true, decide_eq_true_eq, List.all_eq_true]
  refine ⟨by simp [kk], fun p hp => ?_⟩
  obtain ⟨y, _, rfl⟩ := List.mem_map.mp hp
  simp [kk]
theorem dictB_put : ∀ (l : List Int) (x : Int), dput (dictB l) (.int x) (.bool true) = dictB (addK l x)
  | [], x => rfl
  | a :: l, x => by
    by_cases e : a = x
    · subst e; simp [dictB, dput, addK]
    · have hne : ¬ (V.int a = V.int x) := fun h => e (by injection h)
      have ih := dictB_put l x
      simp only [dictB, List.map_cons, dput, hne, if_false] at ih ⊢
      rw [ih]
      unfold addK
      by_cases hx : x ∈ l
      · simp [hx]
      · have : ¬ (x = a ∨ x ∈ l) := fun h => h.elim (fun q => e q.symm) hx
        have e' : ¬ x = a := fun q => e q.symm
        simp [hx, e']
theorem dictB_keys (l : List Int) : ints? ((dictB l).map (·.1)) = some l := by
  have : (dictB l).map (·.1) = l.map V.int := by simp [dictB]
  rw [this, ints_ok]

abbrev LedTab (tab : Tab) : Prop := tab.lookup "led_to" = some (["machine", "rooms", "mark", "kept"], b_led_to)
end Mini

end
section
set_option autoImplicit false
set_option linter.unusedVariables false
set_option linter.unusedSimpArgs false
set_option maxRecDepth 100000
namespace Mini
open PySem

theorem addK_len {α : Type} [DecidableEq α] (l : List α) (x : α) : (addK l x).length ≤ l.length + 1 := by unfold addK; split <;> simp
theorem foldAdd_len {α : Type} [DecidableEq α] : ∀ (k l : List α), (k.foldl (fun l y => addK l y) l).length ≤ l.length + k.length
  | [], l => by simp
  | a :: k, l => by
    have h1 := foldAdd_len k (addK l a)
    have h2 := addK_len l a
    simp only [List.foldl_cons, List.length_cons]; (first | lia | omega)
theorem p_anyL {H : MH} {a : Addr} {bs : List Bool} (h : H a = some (.list (bs.map .bool))) : primOp .any H [.ref a] = some (.val (.bool (bs.any id))) := by
  show ((items H (.ref a)).bind bools?).map (fun bs => Res.val (.bool (bs.any id))) = _
  have : bools? (bs.map .bool) = some bs := by
    clear h
    induction bs with
    | nil => rfl
    | cons b bs ih => simp only [bools?, List.map_cons, mapO] at ih ⊢; rw [ih]
  simp [items, h, this]
theorem Rows.mono {L : List Addr} {H : MH} {m n n' : Nat} {rs : List Addr} {rows : List (List Int)} (h : Rows L H m n rs rows) (hn : n ≤ n') : Rows L H m n' rs rows :=
  ⟨h.len, h.at', h.off, fun r hr => ⟨(h.ok r hr).1, fun x hx => by have := (h.ok r hr).2 x hx; (first | lia | omega)⟩⟩
theorem get_tupI {G : List (List Int)} {i : Nat} {g : List Int} (h : (G.map tupI)[i]? = some (tupI g)) : G[i]? = some g := by
  rw [List.getElem?_map] at h
  obtain ⟨g', e, h⟩ := Option.map_eq_some_iff.mp h
  rw [e, tupI_inj h]

end Mini

end
section
set_option autoImplicit false
set_option linter.unusedVariables false
set_option linter.unusedSimpArgs false
set_option maxRecDepth 100000
namespace Mini
open PySem

theorem fewer_spec {tab : Tab} (hd : tab.lookup "_law_fewer" = some (["_law_steps"], b_l_fewer)) {n : Nat} {t xa : Addr} {o : Ob} {L : List Addr} {H : MH} {m n' : Nat} {rs : List Addr} {rows : List (List Int)} {Q : V → MH → Prop} {Z : Z0} (hR : Rows L H m n' rs rows) (hx : H xa = some (.list (rs.map .ref))) (h0 : 0 < rs.length) (hl : rs.length ≤ 1000) (hm : m ≤ 1000) (ht : H t = some o)
    (hQ : ∀ (fa : Addr) (bs : List Addr) (H' : MH), Ext H H' → H' fa = some (.list (bs.map .ref)) → fa ≠ t → Rows [t] H' m rows.length bs (rows.map fun row => row.map fun x => x % (rows.length : Int)) → Q (.ref fa) H') : CallN tab (n + 1) "_law_fewer" [.ref xa] Q Z H := by
  refine call_of hd rfl ?_
  have hC := CallN_mono tab n
  generalize CallN tab n = C at hC
  unfold b_l_fewer
  refine st_new (vs := []) (by simp) (by simp) fun fa hfa => ?_
  have hnf : ∀ {a : Addr} {o : Ob}, H a = some o → a ≠ fa := fun ha => ne_of_some hfa ha
  have x1 : Ext H (hupd H fa (.list [])) := .new hfa
  have f1 : hupd H fa (.list []) fa = some (.list []) := hupd_eq ..
  generalize hupd H fa (.list []) = H1 at x1 f1
  have hlr := hR.len
  refine st_forI hC (sv := .ref xa) (by kernel_rfl) (src_list (x1 _ _ hx)) (fun i ρ' H' => (ρ' "_law_steps" = some (.ref xa) ∧ ρ' "_law_found" = some (.ref fa)) ∧ ExtL [fa] H1 H' ∧ ∃ bs : List Addr, H' fa = some (.list (bs.map .ref)) ∧ fa ∉ bs ∧ bs.length = i ∧ Rows [t] H' m rows.length bs ((rows.take i).map fun row => row.map fun x => x % (rows.length : Int))) ⟨⟨by simp [upd, bindE, List.lookup], by simp [upd]⟩, .refl _ _, [], f1, by simp, rfl, by simp, (fun i hi => by cases hi), (fun a ha => by cases ha), fun a ha => by simp at ha⟩ ?_ ?_ ?_
  · rintro i ρ' H' ⟨_, x, _⟩; exact x _ _ (by simp [hnf hx]) (x1 _ _ hx)
  · rintro i hi ρ' H' ⟨⟨q1, q2⟩, x, bs, e1, e2, e3, e4⟩
    have hi' : i < rs.length := by simpa using hi
    have ei : (rs.map V.ref)[i] = V.ref rs[i] := by simp
    rw [ei]
    have hs : ∀ {a : Addr} {o : Ob}, H a = some o → H' a = some o := fun ha => x _ _ (by simp [hnf ha]) (x1 _ _ ha)
    have hri := hs (hR.at' i hi' (by (first | lia | omega)))
    have hxa := hs hx
    have hro := hR.ok _ (List.getElem_mem (show i < rows.length by (first | lia | omega)))
    refine st_app (v := .none) (Eq.trans (by kernel_rfl) q2) e1 (by rw [List.length_map]; unfold lim; (first | lia | omega)) ?_ hC
    refine i_compP hC (l := rows[i]'(by (first | lia | omega))) (g := .int) (f := fun x => .int (x % (rows.length : Int))) (sv := .ref rs[i]) (by kernel_rfl) (src_list hri) hri (fun y hy => ?_) (by rw [hro.1]; unfold lim; (first | lia | omega)) fun a ha => ?_
    · simp [upd, q1, p_lenL hxa, hlr, p_mod H' _ _ (show (0 : Int) < (rows.length : Int) by (first | lia | omega))]
    · refine ⟨new_other ha e1, ?_⟩
      rw [s_nil]
      have hne : fa ≠ a := ne_of_some ha e1
      have hta : a ≠ t := fun q => by rw [q, hs ht] at ha; cases ha
      refine ⟨⟨by simp [upd, q1], by simp [upd, q2]⟩, (x.trans (Ext.new ha).toL).trans (.upd (by simp)), bs ++ [a], by rw [hupd_eq]; simp, by simp [e2, hne], by simp [e3], ?_⟩
      rw [List.take_succ_eq_append_getElem (by (first | lia | omega)), List.map_append]
      refine ((e4.extL (L' := []) (Ext.new ha).toL (by simp)).extL (L' := [fa]) (.upd (by simp)) (fun b hb => by simp; exact fun q => e2 (q ▸ hb))).snoc ?_ (by simp [hta]) ⟨by rw [List.length_map]; exact hro.1, fun y hy => ?_⟩
      · rw [hupd_ne hne.symm, hupd_eq, List.map_map]; rfl
      · obtain ⟨z, _, rfl⟩ := List.mem_map.mp hy
        exact ⟨Int.emod_nonneg _ (by (first | lia | omega)), Int.emod_lt_of_pos _ (by (first | lia | omega))⟩
  · rintro ρ' H' ⟨⟨q1, q2⟩, x, bs, e1, e2, e3, e4⟩
    refine st_back (v := .ref fa) (Eq.trans (by kernel_rfl) q2) ?_
    rw [List.length_map, hlr, List.take_length] at e4
    exact hQ fa bs H' (fun a oo ha => x _ _ (by simp [hnf ha]) (x1 _ _ ha)) e1 (fun e => by rw [e] at hfa; rw [hfa] at ht; cases ht) e4
end Mini

end
section
set_option autoImplicit false
set_option linter.unusedVariables false
set_option linter.unusedSimpArgs false
set_option maxRecDepth 100000
namespace Mini
open PySem

abbrev NumTab (tab : Tab) : Prop := tab.lookup "number_of" = some (["thing", "numbers", "things"], b_number_of)

end Mini

end
section
set_option autoImplicit false
set_option linter.unusedVariables false
set_option linter.unusedSimpArgs false
set_option maxRecDepth 100000
namespace Mini
open PySem

theorem fresh_E {a : Addr} {H H' : MH} (x : Ext H H') (ha : H' a = none) : H a = none := by
  cases q : H a with
  | none => rfl
  | some o => rw [x _ _ q] at ha; cases ha

end Mini

end
section
set_option autoImplicit false
set_option linter.unusedVariables false
set_option linter.unusedSimpArgs false
set_option maxRecDepth 100000
namespace Mini
open PySem

theorem eqvAll_cons (x y : PyData) (xs ys : List PyData) : PyData.eqvAll (x :: xs) (y :: ys) = (PyData.eqv x y && PyData.eqvAll xs ys) := by kernel_rfl
theorem eqvAll_self : ∀ {ds : List PyData}, (∀ d ∈ ds, PyData.eqv d d = true) → PyData.eqvAll ds ds = true
  | [], _ => by kernel_rfl
  | d :: ds, h => by rw [eqvAll_cons, h d (.head _), eqvAll_self fun x hx => h x (.tail _ hx)]; rfl
theorem eqv_list (xs ys : List PyData) : PyData.eqv (.list xs) (.list ys) = PyData.eqvAll xs ys := by kernel_rfl
theorem eqv_tuple (xs ys : List PyData) : PyData.eqv (.tuple xs) (.tuple ys) = PyData.eqvAll xs ys := by kernel_rfl
theorem eqv_bool (x y : Bool) : PyData.eqv (.bool x) (.bool y) = (x == y) := by kernel_rfl
theorem toD_refK {H : MH} {a : Addr} {vs : List V} (k : Nat) (h : H a = some (.list vs)) : toD (k + 1) H (.ref a) = (mapO (toD k H) vs).map .list := by
  have e : toD (k + 1) H (.ref a) = match H a with
    | some (.list vs) => (mapO (toD k H) vs).map .list
    | _ => Option.none := by kernel_rfl
  rw [e, h]
noncomputable def mdata (ds : List PyData) (M : Mach) : PyData := .tuple [.tuple ds, .list ((List.range M.n).map fun (i : Nat) => .list ((List.range M.m).map fun k => .int (M.st i k))), .list ((List.range M.n).map fun (i : Nat) => .bool (M.go i))]
theorem MachAt.rsmap {t : Addr} {H : MH} {sa ga : Addr} {rs : List Addr} {M : Mach} (h : MachAt t H sa ga rs M) : rs.map V.ref = (List.range M.n).map fun i => .ref (rs.getD i 0) := by
  apply List.ext_getElem
  · simp [h.l]
  · intro j h1 h2
    have h3 : j < rs.length := by simpa using h1
    simp [List.getD, List.getElem?_eq_getElem h3]
theorem MachAt.toD {t : Addr} {H : MH} {sa ga : Addr} {rs : List Addr} {M : Mach} {mv : List V} {ds : List PyData} (h : MachAt t H sa ga rs M) (hm : ∀ H k, mapO (Mini.toD (k + 1) H) mv = some ds) (k : Nat) : Mini.toD (k + 3) H (mval mv sa ga) = some (mdata ds M) := by
  unfold mval
  rw [toD_tupK]
  have e1 : Mini.toD (k + 2) H (.tup mv) = some (.tuple ds) := by rw [toD_tupK, hm H k]; rfl
  have e3 : Mini.toD (k + 2) H (.ref ga) = some (.list ((List.range M.n).map fun (i : Nat) => .bool (M.go i))) := by
    rw [toD_refK (k + 1) h.g, mapO_map _ fun (i : Nat) _ => toD_boolK (k + 1) H (M.go i)]; rfl
  have e2 : Mini.toD (k + 2) H (.ref sa) = some (.list ((List.range M.n).map fun (i : Nat) => .list ((List.range M.m).map fun k => .int (M.st i k)))) := by
    rw [toD_refK (k + 1) h.s, h.rsmap, mapO_map (h := fun (i : Nat) => .list ((List.range M.m).map fun k => .int (M.st i k))) _ fun i hi => ?_]
    · rfl
    · have hi' : i < rs.length := by rw [h.l]; simpa using hi
      have e : rs.getD i 0 = rs[i] := by simp [List.getD, List.getElem?_eq_getElem hi']
      rw [e, toD_refK k (h.r i hi'), mapO_map _ fun j _ => toD_intK k H (M.st i j)]; rfl
  rw [mapO_cons1 e1 (mapO_cons1 e2 (mapO_cons1 e3 rfl))]; rfl
theorem eqv_mdata {ds : List PyData} (h : ∀ i j (hi : i < ds.length) (hj : j < ds.length), PyData.eqv ds[i] ds[j] = decide (i = j)) (M : Mach) : PyData.eqv (mdata ds M) (mdata ds M) = true := by
  unfold mdata
  rw [eqv_tuple]
  refine eqvAll_self fun d hd => ?_
  simp only [List.mem_cons, List.not_mem_nil, or_false] at hd
  rcases hd with rfl | rfl | rfl
  · rw [eqv_tuple]
    refine eqvAll_self fun d hd => ?_
    obtain ⟨i, hi, rfl⟩ := List.mem_iff_getElem.mp hd
    rw [h]; simp
  · rw [eqv_list]
    refine eqvAll_self fun d hd => ?_
    obtain ⟨i, _, rfl⟩ := List.mem_map.mp hd
    rw [eqv_list]
    refine eqvAll_self fun d hd => ?_
    obtain ⟨j, _, rfl⟩ := List.mem_map.mp hd
    rw [eqv_int]; simp
  · rw [eqv_list]
    refine eqvAll_self fun d hd => ?_
    obtain ⟨i, _, rfl⟩ := List.mem_map.mp hd
    rw [eqv_bool]; simp
abbrev CopyTab (tab : Tab) : Prop := tab.lookup "_law_copy" = some (["_law_machine_here"], b_l_copy)
theorem p_listOfL {H : MH} {a : Addr} {vs : List V} (h : H a = some (.list vs)) : primOp .listOf H [.ref a] = newL vs := by
  show (items H (.ref a)).bind newL = _
  simp [items, h]
theorem copy_spec {tab : Tab} (hd : CopyTab tab) {n : Nat} {t : Addr} {H : MH} {sa ga : Addr} {rs : List Addr} {M : Mach} {mv : List V} {o : Ob} {Q : V → MH → Prop} {Z : Z0} (hn : M.n ≤ 1000) (hm : M.m ≤ 1000) (h : MachAt t H sa ga rs M) (ht : H t = some o)
    (hQ : ∀ (sb gb : Addr) (rb : List Addr) (H' : MH), Ext H H' → MachAt t H' sb gb rb M → Q (mval mv sb gb) H') : CallN tab (n + 1) "_law_copy" [mval mv sa ga] Q Z H := by
  refine call_of hd rfl ?_
  have hC := CallN_mono tab n
  unfold b_l_copy
  rw [s_cons, s_ret, w_prim]
  refine l_pure (v := .tup mv) (by kernel_rfl) ?_
  rw [w_cons]
  refine i_compI hC (sv := .ref sa) (by kernel_rfl) (src_list h.s) (fun j acc H' => Ext H H' ∧ ∃ rb : List Addr, acc = rb.map .ref ∧ rb.length = j ∧ ∀ i (hi : i < rb.length), H' rb[i] = some (.list ((List.range M.m).map fun k => .int (M.st i k))) ∧ rb[i] ≠ t) ⟨.refl _, [], rfl, rfl, fun i hi => by cases hi⟩ (fun j acc H' k => k.1 _ _ h.s) ?_ ?_
  · rintro j hj acc H' ⟨x, rb, rfl, hl, hr⟩
    have hj' : j < rs.length := by simpa using hj
    have ej : (rs.map V.ref)[j] = V.ref rs[j] := by simp
    rw [ej, w_prim]
    refine pevs_ok _ [.ref rs[j]] _ (by kernel_rfl) ⟨_, by rw [p_listOfL (x _ _ (h.r j hj'))]; exact newL_ok (by simp; unfold lim; (first | lia | omega)), ?_⟩
    rw [fin_new]
    intro a ha
    refine ⟨x.trans (.new ha), rb ++ [a], by simp, by simp [hl], fun i hi => ?_⟩
    rcases Nat.lt_or_ge i rb.length with q | q
    · rw [List.getElem_append_left q]
      exact ⟨new_other ha (hr i q).1, (hr i q).2⟩
    · have : i = rb.length := by simp at hi; (first | lia | omega)
      subst this
      simp only [List.getElem_concat_length, hupd_eq, hl, true_and]
      exact fun e => by rw [e, x _ _ ht] at ha; cases ha
  · rintro acc H' ⟨x, rb, rfl, hl, hr⟩
    rw [List.length_map] at hl
    refine ⟨by rw [List.length_map, hl, h.l]; unfold lim; (first | lia | omega), fun sb hsb => ?_⟩
    have hM : MachAt t H' sa ga rs M := h.extT x.toT
    have tn : sb ≠ t := fun e => by rw [e, x _ _ ht] at hsb; cases hsb
    show wpL _ _ _ _ _ _
    rw [w_cons, w_prim]
    refine pevs_ok _ [.ref ga] _ (by kernel_rfl) ⟨_, by rw [p_listOfL (new_other hsb hM.g)]; exact newL_ok (by simp; unfold lim; (first | lia | omega)), ?_⟩
    rw [fin_new]
    intro gb hgb
    rw [w_nil]
    refine ⟨.val (mval mv sb gb), by rw [p_tuple]; exact valT_ok (by simp; decide), ?_⟩
    rw [fin_val]
    have x2 : Ext H' (hupd (hupd H' sb (.list (rb.map .ref))) gb (.list ((List.range M.n).map fun (i : Nat) => .bool (M.go i)))) := (Ext.new hsb).trans (.new hgb)
    have s2 : hupd (hupd H' sb (.list (rb.map .ref))) gb (.list ((List.range M.n).map fun (i : Nat) => .bool (M.go i))) sb = some (.list (rb.map .ref)) := new_other hgb (hupd_eq ..)
    have gn : gb ≠ t := fun e => by rw [e, new_other hsb (x _ _ ht)] at hgb; cases hgb
    refine hQ sb gb rb _ (x.trans x2) ⟨s2, hupd_eq .., by rw [hl, h.l], fun i hi => x2 _ _ (hr i hi).1, tn, gn, fun a ha => ?_⟩
    obtain ⟨i, hi, rfl⟩ := List.mem_iff_getElem.mp ha
    exact (hr i hi).2
end Mini

end
section
set_option autoImplicit false
set_option linter.unusedVariables false
set_option linter.unusedSimpArgs false
set_option maxRecDepth 100000
namespace Mini
open PySem

theorem eq_marks {H : MH} {mv : List V} (hm : Marks mv) : eqOp H (.tup mv) (.tup mv) = some true := by
  obtain ⟨ds, h1, h2⟩ := hm
  have e : toD lineD H (.tup mv) = some (.tuple ds) := by
    show toD (38 + 1 + 1) H (.tup mv) = _
    rw [toD_tupK, h1 H 38]; rfl
  rw [eqOp_of e e, eqv_tuple, eqvAll_self fun d hd => ?_]
  obtain ⟨i, hi, rfl⟩ := List.mem_iff_getElem.mp hd
  rw [h2]; simp
theorem isi_list {H : MH} {a : Addr} {vs : List V} (h : H a = some (.list vs)) : isiOf H .list (.ref a) = some true := by
  show (match H a with
    | some (.list _) => some (Ty.list == Ty.list)
    | _ => Option.none) = _
  rw [h]; rfl
theorem p_allL {H : MH} {a : Addr} {bs : List Bool} (h : H a = some (.list (bs.map .bool))) : primOp .all H [.ref a] = some (.val (.bool (bs.all id))) := by
  show ((items H (.ref a)).bind bools?).map (fun bs => Res.val (.bool (bs.all id))) = _
  have : bools? (bs.map .bool) = some bs := by
    clear h
    induction bs with
    | nil => rfl
    | cons b bs ih => simp only [bools?, List.map_cons, mapO] at ih ⊢; rw [ih]
  simp [items, h, this]
theorem fold_pick {f : Int → Int → Int} (hf : ∀ a b, f a b = a ∨ f a b = b) : ∀ (l : List Int) (i : Int), l.foldl f i ∈ i :: l
  | [], i => by simp
  | a :: l, i => by
    rw [List.foldl_cons]
    have := fold_pick hf l (f i a)
    rcases List.mem_cons.mp this with e | e
    · rw [e]; rcases hf i a with q | q <;> rw [q] <;> simp
    · exact .tail _ (.tail _ e)
theorem minL_prim {H : MH} {a : Addr} {l : List Int} (h : H a = some (.list (l.map .int))) (hl : 0 < l.length) : ∃ j ∈ l, primOp .minL H [.ref a] = some (.val (.int j)) := by
  cases l with
  | nil => cases hl
  | cons i l =>
    refine ⟨l.foldl (fun m x => if x < m then x else m) i, fold_pick (fun a b => by split <;> simp) l i, ?_⟩
    show (match (items H (.ref a)).bind ints? with
    | some (i :: is) => some (Res.val (.int (is.foldl (fun m x => if x < m then x else m) i)))
    | _ => none) = _
    have e : (items H (.ref a)).bind ints? = some (i :: l) := by simp only [items, h, Option.bind_some]; exact ints_ok (i :: l)
    rw [e]
theorem maxL_prim {H : MH} {a : Addr} {l : List Int} (h : H a = some (.list (l.map .int))) (hl : 0 < l.length) : ∃ j ∈ l, primOp .maxL H [.ref a] = some (.val (.int j)) := by
  cases l with
  | nil => cases hl
  | cons i l =>
    refine ⟨l.foldl (fun m x => if m < x then x else m) i, fold_pick (fun a b => by split <;> simp) l i, ?_⟩
    show (match (items H (.ref a)).bind ints? with
    | some (i :: is) => some (Res.val (.int (is.foldl (fun m x => if m < x then x else m) i)))
    | _ => none) = _
    have e : (items H (.ref a)).bind ints? = some (i :: l) := by simp only [items, h, Option.bind_some]; exact ints_ok (i :: l)
    rw [e]
structure IsmTab (tab : Tab) : Prop where
  wh : tab.lookup "_law_whole" = some (["_law_found"], b_l_whole)
  im : tab.lookup "_law_is_machine" = some (["_law_found", "_law_marks_here"], b_l_is_machine)
theorem all_true {α : Type} (l : List α) : (l.map fun _ => true).all id = true := by simp
section
variable {H : MH} {ρ : Env} {e el er : X}
theorem por {x y : Bool} (h1 : pev H ρ el = some (.bool x)) (h2 : pev H ρ er = some (.bool y)) : pev H ρ (.or el er) = some (.bool (or x y)) := by
  rw [pev_or, h1]; cases x
  · exact h2
  · rfl
theorem pnt {x : Bool} (h : pev H ρ e = some (.bool x)) : pev H ρ (.prim .not [e]) = some (.bool (!x)) := p1 h (p_not _ _)
theorem pisi {v : V} {t : Ty} {b : Bool} (h : pev H ρ e = some v) (hb : isiOf H t v = some b) : pev H ρ (.prim (.isi t) [e]) = some (.bool b) := p1 h (by rw [p_isi, hb]; rfl)
theorem pge {i j : Int} (h1 : pev H ρ el = some (.int i)) (h2 : pev H ρ er = some (.int j)) : pev H ρ (.prim .ge [el, er]) = some (.bool (decide (j ≤ i))) := p2 h1 h2 (p_ge _ _ _)
end
theorem ism_spec {tab : Tab} (T : IsmTab tab) {n : Nat} {t : Addr} {H : MH} {sa ga : Addr} {rs : List Addr} {M : Mach} {mv : List V} {Q : V → MH → Prop} {Z : Z0} (hok : M.OK) (hn : M.n ≤ 1000) (hm0 : 1 ≤ M.m) (hm : M.m ≤ 1000) (hmk : Marks mv) (hml : mv.length = M.m) (h : MachAt t H sa ga rs M)
    (hQ : ∀ H', Ext H H' → Q (.bool true) H') : CallN tab (n + 2) "_law_is_machine" [mval mv sa ga, .tup mv] Q Z H := by
  refine call_of T.im rfl ?_
  have hC := CallN_mono tab (n + 1)
  unfold b_l_is_machine
  have v1 : valT mv = some (.val (.tup mv)) := valT_ok (by unfold lim; (first | lia | omega))
  have hr1 : bindE ["_law_found", "_law_marks_here"] [mval mv sa ga, .tup mv] "_law_found" = some (mval mv sa ga) := by kernel_rfl
  have hr2 : bindE ["_law_found", "_law_marks_here"] [mval mv sa ga, .tup mv] "_law_marks_here" = some (.tup mv) := by kernel_rfl
  generalize bindE ["_law_found", "_law_marks_here"] [mval mv sa ga, .tup mv] = ρ at hr1 hr2
  have htu : primOp .tupleOf H [.tup mv] = some (.val (.tup mv)) := by show (items H (.tup mv)).bind valT = _; exact v1
  refine st_if (b := false) (Eq.trans (por (pnt (pisi (pva hr1) rfl)) (por (pne (p1 (pva hr1) (p_lenT _ _)) pc eq_int) (por (pnt (pisi (pm0 hr1) rfl)) (pne (pm0 hr1) (p1 (pva hr2) htu) (eq_marks hmk))))) (by kernel_rfl)) (fun e => by cases e) fun _ => ?_
  rw [s_nil]
  refine st_if (b := false) (by rw [por (pnt (pisi (pm1 hr1) (isi_list h.s))) (por (pnt (pisi (pm2 hr1) (isi_list h.g))) (pne (pln (pm1 hr1) h.s) (pln (pm2 hr1) h.g) eq_int)), List.length_map, List.length_map, List.length_range, h.l]; simp) (fun e => by cases e) fun _ => ?_
  rw [s_nil]
  refine st_forI hC (sv := .ref sa) (pm1 hr1) (src_list h.s) (fun j ρ' H' => Ext H H' ∧ ρ' "_law_found" = some (mval mv sa ga)) ⟨.refl _, hr1⟩ (fun j ρ' H' k => k.1 _ _ h.s) ?_ ?_
  · rintro j hj ρ' H' ⟨x, q1⟩
    have hj' : j < rs.length := by simpa using hj
    have ej : (rs.map V.ref)[j] = V.ref rs[j] := by simp
    rw [ej]
    have hrow : ∀ {H2 : MH}, Ext H H2 → H2 rs[j] = some (.list ((List.range M.m).map fun k => .int (M.st j k))) := fun y => y _ _ (h.r j hj')
    have eI : ((List.range M.m).map fun k => V.int (M.st j k)) = ((List.range M.m).map fun k => M.st j k).map .int := by simp
    rw [s_cons, s_ifs, w_or]
    refine pev_ok _ (.bool false) _ (pnt (pisi (pva (by kernel_rfl)) (isi_list (hrow x)))) ?_
    rw [asB_bool]
    refine ⟨fun _ => ?_, fun e => by cases e⟩
    rw [w_or]
    refine pev_ok _ (.bool false) _ (by rw [pne (pln (pva (by kernel_rfl)) (hrow x)) (p1 (pm0 (Eq.trans (by kernel_rfl) q1)) (p_lenT _ _)) eq_int, len_rangeV, hml]; simp) ?_
    rw [asB_bool]
    refine ⟨fun _ => ?_, fun e => by cases e⟩
    rw [w_prim, w_cons, w_prim, w_cons]
    refine i_compE hC (l := List.range M.m) (g := fun k => .int (M.st j k)) (f := fun _ => .bool true) (sv := .ref rs[j]) (by kernel_rfl) (src_list (hrow x)) (fun H2 y => y _ _ (hrow x)) (fun k hk H2 y => ?_) (by simp; unfold lim; (first | lia | omega)) fun a H2 y ha => ?_
    · refine i_call (vs := [.int (M.st j k)]) (by kernel_rfl) (call_of T.wh rfl ?_)
      exact st_back (v := .bool true) (by kernel_rfl) ⟨rfl, .refl _⟩
    rw [w_nil]
    have x3 : Ext H (hupd H2 a (.list ((List.range M.m).map fun _ => .bool true))) := (x.trans y).trans (.new ha)
    refine ⟨.val (.bool true), by rw [p_allL (bs := (List.range M.m).map fun _ => true) (by rw [hupd_eq, List.map_map]; rfl), all_true], ?_⟩
    rw [fin_val, w_nil]
    refine ⟨_, p_not _ _, ?_⟩
    rw [fin_val, asB_bool]
    refine ⟨fun e => by (cases e), fun _ => ?_⟩
    rw [s_nil]
    generalize hupd H2 a (.list ((List.range M.m).map fun _ => .bool true)) = H3 at x3
    have hlr : 0 < ((List.range M.m).map fun k => M.st j k).length := by simp; (first | lia | omega)
    obtain ⟨lo, hlo, elo⟩ := minL_prim (H := H3) (a := rs[j]) (l := (List.range M.m).map fun k => M.st j k) (by rw [← eI]; exact hrow x3) hlr
    obtain ⟨hi, hhi, ehi⟩ := maxL_prim (H := H3) (a := rs[j]) (l := (List.range M.m).map fun k => M.st j k) (by rw [← eI]; exact hrow x3) hlr
    have hb : ∀ y ∈ (List.range M.m).map fun k => M.st j k, 0 ≤ y ∧ y < M.n := fun y hy => by
      obtain ⟨k, hk, rfl⟩ := List.mem_map.mp hy
      exact hok.2 j k (by (first | lia | omega)) (by have := h.l; (first | lia | omega)) (by simpa using hk)
    have b1 := hb lo hlo
    have b2 := hb hi hhi
    refine st_if (b := false) ?_ (fun e => by cases e) fun _ => ?_
    · have d1 : decide (lo < 0) = false := decide_eq_false (by (first | lia | omega))
      have d2 : decide (((rs.map V.ref).length : Int) ≤ hi) = false := decide_eq_false (by rw [List.length_map, h.l]; (first | lia | omega))
      have g1 : pev H3 (upd ρ' "_law_row" (.ref rs[j])) (.prim .minL [.var "_law_row"]) = some (.int lo) := p1 (pva (by kernel_rfl)) elo
      have g2 : pev H3 (upd ρ' "_law_row" (.ref rs[j])) (.prim .maxL [.var "_law_row"]) = some (.int hi) := p1 (pva (by kernel_rfl)) ehi
      rw [por (plt g1 pc) (pge g2 (pln (pm1 (Eq.trans (by kernel_rfl) q1)) (x3 _ _ h.s))), d1, d2]; rfl
    rw [s_nil, s_nil]
    exact ⟨x3, q1⟩
  · rintro ρ' H' ⟨x, q1⟩
    have hn0 := hok.1
    rw [s_cons, s_ret, w_and]
    refine pev_ok _ (.bool true) _ (Eq.trans (p2 (pln (pm1 q1) (x _ _ h.s)) pc (p_gt _ _ _)) (by rw [List.length_map, h.l, decide_eq_true (by (first | lia | omega))])) ?_
    rw [asB_bool]
    refine ⟨fun _ => ?_, fun e => by cases e⟩
    rw [w_prim, w_cons]
    refine i_compP hC (l := List.range M.n) (g := fun (i : Nat) => .bool (M.go i)) (f := fun _ => .bool true) (sv := .ref ga) (pm2 q1) (src_list (x _ _ h.g)) (x _ _ h.g) (fun i hi => by simp [upd, isiOf]) (by simp; unfold lim; (first | lia | omega)) fun a ha => ?_
    rw [w_nil]
    refine ⟨.val (.bool true), by rw [p_allL (bs := (List.range M.n).map fun _ => true) (by rw [hupd_eq, List.map_map]; rfl), all_true], ?_⟩
    rw [fin_val]
    exact hQ _ (x.trans (.new ha))

end Mini

end
section
set_option autoImplicit false
set_option linter.unusedVariables false
set_option linter.unusedSimpArgs false
set_option maxRecDepth 100000
namespace Mini
open PySem

theorem eqvAll_ints : ∀ a b : List Int, PyData.eqvAll (a.map .int) (b.map .int) = decide (a = b)
  | [], [] => by kernel_rfl
  | [], y :: b => by kernel_rfl
  | x :: a, [] => by kernel_rfl
  | x :: a, y :: b => by
    rw [List.map_cons, List.map_cons, eqvAll_cons, eqvAll_ints a b, eqv_int, Bool.eq_iff_iff]
    simp
end Mini

end
section
set_option autoImplicit false
set_option linter.unusedVariables false
set_option linter.unusedSimpArgs false
set_option maxRecDepth 100000
namespace Mini
open PySem

theorem addK_ext {α : Type} [DecidableEq α] (l : List α) (x : α) : ∃ E, addK l x = l ++ E := by
  unfold addK; split
  · exact ⟨[], by simp⟩
  · exact ⟨[x], rfl⟩
theorem addK_pos {α : Type} [DecidableEq α] {l : List α} {x : α} (h : x ∈ l) : addK l x = l := if_pos h
theorem addK_neg {α : Type} [DecidableEq α] {l : List α} {x : α} (h : x ∉ l) : addK l x = l ++ [x] := if_neg h
theorem foldK_ext {α : Type} [DecidableEq α] : ∀ (es l : List α), ∃ E, es.foldl addK l = l ++ E
  | [], l => ⟨[], by simp⟩
  | e :: es, l => by
    obtain ⟨E, h⟩ := addK_ext l e
    obtain ⟨E', h'⟩ := foldK_ext es (addK l e)
    exact ⟨E ++ E', by rw [List.foldl_cons, h', h, List.append_assoc]⟩
theorem foldK_mem {α : Type} [DecidableEq α] (es l : List α) (x : α) : x ∈ es.foldl addK l ↔ x ∈ l ∨ x ∈ es := by
  have := foldAdd_mem (fun y : α => y) es l x
  simpa using this
theorem foldK_nodup {α : Type} [DecidableEq α] (es : List α) {l : List α} (h : l.Nodup) : (es.foldl addK l).Nodup := foldAdd_nodup (fun y : α => y) es h
theorem get_ext {α : Type} {l E : List α} {i : Nat} {x : α} (h : l[i]? = some x) : (l ++ E)[i]? = some x := by
  obtain ⟨hi, rfl⟩ := List.getElem?_eq_some_iff.mp h
  rw [List.getElem?_append_left hi, List.getElem?_eq_getElem hi]
section
variable {A B : Mach}
end
end Mini

end
section
set_option autoImplicit false
set_option linter.unusedVariables false
set_option linter.unusedSimpArgs false
set_option maxRecDepth 100000
namespace Mini
open PySem

section
variable {H : MH} {ρ : Env} {el er : X}
theorem p_and {x y : Bool} (h1 : pev H ρ el = some (.bool x)) (h2 : pev H ρ er = some (.bool y)) : pev H ρ (.and el er) = some (.bool (and x y)) := by
  rw [pev_and, h1]; cases x
  · rfl
  · exact h2
end
theorem map_snoc (rs : List Addr) (a : Addr) : (rs ++ [a]).map V.ref = rs.map V.ref ++ [.ref a] := by rw [List.map_append]; rfl
theorem nin5 {a x y z w v : Addr} (h : a ≠ x) (k : a ≠ y) (l : a ≠ z) (m : a ≠ w) (n : a ≠ v) : a ∉ [x, y, z, w, v] := ninc h (nin4 k l m n)
end Mini

end
section
set_option autoImplicit false
set_option linter.unusedVariables false
set_option linter.unusedSimpArgs false
set_option maxRecDepth 100000
namespace Mini
open PySem

theorem addK_get {α : Type} [DecidableEq α] (l : List α) (x : α) : ∃ i : Nat, (addK l x)[i]? = some x :=
  List.mem_iff_getElem?.mp (by unfold addK; split <;> simp [*])
end Mini

end
section
set_option autoImplicit false
set_option linter.unusedVariables false
set_option linter.unusedSimpArgs false
set_option maxRecDepth 100000
namespace Mini
open PySem

noncomputable def DataE (v : V) : Prop := ∃ d : PyData, (∀ H k, toD (k + 1) H v = some d) ∧ PyData.eqv d d = true
noncomputable def DataL (mv : List V) : Prop := ∀ v ∈ mv, DataE v
theorem DataL.ds : ∀ {mv : List V}, DataL mv → ∃ ds : List PyData, (∀ H k, mapO (toD (k + 1) H) mv = some ds) ∧ (∀ d ∈ ds, PyData.eqv d d = true) ∧ ds.length = mv.length
  | [], _ => ⟨[], fun _ _ => rfl, (fun d hd => by cases hd), rfl⟩
  | v :: mv, h => by
    obtain ⟨d, h1, h2⟩ := h v (.head _)
    obtain ⟨ds, g1, g2, g3⟩ := DataL.ds (mv := mv) fun x hx => h x (.tail _ hx)
    refine ⟨d :: ds, fun H k => by simp only [mapO, h1 H k, g1 H k], fun x hx => ?_, by simp [g3]⟩
    rcases List.mem_cons.mp hx with rfl | hx
    · exact h2
    · exact g2 x hx
section
variable {C : CallSem} {ρ : Env} {H : MH} {t : Addr} {ma mb : List V} {A B : Mach} {sa ga sb gb ka : Addr} {Q : V → MH → Prop} {Z : Z0}
end
end Mini

end
section
set_option autoImplicit false
set_option linter.unusedVariables false
set_option linter.unusedSimpArgs false
set_option maxRecDepth 100000
namespace Mini
open PySem

theorem eq_mach2 {t : Addr} {H : MH} {sa ga sb gb : Addr} {rs rb : List Addr} {M M' : Mach} {mv : List V} (hm : Marks mv) (h : MachAt t H sa ga rs M) (h' : MachAt t H sb gb rb M') (he : ∀ ds, mdata ds M = mdata ds M') : eqOp H (mval mv sa ga) (mval mv sb gb) = some true := by
  obtain ⟨ds, h1, h2⟩ := hm
  rw [eqOp_of (h.toD h1 37) (h'.toD h1 37), ← he, eqv_mdata h2]
end Mini

end
section
set_option autoImplicit false
set_option linter.unusedVariables false
set_option linter.unusedSimpArgs false
set_option maxRecDepth 100000
namespace Mini
open PySem

theorem MachAt.offL {t : Addr} {H : MH} {sa ga : Addr} {rs : List Addr} {M : Mach} {L : List Addr} (h : MachAt t H sa ga rs M) (off : ∀ {b : Addr} {o : Ob}, H b = some o → b ∉ L) : ∀ a, a = sa ∨ a = ga ∨ a ∈ rs → a ∉ L := by
  rintro a (rfl | rfl | ha)
  · exact off h.s
  · exact off h.g
  · obtain ⟨i, hi, rfl⟩ := List.mem_iff_getElem.mp ha
    exact off (h.r i hi)
section
variable {A B : Mach}
end
end Mini

end
section
set_option autoImplicit false
set_option linter.unusedVariables false
set_option linter.unusedSimpArgs false
set_option maxRecDepth 100000
namespace Mini
open PySem

mutual
theorem eqv_comm : ∀ a b : PyData, PyData.eqv a b = PyData.eqv b a
  | .none, b => by cases b <;> kernel_rfl
  | .bool x, b => by
    cases b with
    | bool y => rw [eqv_bool, eqv_bool]; exact Bool.beq_comm
    | int i => show ((if x then 1 else 0) == i) = (i == (if x then 1 else 0)); exact Bool.beq_comm
    | _ => kernel_rfl
  | .int x, b => by
    cases b with
    | bool y => show (x == (if y then 1 else 0)) = ((if y then 1 else 0) == x); exact Bool.beq_comm
    | int i => rw [eqv_int, eqv_int]; exact Bool.beq_comm
    | _ => kernel_rfl
  | .str x, b => by
    cases b with
    | str y => rw [eqv_str, eqv_str]; exact Bool.beq_comm
    | _ => kernel_rfl
  | .list xs, b => by
    cases b with
    | list ys => rw [eqv_list, eqv_list]; exact eqvAll_comm xs ys
    | _ => kernel_rfl
  | .tuple xs, b => by
    cases b with
    | tuple ys => rw [eqv_tuple, eqv_tuple]; exact eqvAll_comm xs ys
    | _ => kernel_rfl
  | .dict xs, b => by cases b <;> kernel_rfl
theorem eqvAll_comm : ∀ a b : List PyData, PyData.eqvAll a b = PyData.eqvAll b a
  | [], b => by cases b <;> kernel_rfl
  | x :: xs, b => by
    cases b with
    | nil => kernel_rfl
    | cons y ys => rw [eqvAll_cons, eqvAll_cons, eqv_comm x y, eqvAll_comm xs ys]
end
theorem eq_rows {H : MH} {a b : Addr} {vs : List V} (hd : DataL vs) (ha : H a = some (.list vs)) (hb : H b = some (.list vs)) : eqOp H (.ref a) (.ref b) = some true := by
  obtain ⟨ds, h1, h2, _⟩ := hd.ds
  have e : ∀ {c : Addr}, H c = some (.list vs) → toD lineD H (.ref c) = some (.list ds) := fun hc => by
    show toD (39 + 1) H _ = _
    rw [toD_refK 39 hc, h1 H 38]; rfl
  rw [eqOp_of (e ha) (e hb), eqv_list, eqvAll_self h2]
end Mini

end
section
set_option autoImplicit false
set_option linter.unusedVariables false
set_option linter.unusedSimpArgs false
set_option maxRecDepth 100000
namespace Mini
open PySem

theorem insI_permP (x : Int) : ∀ l : List Int, (insI x l).Perm (x :: l)
  | [] => .refl _
  | y :: l => by
    unfold insI
    split
    · exact .refl _
    · exact ((insI_permP x l).cons y).trans (.swap ..)
theorem sortI_permP : ∀ l : List Int, (sortI l).Perm l
  | [] => .refl _
  | x :: l => (insI_permP x _).trans ((sortI_permP l).cons x)
end Mini

end
section
set_option autoImplicit false
set_option linter.unusedVariables false
set_option linter.unusedSimpArgs false
set_option maxRecDepth 100000
namespace Mini
open PySem

theorem mem_dedupP : ∀ (l : List Int) (x : Int), x ∈ dedupI l ↔ x ∈ l
  | [], x => Iff.rfl
  | y :: l, x => by
    unfold dedupI
    split
    · rename_i h
      rw [mem_dedupP l x, List.mem_cons]
      exact ⟨.inr, fun q => q.elim (fun e => e ▸ h) id⟩
    · rw [List.mem_cons, List.mem_cons, mem_dedupP l x]
theorem nodup_dedupP : ∀ l : List Int, (dedupI l).Nodup
  | [] => List.nodup_nil
  | y :: l => by
    unfold dedupI
    split
    · exact nodup_dedupP l
    · rename_i h
      exact List.nodup_cons.mpr ⟨fun q => h ((mem_dedupP l y).mp q), nodup_dedupP l⟩
theorem len_dedupP : ∀ l : List Int, (dedupI l).length ≤ l.length
  | [] => Nat.le_refl _
  | y :: l => by
    unfold dedupI
    have := len_dedupP l
    split
    · exact Nat.le_succ_of_le this
    · exact Nat.succ_le_succ this
theorem p_sset {H : MH} {a : Addr} {is : List Int} (h : H a = some (.list (is.map .int))) (hl : is.length ≤ 64) (hr : ∀ i ∈ is, 0 ≤ i ∧ i < 16) : primOp .sortedSet H [.ref a] = some (.new (.list ((sortI (dedupI is)).map .int))) := by
  show (match H a with
    | some (.list vs) => (ints? vs).bind fun is => if decide (vs.length ≤ 64) && is.all (fun i => decide (0 ≤ i) && decide (i < 16)) then newL ((sortI (dedupI is)).map .int) else none
    | _ => none) = _
  rw [h]
  show ((ints? (is.map V.int)).bind fun js => if decide ((is.map V.int).length ≤ 64) && js.all (fun i => decide (0 ≤ i) && decide (i < 16)) then newL ((sortI (dedupI js)).map .int) else none) = _
  rw [ints_ok]
  show (if decide ((is.map V.int).length ≤ 64) && is.all (fun i => decide (0 ≤ i) && decide (i < 16)) then newL ((sortI (dedupI is)).map .int) else none) = _
  rw [if_pos]
  · exact newL_ok (by rw [List.length_map, (sortI_permP _).length_eq]; have := len_dedupP is; unfold lim; (first | lia | omega))
  · rw [Bool.and_eq_true, decide_eq_true_eq, List.length_map, List.all_eq_true]
    exact ⟨hl, fun i hi => by rw [Bool.and_eq_true, decide_eq_true_eq, decide_eq_true_eq]; exact hr i hi⟩
end Mini

end
section
set_option autoImplicit false
set_option linter.unusedVariables false
set_option linter.unusedSimpArgs false
set_option maxRecDepth 100000
namespace Mini
open PySem

theorem insI_sortedP (x : Int) : ∀ l : List Int, l.Pairwise (· ≤ ·) → (insI x l).Pairwise (· ≤ ·)
  | [], _ => List.pairwise_singleton _ _
  | y :: l, h => by
    unfold insI
    split
    · rename_i hxy
      refine List.pairwise_cons.mpr ⟨fun z hz => ?_, h⟩
      rcases List.mem_cons.mp hz with rfl | hz
      · exact hxy
      · exact Int.le_trans hxy ((List.pairwise_cons.mp h).1 z hz)
    · rename_i hxy
      refine List.pairwise_cons.mpr ⟨fun z hz => ?_, insI_sortedP x l (List.pairwise_cons.mp h).2⟩
      rcases List.mem_cons.mp ((insI_permP x l).mem_iff.mp hz) with rfl | hz
      · (first | lia | omega)
      · exact (List.pairwise_cons.mp h).1 z hz
theorem sortI_sortedP : ∀ l : List Int, (sortI l).Pairwise (· ≤ ·)
  | [] => .nil
  | x :: l => insI_sortedP x _ (sortI_sortedP l)
theorem sortI_uniq {a b : List Int} (h : a.Perm b) : sortI a = sortI b :=
  List.Perm.eq_of_pairwise (fun x y _ _ h1 h2 => Int.le_antisymm h1 h2) (sortI_sortedP a) (sortI_sortedP b) ((sortI_permP a).trans (h.trans (sortI_permP b).symm))
end Mini

end
section
set_option autoImplicit false
set_option linter.unusedVariables false
set_option linter.unusedSimpArgs false
set_option maxRecDepth 100000
namespace Mini
open PySem

structure Emb {κ : Type} [DecidableEq κ] (em : κ → V) : Prop where
  ex : ∃ d : κ → PyData, (∀ x H k, toD (k + 1) H (em x) = some (d x)) ∧ ∀ x y, PyData.eqv (d x) (d y) = decide (x = y)
section
variable {κ : Type} [DecidableEq κ] {em : κ → V}
theorem Emb.eq (E : Emb em) (H : MH) (x y : κ) : eqOp H (em x) (em y) = some (decide (x = y)) := by
  obtain ⟨d, h1, h2⟩ := E.ex
  rw [eqOp_of (h1 x H 39) (h1 y H 39), h2]
theorem Emb.map (E : Emb em) : ∃ d : κ → PyData, (∀ x H k, toD (k + 1) H (em x) = some (d x)) ∧ (∀ x y, PyData.eqv (d x) (d y) = decide (x = y)) ∧ ∀ H k (l : List κ), mapO (toD (k + 1) H) (l.map em) = some (l.map d) := by
  obtain ⟨d, h1, h2⟩ := E.ex
  exact ⟨d, h1, h2, fun H k l => mapO_map l fun x _ => h1 x H k⟩
theorem Emb.inL (E : Emb em) {H : MH} {a : Addr} {l : List κ} (x : κ) (h : H a = some (.list (l.map em))) : inOp H (em x) (.ref a) = some (decide (x ∈ l)) := by
  obtain ⟨d, h1, h2, h3⟩ := E.map
  rw [inOp_list h (h1 x H 39) (h3 H 39 l)]
  congr 1
  clear h
  induction l with
  | nil => rfl
  | cons y l ih =>
    rw [List.map_cons, List.any_cons, ih, h2]
    by_cases e : y = x
    · subst e; simp
    · simp [e, Ne.symm e]
theorem Emb.marks (E : Emb em) {l : List κ} (nd : l.Nodup) : Marks (l.map em) := by
  obtain ⟨d, h1, h2, h3⟩ := E.map
  refine ⟨l.map d, fun H k => h3 H k l, fun i j hi hj => ?_⟩
  rw [List.length_map] at hi hj
  rw [List.getElem_map, List.getElem_map, h2]
  congr 1
  refine propext ⟨fun e => ?_, fun e => by subst e; rfl⟩
  rcases Nat.lt_trichotomy i j with q | q | q
  · exact absurd e (List.pairwise_iff_getElem.mp nd i j hi hj q)
  · exact q
  · exact absurd e.symm (List.pairwise_iff_getElem.mp nd j i hj hi q)
theorem Emb.data (E : Emb em) (l : List κ) : DataL (l.map em) := fun v hv => by
  obtain ⟨x, _, rfl⟩ := List.mem_map.mp hv
  obtain ⟨d, h1, h2⟩ := E.ex
  exact ⟨d x, fun H k => h1 x H k, by rw [h2]; simp⟩
end
noncomputable def stepX (ends : List Int → List (List Int)) (G : List (List Int)) (i : Nat) : List (List Int) := match G[i]? with
  | none => G
  | some g => (ends g).foldl addK G
noncomputable def GX (ends : List Int → List (List Int)) : Nat → List (List Int)
  | 0 => [[0]]
  | i + 1 => stepX ends (GX ends i) i
section
variable {ends : List Int → List (List Int)}
theorem GX_ext (i : Nat) : ∃ E, GX ends (i + 1) = GX ends i ++ E := by
  show ∃ E, stepX ends (GX ends i) i = _
  unfold stepX; split
  · exact ⟨[], by simp⟩
  · exact foldK_ext _ _
theorem GX_nodup : ∀ i, (GX ends i).Nodup
  | 0 => by simp [GX]
  | i + 1 => by
    show (stepX ends (GX ends i) i).Nodup
    unfold stepX; split
    · exact GX_nodup i
    · exact foldK_nodup _ (GX_nodup i)
theorem GX_all {P : List Int → Prop} (h0 : P [0]) (hs : ∀ g, P g → ∀ e ∈ ends g, P e) : ∀ i, ∀ g ∈ GX ends i, P g
  | 0, g, h => by rw [List.mem_singleton.mp h]; exact h0
  | i + 1, g, h => by
    have h' : g ∈ stepX ends (GX ends i) i := h
    unfold stepX at h'
    split at h'
    · exact GX_all h0 hs i g h'
    · rename_i g0 e0
      rcases (foldK_mem _ _ g).mp h' with q | q
      · exact GX_all h0 hs i g q
      · exact hs g0 (GX_all h0 hs i g0 (List.mem_of_getElem? e0)) g q
theorem GX_const {i : Nat} (h : (GX ends i).length ≤ i) : ∀ j, GX ends (i + j) = GX ends i
  | 0 => rfl
  | j + 1 => by
    have ih := GX_const h j
    show stepX ends (GX ends (i + j)) (i + j) = _
    unfold stepX
    rw [ih, List.getElem?_eq_none (by (first | lia | omega))]
theorem GX_end {i j : Nat} (hi : (GX ends i).length ≤ i) (hj : (GX ends j).length ≤ j) : GX ends i = GX ends j := by
  rcases Nat.le_total i j with h | h
  · have := GX_const hi (j - i); rw [show i + (j - i) = j by (first | lia | omega)] at this; exact this.symm
  · have := GX_const hj (i - j); rw [show j + (i - j) = i by (first | lia | omega)] at this; exact this
theorem GX_get {i : Nat} {g : List Int} (h : (GX ends i)[i]? = some g) : GX ends (i + 1) = (ends g).foldl addK (GX ends i) := by
  show stepX ends (GX ends i) i = _
  unfold stepX
  rw [h]
theorem GX_le (i : Nat) : (GX ends i).length ≤ (GX ends (i + 1)).length := by
  obtain ⟨E, h⟩ := GX_ext (ends := ends) i
  rw [h, List.length_append]; (first | lia | omega)
theorem GX_pos (i : Nat) : 0 < (GX ends i).length := by
  induction i with
  | zero => exact Nat.zero_lt_one
  | succ i ih => exact Nat.lt_of_lt_of_le ih (GX_le i)
end
noncomputable def Jx (ends : List Int → List (List Int)) (gof : List Int → Bool) (m : Nat) (F : Mach) : Prop := ∃ i, (GX ends i).length ≤ i ∧ F.n = (GX ends i).length ∧ F.m = m ∧ ∀ (j : Nat) (g : List Int), (GX ends i)[j]? = some g → F.go j = gof g ∧
  ∀ (k : Nat) (e : List Int), (ends g)[k]? = some e → ∃ x : Nat, F.st j k = x ∧ (GX ends i)[x]? = some e
theorem Jx.mdata {ends : List Int → List (List Int)} {gof : List Int → Bool} {m : Nat} {F F' : Mach} (hl : ∀ g, (ends g).length = m) (h : Jx ends gof m F) (h' : Jx ends gof m F') (ds : List PyData) : Mini.mdata ds F = Mini.mdata ds F' := by
  obtain ⟨i, e1, e2, e3, e4⟩ := h
  obtain ⟨i', f1, f2, f3, f4⟩ := h'
  rw [GX_end f1 e1] at f2 f4
  have hn : F'.n = F.n := f2.trans e2.symm
  have hm : F'.m = F.m := f3.trans e3.symm
  have nd := GX_nodup (ends := ends) i
  have key : ∀ j, j < F.n → F.go j = F'.go j ∧ ∀ k, k < F.m → F.st j k = F'.st j k := fun j hj => by
    have hj' : j < (GX ends i).length := by (first | lia | omega)
    obtain ⟨a1, a2⟩ := e4 j _ (List.getElem?_eq_getElem hj')
    obtain ⟨b1, b2⟩ := f4 j _ (List.getElem?_eq_getElem hj')
    refine ⟨a1.trans b1.symm, fun k hk => ?_⟩
    have hk' : k < (ends (GX ends i)[j]).length := by rw [hl]; (first | lia | omega)
    obtain ⟨x, x1, x2⟩ := a2 k _ (List.getElem?_eq_getElem hk')
    obtain ⟨y, y1, y2⟩ := b2 k _ (List.getElem?_eq_getElem hk')
    have hxy : x = y := by
      obtain ⟨hx, ex⟩ := List.getElem?_eq_some_iff.mp x2
      obtain ⟨hy, ey⟩ := List.getElem?_eq_some_iff.mp y2
      rcases Nat.lt_trichotomy x y with q | q | q
      · exact absurd (ex.trans ey.symm) (List.pairwise_iff_getElem.mp nd x y hx hy q)
      · exact q
      · exact absurd (ey.trans ex.symm) (List.pairwise_iff_getElem.mp nd y x hy hx q)
    rw [x1, y1, hxy]
  have q1 : ((List.range F.n).map fun (i : Nat) => PyData.list ((List.range F.m).map fun k => .int (F.st i k))) = (List.range F.n).map fun (i : Nat) => PyData.list ((List.range F.m).map fun k => .int (F'.st i k)) := by
    refine List.map_congr_left fun j hj => ?_
    have hj' : j < F.n := List.mem_range.mp hj
    congr 1
    refine List.map_congr_left fun k hk => ?_
    rw [(key j hj').2 k (List.mem_range.mp hk)]
  have q2 : ((List.range F.n).map fun (i : Nat) => PyData.bool (F.go i)) = (List.range F.n).map fun (i : Nat) => PyData.bool (F'.go i) :=
    List.map_congr_left fun j hj => by rw [(key j (List.mem_range.mp hj)).1]
  unfold Mini.mdata
  rw [hn, hm, q1, q2]
structure JX (ends : List Int → List (List Int)) (gof : List Int → Bool) (rows : List (List Int)) (gs : List Bool) : Prop where
  gl : gs.length = rows.length
  le : rows.length ≤ (GX ends rows.length).length
  rw : ∀ (i : Nat) (row g : List Int), rows[i]? = some row → (GX ends rows.length)[i]? = some g → gs[i]? = some (gof g) ∧
    ∀ (k : Nat) (e : List Int), (ends g)[k]? = some e → ∃ x : Nat, row[k]? = some (x : Int) ∧ (GX ends rows.length)[x]? = some e
section
variable {ends : List Int → List (List Int)} {gof : List Int → Bool} {rows : List (List Int)} {gs : List Bool}
theorem JX.nil : JX ends gof [] [] := ⟨rfl, Nat.zero_le _, fun i row g h => by cases h⟩
theorem JX.step {row g : List Int} (h : JX ends gof rows gs) (hg : (GX ends rows.length)[rows.length]? = some g)
    (hr : ∀ (k : Nat) (e : List Int), (ends g)[k]? = some e → ∃ x : Nat, row[k]? = some (x : Int) ∧ (GX ends (rows.length + 1))[x]? = some e) : JX ends gof (rows ++ [row]) (gs ++ [gof g]) := by
  obtain ⟨E, hE⟩ := GX_ext (ends := ends) rows.length
  have hl : (rows ++ [row]).length = rows.length + 1 := List.length_append ..
  have hlt := (List.getElem?_eq_some_iff.mp hg).1
  have gl := h.gl
  refine ⟨by rw [hl, List.length_append, gl]; rfl, by rw [hl, hE, List.length_append]; (first | lia | omega), fun i row' g' h1 h2 => ?_⟩
  rw [hl] at h2 ⊢
  rcases Nat.lt_or_ge i rows.length with q | q
  · rw [List.getElem?_append_left q] at h1
    rw [hE, List.getElem?_append_left (by (first | lia | omega))] at h2
    obtain ⟨e1, e2⟩ := h.rw i row' g' h1 h2
    refine ⟨by rw [List.getElem?_append_left (by (first | lia | omega))]; exact e1, fun k e hk => ?_⟩
    obtain ⟨x, f1, f2⟩ := e2 k e hk
    exact ⟨x, f1, by rw [hE]; exact get_ext f2⟩
  · have hi : i < (rows ++ [row]).length := (List.getElem?_eq_some_iff.mp h1).1
    have : i = rows.length := by (first | lia | omega)
    subst this
    rw [hE, get_ext hg] at h2
    cases h2
    rw [List.getElem?_append_right (Nat.le_refl _), Nat.sub_self] at h1
    have h1 : row = row' := Option.some.inj h1
    subst h1
    exact ⟨by rw [← gl, List.getElem?_append_right (Nat.le_refl _), Nat.sub_self]; rfl, hr⟩
theorem JX.jx {m : Nat} (h : JX ends gof rows gs) (hl : (GX ends rows.length).length ≤ rows.length) : Jx ends gof m (machL m rows gs) := by
  have le := h.le
  refine ⟨rows.length, hl, by show rows.length = _; (first | lia | omega), rfl, fun j g hg => ?_⟩
  have hj := (List.getElem?_eq_some_iff.mp hg).1
  have h2 : j < rows.length := by (first | lia | omega)
  obtain ⟨e1, e2⟩ := h.rw j _ _ (List.getElem?_eq_getElem h2) hg
  refine ⟨by simp only [machL, Int.toNat_natCast, e1, Option.getD_some], fun k e hk => ?_⟩
  obtain ⟨x, f1, f2⟩ := e2 k e hk
  exact ⟨x, by simp only [machL, Int.toNat_natCast, List.getElem?_eq_getElem h2, Option.getD_some, f1], f2⟩
theorem JX.gsE (h : JX ends gof rows gs) (hl : rows.length = (GX ends rows.length).length) : gs = (GX ends rows.length).map gof := by
  apply List.ext_getElem?
  intro i
  rw [List.getElem?_map]
  rcases Nat.lt_or_ge i rows.length with q | q
  · have q' : i < (GX ends rows.length).length := by (first | lia | omega)
    rw [(h.rw i _ _ (List.getElem?_eq_getElem q) (List.getElem?_eq_getElem q')).1, List.getElem?_eq_getElem q']; rfl
  · have gl := h.gl
    rw [List.getElem?_eq_none (by (first | lia | omega)), List.getElem?_eq_none (by (first | lia | omega))]; rfl
end
end Mini

end
section
set_option autoImplicit false
set_option linter.unusedVariables false
set_option linter.unusedSimpArgs false
set_option maxRecDepth 100000
namespace Mini
open PySem

noncomputable def keysG (M : Mach) {κ : Type} [DecidableEq κ] (kp : List κ) (mk : κ) (g : List Int) (n : Nat) : List Int := (List.range n).foldl (fun l k => if kp[k]? = some mk then keysAt M g l k else l) []
noncomputable def ledG (M : Mach) {κ : Type} [DecidableEq κ] (kp : List κ) (g : List Int) (mk : κ) : List Int := sortI (keysG M kp mk g M.m)
theorem keysG_succ (M : Mach) {κ : Type} [DecidableEq κ] (kp : List κ) (mk : κ) (g : List Int) (n : Nat) : keysG M kp mk g (n + 1) = if kp[n]? = some mk then keysAt M g (keysG M kp mk g n) n else keysG M kp mk g n := by
  unfold keysG; rw [List.range_succ, List.foldl_append]; rfl
theorem keysG_mem (M : Mach) {κ : Type} [DecidableEq κ] (kp : List κ) (mk : κ) (g : List Int) (x : Int) : ∀ n, x ∈ keysG M kp mk g n ↔ ∃ k, k < n ∧ kp[k]? = some mk ∧ ∃ y ∈ g, x = M.st y k
  | 0 => by simp [keysG]
  | n + 1 => by
    rw [keysG_succ]
    have ih := keysG_mem M kp mk g x n
    split
    · rename_i h
      unfold keysAt
      rw [foldAdd_mem (fun y => M.st y n), ih]
      constructor
      · rintro (⟨k, a, b⟩ | b)
        · exact ⟨k, by (first | lia | omega), b⟩
        · exact ⟨n, by (first | lia | omega), h, b⟩
      · rintro ⟨k, a, b⟩
        rcases Nat.lt_or_ge k n with q | q
        · exact .inl ⟨k, q, b⟩
        · have : k = n := by (first | lia | omega)
          subst this; exact .inr b.2
    · rename_i h
      rw [ih]
      constructor
      · rintro ⟨k, a, b⟩; exact ⟨k, by (first | lia | omega), b⟩
      · rintro ⟨k, a, b⟩
        refine ⟨k, ?_, b⟩
        rcases Nat.lt_or_ge k n with q | q
        · exact q
        · have : k = n := by (first | lia | omega)
          subst this; exact absurd b.1 h
theorem keysG_nodup (M : Mach) {κ : Type} [DecidableEq κ] (kp : List κ) (mk : κ) (g : List Int) : ∀ n, (keysG M kp mk g n).Nodup
  | 0 => by simp [keysG]
  | n + 1 => by
    rw [keysG_succ]
    split
    · exact foldAdd_nodup _ _ (keysG_nodup M kp mk g n)
    · exact keysG_nodup M kp mk g n
theorem keysG_in {M : Mach} (ok : M.OK) {κ : Type} [DecidableEq κ] {kp : List κ} {mk : κ} {g : List Int} (hg : ∀ x ∈ g, 0 ≤ x ∧ x < M.n) {n : Nat} (hn : n ≤ M.m) : ∀ x ∈ keysG M kp mk g n, 0 ≤ x ∧ x < M.n := fun x hx => by
  obtain ⟨k, a, _, y, hy, rfl⟩ := (keysG_mem M kp mk g x n).mp hx
  exact ok.2 y k (hg y hy).1 (hg y hy).2 (by (first | lia | omega))
theorem ledG_mem (M : Mach) {κ : Type} [DecidableEq κ] (kp : List κ) (mk : κ) (g : List Int) (x : Int) : x ∈ ledG M kp g mk ↔ ∃ k, k < M.m ∧ kp[k]? = some mk ∧ ∃ y ∈ g, x = M.st y k := by
  unfold ledG; rw [sortI_mem, keysG_mem]
theorem ledG_grp {M : Mach} (ok : M.OK) {κ : Type} [DecidableEq κ] {kp : List κ} {mk : κ} {g : List Int} (hg : Grp M.n g) : Grp M.n (ledG M kp g mk) :=
  ⟨sortI_lt (keysG_nodup ..), fun x hx => keysG_in ok hg.2 (Nat.le_refl _) x ((sortI_mem x _).mp hx)⟩
theorem ledG_spec {tab : Tab} {n : Nat} (hd : LedTab tab) {t : Addr} {H : MH} {sa ga ka : Addr} {rs : List Addr} {M : Mach} {mv : List V} {κ : Type} [DecidableEq κ] {kp : List κ} {mk : κ} {g : List Int} {em : κ → V} (E : Emb em) {Q : V → MH → Prop} {Z : Z0} (hok : M.OK) (hn : M.n < 64) (hm4 : M.m ≤ 1000) (h : MachAt t H sa ga rs M) (hk : H ka = some (.list (kp.map em))) (hkl : kp.length = M.m) (hg : ∀ x ∈ g, 0 ≤ x ∧ x < M.n)
    (hQ : ∀ H', Ext H H' → Q (tupI (ledG M kp g mk)) H') : CallN tab (n + 1) "led_to" [mval mv sa ga, tupI g, em mk, .ref ka] Q Z H := by
  refine call_of hd rfl ?_
  have hC := CallN_mono tab n
  generalize CallN tab n = C at hC
  unfold b_led_to
  rw [s_cons, s_asg, w_prim, w_nil]
  refine ⟨_, rfl, ?_⟩
  rw [fin_new]
  intro fa hfa
  have x1 : Ext H (hupd H fa (.dict [])) := .new hfa
  have f1 : hupd H fa (.dict []) fa = some (.dict []) := hupd_eq ..
  generalize hupd H fa (.dict []) = H1 at x1 f1
  have k1 := x1 _ _ hk
  have hnf : ∀ {a : Addr} {o : Ob}, H a = some o → a ≠ fa := fun ha e => by rw [e, hfa] at ha; cases ha
  refine st_forI hC (sv := .int M.m) (by simp [upd, bindE, List.lookup, p_lenL k1, hkl]) (src_range H1 (by unfold lim; (first | lia | omega))) (fun i ρ' H' => ρ' "machine" = some (mval mv sa ga) ∧ ρ' "rooms" = some (tupI g) ∧ ρ' "mark" = some (em mk) ∧ ρ' "kept" = some (.ref ka) ∧ ρ' "found" = some (.ref fa) ∧ ExtL [fa] H1 H' ∧ H' fa = some (.dict (dictB (keysG M kp mk g i)))) ⟨by simp [upd, bindE, List.lookup], by simp [upd, bindE, List.lookup], by simp [upd, bindE, List.lookup], by simp [upd, bindE, List.lookup], by simp [upd], .refl _ _, f1⟩ (fun _ _ _ _ => trivial) ?_ ?_
  · rintro i hi ρ' H' ⟨q1, q2, q3, q4, q5, x, e⟩
    have hi' : i < M.m := by simpa using hi
    have ei : ((List.range M.m).map (fun (i : Nat) => V.int i))[i] = V.int i := by simp
    rw [ei]
    have hik : i < kp.length := by (first | lia | omega)
    have k2 := x _ _ (by simp [hnf hk]) k1
    have hix : idxOp H' (.ref ka) (.int i) = some (em kp[i]) := idx_list k2 (pyIdx_nat (by simpa using hik)) (by rw [List.getElem?_map, List.getElem?_eq_getElem hik]; rfl)
    have h' : MachAt t H' sa ga rs M := by
      have hs : ∀ {a : Addr} {o : Ob}, H a = some o → H' a = some o := fun ha => x _ _ (by simp [hnf ha]) (x1 _ _ ha)
      exact ⟨hs h.s, hs h.g, h.l, fun j hj => hs (h.r j hj), h.st, h.gt, h.rt⟩
    refine st_if (b := decide (kp[i] = mk)) (peq (pix (pva (Eq.trans (by kernel_rfl) q4)) (pva (by kernel_rfl)) hix) (pva (Eq.trans (by kernel_rfl) q3)) (E.eq H' _ _)) (fun hb => ?_) fun hb => ?_
    · have hb' : kp[i]? = some mk := by rw [List.getElem?_eq_getElem hik]; exact congrArg some (of_decide_eq_true hb)
      refine st_forI hC (sv := tupI g) (Eq.trans (by kernel_rfl) q2) (src_tup H' _) (fun j ρ2 H2 => ρ2 "machine" = some (mval mv sa ga) ∧ ρ2 "rooms" = some (tupI g) ∧ ρ2 "mark" = some (em mk) ∧ ρ2 "kept" = some (.ref ka) ∧ ρ2 "found" = some (.ref fa) ∧ ρ2 "k" = some (.int i) ∧ ExtL [fa] H' H2 ∧ H2 fa = some (.dict (dictB (keysAt M (g.take j) (keysG M kp mk g i) i)))) ⟨by simp [upd, q1], by simp [upd, q2], by simp [upd, q3], by simp [upd, q4], by simp [upd, q5], by simp [upd], .refl _ _, by simpa [keysAt] using e⟩ (fun _ _ _ _ => trivial) ?_ ?_
      · rintro j hj ρ2 H2 ⟨p1, p2, p3, p4, p5, p6, y, e2⟩
        have hj' : j < g.length := by simpa using hj
        have ej : (g.map V.int)[j] = V.int g[j] := by simp
        rw [ej]
        have hgj := hg _ (List.getElem_mem hj')
        have h2 : MachAt t H2 sa ga rs M := by
          have hs : ∀ {a : Addr} {o : Ob}, H a = some o → H2 a = some o := fun ha => y _ _ (by simp [hnf ha]) (x _ _ (by simp [hnf ha]) (x1 _ _ ha))
          exact ⟨hs h.s, hs h.g, h.l, fun j hj => hs (h.r j hj), h.st, h.gt, h.rt⟩
        rw [s_cons, s_asgI]
        refine pev_ok _ (.bool true) _ rfl (pev_ok _ (.ref fa) _ (Eq.trans (by kernel_rfl) p5) (pev_ok _ (.int (M.st g[j] i)) _ (h2.pstep (mv := mv) (Eq.trans (by kernel_rfl) p1) (by kernel_rfl) (Eq.trans (by kernel_rfl) p6) hgj.1 hgj.2 hi') ?_))
        have hsz : (dictB (keysAt M (g.take j) (keysG M kp mk g i) i)).length < lim := by
          have : (keysAt M (g.take j) (keysG M kp mk g i) i).length ≤ M.n := by
            refine ints_le (foldAdd_nodup _ _ (keysG_nodup ..)) fun x hx => ?_
            rcases (foldAdd_mem (fun y => M.st y i) _ _ _).mp hx with hx | ⟨y, hy, rfl⟩
            · exact keysG_in hok hg (by (first | lia | omega)) x hx
            · have := hg y (List.mem_of_mem_take hy); exact hok.2 y i this.1 this.2 hi'
          simp only [dictB, List.length_map]; unfold lim; (first | lia | omega)
        refine ⟨.upd fa (.dict (dictB (keysAt M (g.take (j + 1)) (keysG M kp mk g i) i))) .none, ?_, ?_⟩
        · simp only [setOp, e2]
          rw [if_pos (by rw [Bool.and_eq_true, decide_eq_true_eq]; exact ⟨dictB_ok .., hsz⟩), dictB_put]
          congr 4
          unfold keysAt
          rw [List.take_succ_eq_append_getElem hj', List.foldl_append]; rfl
        rw [fin_upd, s_nil]
        exact ⟨by simp [upd, p1], by simp [upd, p2], by simp [upd, p3], by simp [upd, p4], by simp [upd, p5], by simp [upd, p6], y.trans (.upd (by simp)), hupd_eq ..⟩
      · rintro ρ2 H2 ⟨p1, p2, p3, p4, p5, p6, y, e2⟩
        rw [s_nil, s_nil]
        simp only [List.length_map, List.take_length] at e2
        exact ⟨p1, p2, p3, p4, p5, x.trans y, by rw [e2, keysG_succ, if_pos hb']⟩
    · rw [s_nil, s_nil]
      have hb' : ¬ kp[i]? = some mk := by rw [List.getElem?_eq_getElem hik]; intro q; exact of_decide_eq_false hb (Option.some.inj q)
      exact ⟨by simp [upd, q1], by simp [upd, q2], by simp [upd, q3], by simp [upd, q4], by simp [upd, q5], x, by rw [e, keysG_succ, if_neg hb']⟩
  · rintro ρ' H' ⟨q1, q2, q3, q4, q5, x, e⟩
    simp only [List.length_map, List.length_range] at e
    have hsz : (keysG M kp mk g M.m).length < 64 := by
      have := ints_le (keysG_nodup M kp mk g M.m) (keysG_in hok hg (Nat.le_refl _)); (first | lia | omega)
    have hnl : newL ((ledG M kp g mk).map .int) = some (.new (.list ((ledG M kp g mk).map .int))) := newL_ok (by rw [List.length_map]; unfold ledG; rw [sortI_len]; unfold lim; (first | lia | omega))
    rw [s_cons, s_ret, w_prim, w_cons, w_prim]
    refine l_pure (v := .ref fa) (Eq.trans (by kernel_rfl) q5) ?_
    rw [w_nil]
    refine ⟨.new (.list ((ledG M kp g mk).map .int)), ?_, ?_⟩
    · show (match H' fa with
        | some (.list vs) => if vs.length < 64 then (ints? vs).bind fun is => newL ((sortI is).map .int) else none
        | some (.dict kvs) => if kvs.length < 64 then (ints? (kvs.map (fun p : V × V => p.1))).bind fun is => newL ((sortI is).map .int) else none
        | _ => none) = _
      rw [e]
      simp only [dictB_keys, Option.bind_some]
      rw [if_pos (by simpa [dictB] using hsz)]
      exact hnl
    rw [fin_new]
    intro a ha
    rw [w_nil]
    refine ⟨.val (tupI (ledG M kp g mk)), ?_, ?_⟩
    · rw [p_tupleOfL (hupd_eq ..)]
      exact valT_ok (by rw [List.length_map]; unfold ledG; rw [sortI_len]; unfold lim; (first | lia | omega))
    rw [fin_val]
    have xx : Ext H H' := fun b o hb => x _ _ (by simp [hnf hb]) (x1 _ _ hb)
    exact hQ _ (xx.trans (.new ha))
end Mini

end
section
set_option autoImplicit false
set_option linter.unusedVariables false
set_option linter.unusedSimpArgs false
set_option maxRecDepth 100000
namespace Mini
open PySem

section
variable {κ : Type} [DecidableEq κ]
noncomputable def dedupG (kp : List κ) : List κ := kp.foldl addK []
theorem dedupG_mem (kp : List κ) (x : κ) : x ∈ dedupG kp ↔ x ∈ kp := by
  unfold dedupG; rw [foldK_mem]; exact ⟨fun h => h.resolve_left (fun q => by cases q), .inr⟩
theorem dedupG_nodup (kp : List κ) : (dedupG kp).Nodup := foldK_nodup kp List.nodup_nil
theorem dedupG_len (kp : List κ) : (dedupG kp).length ≤ kp.length := by have := foldAdd_len kp ([] : List κ); rwa [List.length_nil, Nat.zero_add] at this
theorem dedupG_snoc (l : List κ) (x : κ) : dedupG (l ++ [x]) = addK (dedupG l) x := by unfold dedupG; rw [List.foldl_append]; rfl
theorem dedup_loop {C : CallSem} (hC : MonoC C) {em : κ → V} (E : Emb em) {H : MH} {ρ : Env} {ka ma : Addr} {kp : List κ} {xk xm xv : String} {N : Env → MH → Prop} {R : V → MH → Prop} {Z : Z0} {rest : List S} (d1 : xm ≠ xv) (rk : ρ xk = some (.ref ka)) (rm : ρ xm = some (.ref ma)) (hk : H ka = some (.list (kp.map em))) (hm : H ma = some (.list [])) (d : ka ≠ ma) (hl : kp.length ≤ 1000)
    (cont : ∀ (ρ' : Env) (H' : MH), (∀ x, x ≠ xv → ρ' x = ρ x) → ExtL [ma] H H' → H' ma = some (.list ((dedupG kp).map em)) → wpSs C rest ρ' N R Z H') :
    wpSs C (.for [xv] false .plain (.var xk) [.ifs (.prim .notin [.var xv, .var xm]) [.ex (.meth .append (.var xm) [.var xv])] []] :: rest) ρ N R Z H := by
  refine st_forI hC (pva rk) (src_list hk) (fun i ρ' H' => (∀ x, x ≠ xv → ρ' x = ρ x) ∧ ExtL [ma] H H' ∧ H' ma = some (.list ((dedupG (kp.take i)).map em))) ⟨fun _ _ => rfl, .refl _ _, hm⟩ (fun i ρ' H' k => k.2.1 _ _ (nin1 d) hk) ?_ ?_
  · rintro i hi ρ' H' ⟨hρ, x, e⟩
    have hi' : i < kp.length := by rwa [List.length_map] at hi
    rw [List.getElem_map]
    have et : dedupG (kp.take (i + 1)) = addK (dedupG (kp.take i)) kp[i] := by rw [List.take_succ_eq_append_getElem hi', dedupG_snoc]
    have hρ2 : ∀ x, x ≠ xv → upd ρ' xv (em kp[i]) x = ρ x := fun x hx => by rw [upd_ne hx]; exact hρ x hx
    have rm2 : upd ρ' xv (em kp[i]) xm = some (.ref ma) := (hρ2 _ d1).trans rm
    refine st_if (b := !decide (kp[i] ∈ dedupG (kp.take i))) (pni (pva (upd_same ..)) (pva rm2) (E.inL _ e)) (fun hb => ?_) fun hb => ?_
    · have hn : kp[i] ∉ dedupG (kp.take i) := by rw [Bool.not_eq_true', decide_eq_false_iff_not] at hb; exact hb
      have hle := dedupG_len (kp.take i)
      rw [List.length_take] at hle
      refine st_appP rm2 e (by rw [List.length_map]; unfold lim; (first | lia | omega)) (pva (upd_same ..)) ?_ hC
      rw [s_nil, s_nil]
      refine ⟨hρ2, x.trans (.upd (.head _)), ?_⟩
      rw [hupd_eq, et, addK_neg hn, List.map_append]; rfl
    · have hn : kp[i] ∈ dedupG (kp.take i) := by rw [Bool.not_eq_false', decide_eq_true_eq] at hb; exact hb
      rw [s_nil, s_nil]
      exact ⟨hρ2, x, by rw [et, addK_pos hn]; exact e⟩
  · rintro ρ' H' ⟨hρ, x, e⟩
    rw [List.length_map, List.take_length] at e
    exact cont ρ' H' hρ x e
end
theorem numbG_comp {tab : Tab} (hu : NumTab tab) {n : Nat} {G es : List (List Int)} {na pa ea : Addr} {ρ : Env} {Q : V → MH → Prop} {Z : Z0} {H : MH} (hN : Num 2 H na pa (G.map tupI)) (he : H ea = some (.list (es.map tupI))) (d1 : ea ≠ na) (d2 : ea ≠ pa) (hl : G.length + es.length < lim)
    (r1 : ρ "ends" = some (.ref ea)) (r2 : ρ "numbers" = some (.ref na)) (r3 : ρ "groups" = some (.ref pa))
    (hQ : ∀ (row : List Int) (ra : Addr) (H' : MH), ExtL [na, pa] H H' → Num 2 H' na pa ((es.foldl addK G).map tupI) → row.length = es.length → (∀ (k : Nat) (e : List Int), es[k]? = some e → ∃ x : Nat, row[k]? = some (x : Int) ∧ (es.foldl addK G)[x]? = some e) → H' ra = none → Q (.ref ra) (hupd H' ra (.list (row.map .int)))) :
    wpE (CallN tab (n + 1)) (.comp (.call "number_of" [.var "end", .var "numbers", .var "groups"]) ["end"] false .plain (.var "ends")) ρ Q Z H := by
  have hC := CallN_mono tab (n + 1)
  refine i_compI hC (sv := .ref ea) (pva r1) (src_list he) (fun j acc H' => ExtL [na, pa] H H' ∧ ∃ xs : List Int, acc = xs.map .int ∧ xs.length = j ∧ Num 2 H' na pa (((es.take j).foldl addK G).map tupI) ∧ ∀ (k : Nat) (e : List Int), k < j → es[k]? = some e → ∃ x : Nat, xs[k]? = some (x : Int) ∧ ((es.take j).foldl addK G)[x]? = some e) ⟨.refl _ _, [], rfl, rfl, by simpa using hN, fun k e h => by (first | lia | omega)⟩ (fun j acc H' x => x.1 _ _ (nin2 d1 d2) he) ?_ ?_
  · rintro j hj acc H' ⟨x, xs, rfl, hxl, hN', hx⟩
    have hj' : j < es.length := by simpa using hj
    have ej : (es.map tupI)[j] = tupI es[j] := List.getElem_map _
    rw [ej]
    have hGl : ((es.take j).foldl addK G).length ≤ G.length + j := by
      have := foldAdd_len (es.take j) G
      rw [List.length_take, Nat.min_eq_left (Nat.le_of_lt hj')] at this; exact this
    refine i_call (vs := [tupI es[j], .ref na, .ref pa]) (psc (pva (by kernel_rfl)) (ps2 (pva (Eq.trans (by kernel_rfl) r2)) (pva (Eq.trans (by kernel_rfl) r3)))) ?_
    refine number_spec hu hN' (kk_tupI _) (by rw [List.length_map]; (first | lia | omega)) fun i vs' H2 hN2 x2 hi hc => ?_
    have ek : vs' = (((es.take (j + 1)).foldl addK G)).map tupI := by
      rw [List.take_succ_eq_append_getElem hj', List.foldl_append]
      show vs' = (addK _ es[j]).map tupI
      rcases hc with rfl | ⟨hn', rfl⟩
      · rw [addK_pos (List.mem_of_getElem? (get_tupI hi))]
      · rw [addK_neg fun hm => hn' (List.mem_map_of_mem hm)]; simp
    subst ek
    obtain ⟨E, hE⟩ : ∃ E, (es.take (j + 1)).foldl addK G = (es.take j).foldl addK G ++ E := by
      rw [List.take_succ_eq_append_getElem hj', List.foldl_append]; exact addK_ext _ _
    refine ⟨x.trans x2, xs ++ [(i : Int)], by simp, by simp [hxl], hN2, fun k e hk hke => ?_⟩
    rcases Nat.lt_or_ge k j with q | q
    · obtain ⟨y, e1, e2⟩ := hx k e q hke
      exact ⟨y, by rw [List.getElem?_append_left (by (first | lia | omega))]; exact e1, by rw [hE]; exact get_ext e2⟩
    · have : k = j := by (first | lia | omega)
      subst this
      rw [List.getElem?_eq_getElem hj'] at hke
      cases hke
      exact ⟨i, by rw [List.getElem?_append_right (by (first | lia | omega))]; simp [hxl], get_tupI hi⟩
  · rintro acc H' ⟨x, xs, rfl, hxl, hN', hx⟩
    rw [List.length_map] at hxl hx
    rw [List.length_map, List.take_length] at hN'
    rw [List.take_length] at hx
    exact ⟨by rw [List.length_map]; (first | lia | omega), fun ra hra => hQ xs ra H' x hN' hxl (fun k e hke => hx k e (List.getElem?_eq_some_iff.mp hke).1 hke) hra⟩
end Mini

end
section
set_option autoImplicit false
set_option linter.unusedVariables false
set_option linter.unusedSimpArgs false
set_option maxRecDepth 100000
namespace Mini
open PySem

section
variable {κ : Type} [DecidableEq κ]
noncomputable def endsF (M : Mach) (kp : List κ) (g : List Int) : List (List Int) := (dedupG kp).map fun mk => ledG M kp g mk
noncomputable def gofF (M : Mach) (g : List Int) : Bool := g.any M.go
theorem endsF_len (M : Mach) (kp : List κ) (g : List Int) : (endsF M kp g).length = (dedupG kp).length := List.length_map _
theorem GX_grp {M : Mach} (hok : M.OK) (kp : List κ) (i : Nat) : ∀ g ∈ GX (endsF M kp) i, Grp M.n g := by
  have h0 : Grp M.n [0] := ⟨List.pairwise_singleton _ _, fun x hx => by rw [List.mem_singleton.mp hx]; have := hok.1; (first | lia | omega)⟩
  refine GX_all h0 (fun g hg e he => ?_) i
  obtain ⟨mk, _, rfl⟩ := List.mem_map.mp he
  exact ledG_grp hok hg
theorem GX_256 {M : Mach} (hok : M.OK) (hn : M.n ≤ 8) (kp : List κ) (i : Nat) : (GX (endsF M kp) i).length ≤ 256 := by
  have h1 := grps_le (GX_nodup i) (GX_grp hok kp i)
  have h2 : 2 ^ M.n ≤ 2 ^ 8 := Nat.pow_le_pow_right (by decide) hn
  have h3 : (2 : Nat) ^ 8 = 256 := rfl
  (first | lia | omega)
theorem grp_len {n : Nat} {g : List Int} (h : Grp n g) : g.length ≤ n := ints_le (h.1.imp fun {a b} k e => by (first | lia | omega)) h.2
structure FGTab (tab : Tab) : Prop where
  le : LedTab tab
  nu : NumTab tab
  fo : tab.lookup "forgot" = some (["machine", "kept"], b_forgot)
theorem forgotG_spec {tab : Tab} (T : FGTab tab) {n : Nat} {t : Addr} {H : MH} {sa ga ka : Addr} {rs : List Addr} {M : Mach} {mv : List V} {em : κ → V} (E : Emb em) {kp : List κ} {o : Ob} {Q : V → MH → Prop} {Z : Z0} (hok : M.OK) (hn : M.n ≤ 8) (hm : M.m ≤ 4) (h : MachAt t H sa ga rs M) (hk : H ka = some (.list (kp.map em))) (hkl : kp.length = M.m) (ht : H t = some o)
    (hQ : ∀ (sc gc : Addr) (rc : List Addr) (F : Mach) (H' : MH), Ext H H' → (∀ a ∈ sc :: gc :: rc, H a = none) → gc ∉ rc → sc ∉ rc → sc ≠ gc → MachAt t H' sc gc rc F → F.OK → F.n ≤ 256 → Jx (endsF M kp) (gofF M) (dedupG kp).length F → Q (mval ((dedupG kp).map em) sc gc) H') : CallN tab (n + 2) "forgot" [mval mv sa ga, .ref ka] Q Z H := by
  refine call_of T.fo rfl ?_
  have hC := CallN_mono tab (n + 1)
  unfold b_forgot
  have hr1 : bindE ["machine", "kept"] [mval mv sa ga, .ref ka] "machine" = some (mval mv sa ga) := by kernel_rfl
  have hr2 : bindE ["machine", "kept"] [mval mv sa ga, .ref ka] "kept" = some (.ref ka) := by kernel_rfl
  generalize bindE ["machine", "kept"] [mval mv sa ga, .ref ka] = ρ0 at hr1 hr2
  have ddl := dedupG_len kp
  refine st_new (vs := []) (by kernel_rfl) (Nat.zero_le _) fun ma hma => ?_
  have x1 : Ext H (hupd H ma (.list [])) := .new hma
  have m1 : hupd H ma (.list []) ma = some (.list []) := hupd_eq ..
  generalize hupd H ma (.list []) = H1 at x1 m1
  refine dedup_loop hC E (by decide) (Eq.trans (by kernel_rfl) hr2) (by kernel_rfl) (x1 _ _ hk) m1 (ne_of_some hma hk) (by (first | lia | omega)) fun ρ2 H2 hρ2 x2 m2 => ?_
  have q1 : ρ2 "machine" = some (mval mv sa ga) := (hρ2 _ (by decide)).trans (Eq.trans (by kernel_rfl) hr1)
  have q2 : ρ2 "kept" = some (.ref ka) := (hρ2 _ (by decide)).trans (Eq.trans (by kernel_rfl) hr2)
  have q3 : ρ2 "marks" = some (.ref ma) := (hρ2 _ (by decide)).trans (by kernel_rfl)
  have x02 : Ext H H2 := fun a o ha => x2 _ _ (nin1 (ne_of_some hma ha)) (x1 _ _ ha)
  clear x2 x1 m1 hρ2
  have t2 := x02 _ _ ht
  have h2 : MachAt t H2 sa ga rs M := h.ext fun ha => x02 _ _ ha
  have k2 := x02 _ _ hk
  -- the four lists
  refine st_new (vs := [tupI [0]]) (by kernel_rfl) (show 1 ≤ lim by decide) fun gr hgr => ?_
  have y3 : Ext H2 (hupd H2 gr (.list [tupI [0]])) := .new hgr
  have g3 : hupd H2 gr (.list [tupI [0]]) gr = some (.list [tupI [0]]) := hupd_eq ..
  generalize hupd H2 gr (.list [tupI [0]]) = H3 at y3 g3
  rw [s_cons, s_asg, w_prim]
  refine pevs_ok _ [tupI [0], .int 0] _ (by kernel_rfl) ⟨.new (.dict [(tupI [0], .int 0)]), by kernel_rfl, ?_⟩
  rw [fin_new]
  intro na hna
  have y4 : Ext H3 (hupd H3 na (.dict [(tupI [0], .int 0)])) := .new hna
  have n4 : hupd H3 na (.dict [(tupI [0], .int 0)]) na = some (.dict [(tupI [0], .int 0)]) := hupd_eq ..
  have g4 := y4 _ _ g3
  generalize hupd H3 na (.dict [(tupI [0], .int 0)]) = H4 at y4 n4 g4
  refine st_new (vs := []) (by kernel_rfl) (Nat.zero_le _) fun st hst => ?_
  have y5 : Ext H4 (hupd H4 st (.list [])) := .new hst
  have s5 : hupd H4 st (.list []) st = some (.list []) := hupd_eq ..
  have g5 := y5 _ _ g4
  have n5 := y5 _ _ n4
  generalize hupd H4 st (.list []) = H5 at y5 s5 g5 n5
  refine st_new (vs := []) (by kernel_rfl) (Nat.zero_le _) fun go hgo => ?_
  have y6 : Ext H5 (hupd H5 go (.list [])) := .new hgo
  have o6 : hupd H5 go (.list []) go = some (.list []) := hupd_eq ..
  have g6 := y6 _ _ g5
  have n6 := y6 _ _ n5
  have s6 := y6 _ _ s5
  generalize hupd H5 go (.list []) = H6 at y6 o6 g6 n6 s6
  have ne1 : gr ≠ na := ne_of_some hna g3
  have ne2 : gr ≠ st := ne_of_some hst g4
  have ne3 : na ≠ st := ne_of_some hst n4
  have ne4 : gr ≠ go := ne_of_some hgo g5
  have ne5 : na ≠ go := ne_of_some hgo n5
  have ne6 : st ≠ go := ne_of_some hgo s5
  have off : ∀ {b : Addr} {o : Ob}, H2 b = some o → b ∉ [na, gr, st, go] := fun {b o} hb => by
    have b3 := y3 _ _ hb
    have b4 := y4 _ _ b3
    have b5 := y5 _ _ b4
    exact nin4 (ne_of_some hna b3) (ne_of_some hgr hb) (ne_of_some hst b4) (ne_of_some hgo b5)
  have y26 : ExtL [na, gr, st, go] H2 H6 := (((y3.trans y4).trans y5).trans y6).toL
  have fs : H st = none := fresh_E x02 (fresh_E (y3.trans y4) hst)
  have fg : H go = none := fresh_E x02 (fresh_E ((y3.trans y4).trans y5) hgo)
  have toff := off t2
  clear y3 y4 y5 y6 hgr hna hst hgo g3 g4 g5 n4 n5 s5
  refine st_whlG hC (fun μ ρ' H' => (ρ' "machine" = some (mval mv sa ga) ∧ ρ' "kept" = some (.ref ka) ∧ ρ' "marks" = some (.ref ma) ∧ ρ' "groups" = some (.ref gr) ∧ ρ' "numbers" = some (.ref na) ∧ ρ' "steps" = some (.ref st) ∧ ρ' "good" = some (.ref go)) ∧ ExtL [na, gr, st, go] H2 H' ∧ ∃ (rs' : List Addr) (rows : List (List Int)) (gs : List Bool), μ + rows.length = 256 ∧ Num 2 H' na gr ((GX (endsF M kp) rows.length).map tupI) ∧ H' st = some (.list (rs'.map .ref)) ∧ H' go = some (.list (gs.map .bool)) ∧ JX (endsF M kp) (gofF M) rows gs ∧ Rows [t, na, gr, st, go] H' (dedupG kp).length (GX (endsF M kp) rows.length).length rs' rows ∧ ∀ a ∈ rs', H a = none) 256 ?_ ?_
  · refine ⟨⟨Eq.trans (by kernel_rfl) q1, Eq.trans (by kernel_rfl) q2, Eq.trans (by kernel_rfl) q3, by kernel_rfl, by kernel_rfl, by kernel_rfl, by kernel_rfl⟩, y26, [], [], [], rfl, ⟨n6, g6, by simp [GX], by decide, fun v hv => by simp [GX] at hv; rw [hv]; rfl⟩, s6, o6, .nil, ⟨rfl, (fun i hi => by cases hi), (fun a ha => by cases ha), fun a ha => by cases ha⟩, fun a ha => by cases ha⟩
  rintro μ ρ' H' ⟨⟨r1, r2, r3, r4, r5, r6, r7⟩, xx, rs', rows, gs, hμ, hN, hSt, hO, hJ, hR, hfr⟩
  have hGl := GX_256 hok hn kp rows.length
  have hrl' := hR.len
  have hjl := hJ.le
  have hgl := hJ.gl
  have hls : (rs'.map V.ref).length = rows.length := by rw [List.length_map, hrl']
  have hs4 : ∀ {a : Addr} {o : Ob}, H2 a = some o → H' a = some o := fun ha => xx _ _ (off ha) ha
  have hA' : H' ma = some (.list ((dedupG kp).map em)) := hs4 m2
  refine ⟨decide ((rows.length : Int) < ((GX (endsF M kp) rows.length).length : Int)), ?_, fun hb => ?_, fun hb => ?_⟩
  · have := plt (pln (pva r6) hSt) (pln (pva r4) hN.l); rwa [hls, List.length_map] at this
  · have hb : rows.length < (GX (endsF M kp) rows.length).length := by rw [decide_eq_true_eq] at hb; (first | lia | omega)
    have hg : (GX (endsF M kp) rows.length)[rows.length]? = some (GX (endsF M kp) rows.length)[rows.length] := List.getElem?_eq_getElem hb
    have hgp := GX_grp hok kp _ _ (List.getElem_mem hb)
    generalize (GX (endsF M kp) rows.length)[rows.length] = g at hg hgp
    have hM' : MachAt t H' sa ga rs M := h2.ext hs4
    have hK' : H' ka = some (.list (kp.map em)) := hs4 k2
    have e0 : idxOp H' (.ref gr) (.int rows.length) = some (tupI g) := idx_list hN.l (pyIdx_nat (by rw [List.length_map]; exact hb)) (by rw [List.getElem?_map, hg]; rfl)
    refine st_set (v := tupI g) (by rw [← hls] at e0; exact pix (pva r4) (pln (pva r6) hSt) e0) ?_
    rw [s_cons, s_asg]
    refine i_compE hC (l := dedupG kp) (g := em) (f := fun mk => tupI (ledG M kp g mk)) (sv := .ref ma) (pva (Eq.trans (by kernel_rfl) r3)) (src_list hA') (fun H'' e => e _ _ hA') (fun mk hmk H'' e => ?_) (by unfold lim; (first | lia | omega)) fun ea Ha xa hea => ?_
    · refine i_call (vs := [mval mv sa ga, tupI g, em mk, .ref ka]) (psc (pva (Eq.trans (by kernel_rfl) r1)) (psc (pva (by kernel_rfl)) (ps2 (pva (by kernel_rfl)) (pva (Eq.trans (by kernel_rfl) r2))))) ?_
      exact ledG_spec T.le E hok (by (first | lia | omega)) (by (first | lia | omega)) (hM'.ext fun ha => e _ _ ha) (e _ _ hK') hkl hgp.2 fun H3 x3 => ⟨rfl, x3⟩
    have he' : ((dedupG kp).map fun mk => tupI (ledG M kp g mk)) = (endsF M kp g).map tupI := by unfold endsF; rw [List.map_map]; rfl
    rw [he']
    have ye : Ext H' (hupd Ha ea (.list ((endsF M kp g).map tupI))) := xa.trans (.new hea)
    have ee : hupd Ha ea (.list ((endsF M kp g).map tupI)) ea = some (.list ((endsF M kp g).map tupI)) := hupd_eq ..
    have hea' : H' ea = none := fresh_E xa hea
    generalize hupd Ha ea (.list ((endsF M kp g).map tupI)) = He at ye ee
    have hNe := hN.extL (L := []) ye.toL nin0 nin0
    have sE := ye _ _ hSt
    have hel := endsF_len M kp g
    have dea : ∀ {a : Addr} {o : Ob}, H' a = some o → ea ≠ a := fun ha => (ne_of_some hea' ha).symm
    refine st_app (v := .none) (Eq.trans (by kernel_rfl) r6) sE (by rw [List.length_map]; unfold lim; (first | lia | omega)) ?_ hC
    refine numbG_comp T.nu hNe ee (dea hN.d) (dea hN.l) (by unfold lim; (first | lia | omega)) (by kernel_rfl) (Eq.trans (by kernel_rfl) r5) (Eq.trans (by kernel_rfl) r4) fun row ra Hc xc hNc hrow1 hrow2 hra => ?_
    rw [← GX_get hg] at hNc hrow2
    have xbc : ∀ {a : Addr} {o : Ob}, a ≠ na → a ≠ gr → H' a = some o → Hc a = some o := fun a1 a2 ha => xc _ _ (nin2 a1 a2) (ye _ _ ha)
    have sc : Hc st = some (.list (rs'.map .ref)) := xbc ne3.symm ne2.symm hSt
    have oc : Hc go = some (.list (gs.map .bool)) := xbc ne5.symm ne4.symm hO
    have tc : Hc t = some o := xbc (ni1 toff) (ni2 toff) (hs4 t2)
    refine ⟨new_other hra sc, ?_⟩
    have hrowOK : rowOK (dedupG kp).length (GX (endsF M kp) (rows.length + 1)).length row := ⟨by rw [hrow1, hel], fun x hx => by
      obtain ⟨k, hk, rfl⟩ := List.mem_iff_getElem.mp hx
      obtain ⟨y, f1, f2⟩ := hrow2 k _ (List.getElem?_eq_getElem (by (first | lia | omega)))
      rw [List.getElem?_eq_getElem hk] at f1
      injection f1 with f1
      have := (List.getElem?_eq_some_iff.mp f2).1
      (first | lia | omega)⟩
    have nra : ∀ {a : Addr} {o : Ob}, Hc a = some o → a ≠ ra := fun ha => ne_of_some hra ha
    have raL : ra ∉ [t, na, gr, st, go] := nin5 (nra tc).symm (nra hNc.d).symm (nra hNc.l).symm (nra sc).symm (nra oc).symm
    have fra : H ra = none := by
      cases q : H ra with
      | none => rfl
      | some oo =>
        have q2 := x02 _ _ q
        have q5 := off q2
        exact absurd rfl (nra (xbc (ni1 q5) (ni2 q5) (hs4 q2)))
    have hRc : Rows [t, na, gr, st, go] Hc (dedupG kp).length (GX (endsF M kp) (rows.length + 1)).length rs' rows := by
      refine Rows.mono ⟨hR.len, fun i a b => ?_, hR.off, hR.ok⟩ (GX_le _)
      have := hR.off _ (List.getElem_mem a)
      exact xbc (ni2 this) (ni3 this) (hR.at' i a b)
    have hRd : Rows [t, na, gr, st, go] (hupd (hupd Hc ra (.list (row.map .int))) st (.list (rs'.map .ref ++ [.ref ra]))) (dedupG kp).length (GX (endsF M kp) (rows.length + 1)).length (rs' ++ [ra]) (rows ++ [row]) := by
      refine ((hRc.extL (L' := []) (Ext.new hra).toL fun _ _ => nin0).snoc (hupd_eq ..) raL hrowOK).extL (L' := [st]) (.upd (.head _)) fun a ha => ?_
      rcases List.mem_append.mp ha with k | k
      · exact nin1 (ni4 (hR.off a k))
      · rw [List.mem_singleton.mp k]; exact nin1 (ni4 raL)
    have sd : hupd (hupd Hc ra (.list (row.map .int))) st (.list (rs'.map .ref ++ [.ref ra])) st = some (.list ((rs' ++ [ra]).map .ref)) := by rw [hupd_eq, map_snoc]
    have od : hupd (hupd Hc ra (.list (row.map .int))) st (.list (rs'.map .ref ++ [.ref ra])) go = some (.list (gs.map .bool)) := by rw [hupd_ne ne6.symm]; exact new_other hra oc
    have hNd : Num 2 (hupd (hupd Hc ra (.list (row.map .int))) st (.list (rs'.map .ref ++ [.ref ra]))) na gr ((GX (endsF M kp) (rows.length + 1)).map tupI) := ⟨by rw [hupd_ne ne3]; exact new_other hra hNc.d, by rw [hupd_ne ne2]; exact new_other hra hNc.l, hNc.nd, hNc.ok⟩
    have xd : ExtL [na, gr, st, go] H2 (hupd (hupd Hc ra (.list (row.map .int))) st (.list (rs'.map .ref ++ [.ref ra]))) := fun a oo ha hh => by
      have b2 := xbc (ni1 ha) (ni2 ha) (xx _ _ ha hh)
      rw [hupd_ne (ni3 ha)]
      exact new_other hra b2
    generalize hupd (hupd Hc ra (.list (row.map .int))) st (.list (rs'.map .ref ++ [.ref ra])) = Hd at hRd sd od hNd xd
    have hMd : MachAt t Hd sa ga rs M := h2.ext fun ha => xd _ _ (off ha) ha
    have hgl8 := grp_len hgp
    refine st_app (v := .none) (Eq.trans (by kernel_rfl) r7) od (by rw [List.length_map]; unfold lim; (first | lia | omega)) ?_ hC
    rw [w_prim, w_cons]
    refine i_compP hC (l := g) (g := .int) (f := fun y => .bool (M.go y)) (sv := tupI g) (by kernel_rfl) (src_tup Hd _) trivial (fun y hy => hMd.pgood (mv := mv) (Eq.trans (by kernel_rfl) r1) (by kernel_rfl) (hgp.2 y hy).1 (hgp.2 y hy).2) (by unfold lim; (first | lia | omega)) fun ca hca => ?_
    rw [w_nil]
    refine ⟨.val (.bool (gofF M g)), by rw [p_anyL (bs := g.map M.go) (by rw [hupd_eq, List.map_map]; rfl), List.any_map]; rfl, ?_⟩
    rw [fin_val]
    refine ⟨new_other hca od, ?_⟩
    rw [s_nil]
    have xe : Ext Hd (hupd Hd ca (.list (g.map fun y => .bool (M.go y)))) := .new hca
    generalize hupd Hd ca (.list (g.map fun y => .bool (M.go y))) = Hf at xe
    have lr : (rows ++ [row]).length = rows.length + 1 := List.length_append ..
    refine ⟨μ - 1, by (first | lia | omega), ⟨Eq.trans (by kernel_rfl) r1, Eq.trans (by kernel_rfl) r2, Eq.trans (by kernel_rfl) r3, Eq.trans (by kernel_rfl) r4, Eq.trans (by kernel_rfl) r5, Eq.trans (by kernel_rfl) r6, Eq.trans (by kernel_rfl) r7⟩, (xd.trans xe.toL).trans (.upd (.tail _ (.tail _ (.tail _ (.head _))))), rs' ++ [ra], rows ++ [row], gs ++ [gofF M g], by rw [lr]; (first | lia | omega), ?_, ?_, ?_, hJ.step hg hrow2, ?_, ?_⟩
    · rw [lr]; exact (hNd.extL (L := []) xe.toL nin0 nin0).extL (L := [go]) (.upd (.head _)) (nin1 ne5) (nin1 ne4)
    · rw [hupd_ne ne6]; exact xe _ _ sd
    · rw [hupd_eq, List.map_append]; rfl
    · rw [lr]
      exact (hRd.extL (L' := []) xe.toL fun _ _ => nin0).extL (L' := [go]) (.upd (.head _)) fun a ha => nin1 (ni5 (hRd.off a ha))
    · intro a ha
      rcases List.mem_append.mp ha with k | k
      · exact hfr a k
      · rw [List.mem_singleton.mp k]; exact fra
  · have hb : (GX (endsF M kp) rows.length).length ≤ rows.length := by rw [decide_eq_false_iff_not] at hb; (first | lia | omega)
    have hlen : rows.length = (GX (endsF M kp) rows.length).length := by (first | lia | omega)
    have hm0 := GX_pos (ends := endsF M kp) rows.length
    refine st_back (v := mval ((dedupG kp).map em) st go) ?_ ?_
    · rw [pev_prim, psc (p1 (pva r3) (by rw [p_tupleOfL hA']; exact valT_ok (by rw [List.length_map]; unfold lim; (first | lia | omega)))) (ps2 (pva r6) (pva r7))]; kernel_rfl
    have hro : ∀ a ∈ rs', a ∉ [t, na, gr, st, go] := hR.off
    refine hQ st go rs' (machL (dedupG kp).length rows gs) H' (fun a oo ha => hs4 (x02 _ _ ha)) (fun a ha => ?_) (fun ha => ni5 (hro _ ha) rfl) (fun ha => ni4 (hro _ ha) rfl) ne6 (machL_at hSt hO hR.len hJ.gl hR.at' (fun r hr => (hR.ok r hr).1) (fun e => ni3 toff e.symm) (fun e => ni4 toff e.symm) fun a ha => ni1 (hro a ha)) (machL_ok (by (first | lia | omega)) (by have := hR.ok; rwa [← hlen] at this)) (by show rows.length ≤ _; (first | lia | omega)) (hJ.jx hb)
    rcases List.mem_cons.mp ha with rfl | ha
    · exact fs
    · rcases List.mem_cons.mp ha with rfl | ha
      · exact fg
      · exact hfr a ha
end
end Mini

end
section
set_option autoImplicit false
set_option linter.unusedVariables false
set_option linter.unusedSimpArgs false
set_option maxRecDepth 100000
namespace Mini
open PySem

theorem toD_intsL {H : MH} {a : Addr} {l : List Int} (h : H a = some (.list (l.map .int))) : toD lineD H (.ref a) = some (.list (l.map .int)) := by
  show toD (39 + 1) H _ = _
  rw [toD_refK 39 h, mapO_map l fun x _ => toD_intK 39 H x]; rfl
theorem metE {H : MH} {W : List (Addr × List Int)} (hW : ∀ x ∈ W, H x.1 = some (.list (x.2.map .int))) : mapO (toD lineD H) ((W.map Prod.fst).map .ref) = some ((W.map Prod.snd).map fun g => .list (g.map .int)) := by
  rw [List.map_map, List.map_map]
  exact mapO_map W fun x hx => toD_intsL (hW x hx)
theorem in_met {H : MH} {a me : Addr} {W : List (Addr × List Int)} {g : List Int} (h : H me = some (.list ((W.map Prod.fst).map .ref))) (hW : ∀ x ∈ W, H x.1 = some (.list (x.2.map .int))) (ha : H a = some (.list (g.map .int))) : inOp H (.ref a) (.ref me) = some (decide (g ∈ W.map Prod.snd)) := by
  rw [inOp_list h (toD_intsL ha) (metE hW)]
  congr 1
  generalize W.map Prod.snd = G
  induction G with
  | nil => rfl
  | cons y l ih =>
    rw [List.map_cons, List.any_cons, ih, eqv_list, eqvAll_ints]
    by_cases e : y = g
    · subst e; simp
    · simp [e, Ne.symm e]
theorem find_met {G : List (List Int)} (nd : G.Nodup) {x : Nat} {g : List Int} (hx : G[x]? = some g) : ((G.map fun g => PyData.list (g.map .int)).findIdx? fun y => PyData.eqv y (.list (g.map .int))) = some x := by
  obtain ⟨hx', rfl⟩ := List.getElem?_eq_some_iff.mp hx
  refine find_at (i := x) (by rw [List.length_map]; exact hx') (by rw [List.getElem_map, eqv_list, eqvAll_ints]; simp) fun j h' hj => ?_
  rw [List.length_map] at h'
  rw [List.getElem_map, eqv_list, eqvAll_ints, decide_eq_false_iff_not]
  exact List.pairwise_iff_getElem.mp nd j x h' hx' hj
theorem index_met {H : MH} {a me : Addr} {W : List (Addr × List Int)} {g : List Int} {x : Nat} (h : H me = some (.list ((W.map Prod.fst).map .ref))) (hW : ∀ x ∈ W, H x.1 = some (.list (x.2.map .int))) (ha : H a = some (.list (g.map .int))) (nd : (W.map Prod.snd).Nodup) (hx : (W.map Prod.snd)[x]? = some g) : indexOp H (.ref me) (.ref a) = some (.int x) := by
  simp only [indexOp, items, h, metE hW, toD_intsL ha]
  rw [find_met nd hx]; rfl
theorem pindex_met {H : MH} {ρ : Env} {a me : Addr} {W : List (Addr × List Int)} {g : List Int} {x : Nat} {mn pn : String} (h : H me = some (.list ((W.map Prod.fst).map .ref))) (hW : ∀ x ∈ W, H x.1 = some (.list (x.2.map .int))) (ha : H a = some (.list (g.map .int))) (nd : (W.map Prod.snd).Nodup) (hx : (W.map Prod.snd)[x]? = some g) (r1 : ρ mn = some (.ref me)) (r2 : ρ pn = some (.ref a)) : pev H ρ (.meth .index (.var mn) [.var pn]) = some (.int x) := by
  rw [pev_meth (ov := .ref me) (vs := [.ref a]) (pva r1) ?_ (ps1 (pva r2))]
  · show valOf ((indexOp H (.ref me) (.ref a)).map .val) = _
    rw [index_met h hW ha nd hx]; rfl
  · show (match H me with
      | some (.list _) => some "list"
      | _ => none).isSome = true
    rw [h]; rfl
section
variable {κ : Type} [DecidableEq κ]
noncomputable def fndK (M : Mach) (kp : List κ) (mk : κ) (r : Int) (n : Nat) : List Int := ((List.range n).filter fun k => decide (kp[k]? = some mk)).map fun k => M.st r k
noncomputable def fndG (M : Mach) (kp : List κ) (mk : κ) (g : List Int) : List Int := g.flatMap fun r => fndK M kp mk r M.m
theorem fndK_mem (M : Mach) (kp : List κ) (mk : κ) (r : Int) (n : Nat) (x : Int) : x ∈ fndK M kp mk r n ↔ ∃ k, k < n ∧ kp[k]? = some mk ∧ x = M.st r k := by
  unfold fndK
  rw [List.mem_map]
  constructor
  · rintro ⟨k, hk, rfl⟩
    rw [List.mem_filter, List.mem_range, decide_eq_true_eq] at hk
    exact ⟨k, hk.1, hk.2, rfl⟩
  · rintro ⟨k, h1, h2, rfl⟩
    exact ⟨k, by rw [List.mem_filter, List.mem_range, decide_eq_true_eq]; exact ⟨h1, h2⟩, rfl⟩
theorem fndG_mem (M : Mach) (kp : List κ) (mk : κ) (g : List Int) (x : Int) : x ∈ fndG M kp mk g ↔ x ∈ ledG M kp g mk := by
  unfold fndG
  rw [List.mem_flatMap, ledG_mem]
  constructor
  · rintro ⟨r, hr, hx⟩
    obtain ⟨k, h1, h2, h3⟩ := (fndK_mem M kp mk r M.m x).mp hx
    exact ⟨k, h1, h2, r, hr, h3⟩
  · rintro ⟨k, h1, h2, r, hr, h3⟩
    exact ⟨r, hr, (fndK_mem M kp mk r M.m x).mpr ⟨k, h1, h2, h3⟩⟩
theorem fndK_len (M : Mach) (kp : List κ) (mk : κ) (r : Int) (n : Nat) : (fndK M kp mk r n).length ≤ n := by
  unfold fndK
  rw [List.length_map]
  exact Nat.le_trans (List.length_filter_le ..) (by rw [List.length_range]; exact Nat.le_refl _)
theorem fndG_len (M : Mach) (kp : List κ) (mk : κ) : ∀ g : List Int, (fndG M kp mk g).length ≤ g.length * M.m
  | [] => Nat.zero_le _
  | r :: g => by
    have := fndG_len M kp mk g
    have h2 := fndK_len M kp mk r M.m
    unfold fndG at this ⊢
    rw [List.flatMap_cons, List.length_append, List.length_cons, Nat.succ_mul]
    (first | lia | omega)
theorem fndG_sort (M : Mach) (kp : List κ) (mk : κ) (g : List Int) : sortI (dedupI (fndG M kp mk g)) = ledG M kp g mk := by
  unfold ledG
  refine sortI_uniq ((List.perm_ext_iff_of_nodup (nodup_dedupP _) (keysG_nodup ..)).mpr fun x => ?_)
  rw [mem_dedupP, fndG_mem]
  unfold ledG
  exact sortI_mem x _
abbrev LOTab (tab : Tab) : Prop := tab.lookup "_law_onward" = some (["_law_machine_here", "_law_kept", "_law_rooms", "_law_thing"], b_l_onward)
structure OV (ρ : Env) (mv : List V) (sa ga ka fa : Addr) (th : V) : Prop where
  mh : ρ "_law_machine_here" = some (mval mv sa ga)
  kp : ρ "_law_kept" = some (.ref ka)
  th : ρ "_law_thing" = some th
  fo : ρ "_law_found" = some (.ref fa)
theorem onward_spec {tab : Tab} (T : LOTab tab) {n : Nat} {t : Addr} {H : MH} {sa ga ka ra : Addr} {rs : List Addr} {M : Mach} {mv : List V} {em : κ → V} (E : Emb em) {kp : List κ} {mk : κ} {g : List Int} {Q : V → MH → Prop} {Z : Z0} (hok : M.OK) (hn : M.n ≤ 8) (hm : M.m ≤ 4) (h : MachAt t H sa ga rs M) (hk : H ka = some (.list (kp.map em))) (hkl : kp.length = M.m) (hr : H ra = some (.list (g.map .int))) (hg : Grp M.n g)
    (hQ : ∀ (a : Addr) (H' : MH), Ext H H' → H a = none → H' a = some (.list ((ledG M kp g mk).map .int)) → Q (.ref a) H') : CallN tab (n + 1) "_law_onward" [mval mv sa ga, .ref ka, .ref ra, em mk] Q Z H := by
  refine call_of T rfl ?_
  have hC := CallN_mono tab n
  unfold b_l_onward
  have hr1 : bindE ["_law_machine_here", "_law_kept", "_law_rooms", "_law_thing"] [mval mv sa ga, .ref ka, .ref ra, em mk] "_law_machine_here" = some (mval mv sa ga) := by kernel_rfl
  have hr2 : bindE ["_law_machine_here", "_law_kept", "_law_rooms", "_law_thing"] [mval mv sa ga, .ref ka, .ref ra, em mk] "_law_kept" = some (.ref ka) := by kernel_rfl
  have hr3 : bindE ["_law_machine_here", "_law_kept", "_law_rooms", "_law_thing"] [mval mv sa ga, .ref ka, .ref ra, em mk] "_law_rooms" = some (.ref ra) := by kernel_rfl
  have hr4 : bindE ["_law_machine_here", "_law_kept", "_law_rooms", "_law_thing"] [mval mv sa ga, .ref ka, .ref ra, em mk] "_law_thing" = some (em mk) := by kernel_rfl
  generalize bindE ["_law_machine_here", "_law_kept", "_law_rooms", "_law_thing"] [mval mv sa ga, .ref ka, .ref ra, em mk] = ρ0 at hr1 hr2 hr3 hr4
  have hgl := grp_len hg
  refine st_new (vs := []) (by kernel_rfl) (Nat.zero_le _) fun fa hfa => ?_
  have y1 : Ext H (hupd H fa (.list [])) := .new hfa
  have f1 : hupd H fa (.list []) fa = some (.list []) := hupd_eq ..
  generalize hupd H fa (.list []) = H1 at y1 f1
  have nf : ∀ {a : Addr} {o : Ob}, H a = some o → a ∉ [fa] := fun ha => nin1 (ne_of_some hfa ha)
  refine st_forI hC (sv := .ref ra) (pva (Eq.trans (by kernel_rfl) hr3)) (src_list (y1 _ _ hr)) (fun i ρ' H' => OV ρ' mv sa ga ka fa (em mk) ∧ ExtL [fa] H1 H' ∧ H' fa = some (.list ((fndG M kp mk (g.take i)).map .int))) ⟨⟨Eq.trans (by kernel_rfl) hr1, Eq.trans (by kernel_rfl) hr2, Eq.trans (by kernel_rfl) hr4, by kernel_rfl⟩, .refl _ _, f1⟩ (fun i ρ' H' k => k.2.1 _ _ (nf hr) (y1 _ _ hr)) ?_ ?_
  · rintro i hi ρ' H' ⟨V0, x, e⟩
    have hi' : i < g.length := by rwa [List.length_map] at hi
    rw [List.getElem_map]
    have hgi := hg.2 _ (List.getElem_mem hi')
    have hs : ∀ {a : Addr} {o : Ob}, H a = some o → H' a = some o := fun ha => x _ _ (nf ha) (y1 _ _ ha)
    have hkl' := pln (H := H') (ρ := upd ρ' "_law_room" (.int g[i])) (e := .var "_law_kept") (pva (Eq.trans (by kernel_rfl) V0.kp)) (hs hk)
    rw [List.length_map, hkl] at hkl'
    have hfl := fndG_len M kp mk (g.take i)
    rw [List.length_take] at hfl
    have hfl : (fndG M kp mk (g.take i)).length ≤ 8 * 4 := Nat.le_trans hfl (Nat.mul_le_mul (by (first | lia | omega)) hm)
    refine st_forI hC (sv := .int M.m) hkl' (src_range H' (by unfold lim; (first | lia | omega))) (fun j ρ2 H2 => OV ρ2 mv sa ga ka fa (em mk) ∧ ρ2 "_law_room" = some (.int g[i]) ∧ ExtL [fa] H' H2 ∧ H2 fa = some (.list ((fndG M kp mk (g.take i) ++ fndK M kp mk g[i] j).map .int))) ⟨⟨Eq.trans (by kernel_rfl) V0.mh, Eq.trans (by kernel_rfl) V0.kp, Eq.trans (by kernel_rfl) V0.th, Eq.trans (by kernel_rfl) V0.fo⟩, by kernel_rfl, .refl _ _, by rw [e]; show _ = some (Ob.list ((fndG M kp mk (g.take i) ++ []).map .int)); rw [List.append_nil]⟩ (fun _ _ _ _ => trivial) ?_ ?_
    · rintro j hj ρ2 H2 ⟨V2, hrm, x2, e2⟩
      have hj' : j < M.m := lt_rangeV hj
      rw [get_rangeV]
      have hjk : j < kp.length := by (first | lia | omega)
      have hs2 : ∀ {a : Addr} {o : Ob}, H a = some o → H2 a = some o := fun ha => x2 _ _ (nf ha) (hs ha)
      have hix : idxOp H2 (.ref ka) (.int j) = some (em kp[j]) := idx_list (hs2 hk) (pyIdx_nat (by rw [List.length_map]; exact hjk)) (by rw [List.getElem?_map, List.getElem?_eq_getElem hjk]; rfl)
      have eK : fndK M kp mk g[i] (j + 1) = fndK M kp mk g[i] j ++ if kp[j]? = some mk then [M.st g[i] j] else [] := by
        unfold fndK
        rw [List.range_succ, List.filter_append, List.map_append]
        congr 1
        by_cases q : kp[j]? = some mk
        · rw [if_pos q]; simp [q]
        · rw [if_neg q]; simp [q]
      refine st_if (b := decide (kp[j] = mk)) (peq (pix (pva (Eq.trans (by kernel_rfl) V2.kp)) (pva (by kernel_rfl)) hix) (pva (Eq.trans (by kernel_rfl) V2.th)) (E.eq H2 _ _)) (fun hb => ?_) fun hb => ?_
      · have hb' : kp[j]? = some mk := by rw [List.getElem?_eq_getElem hjk]; exact congrArg some (of_decide_eq_true hb)
        have hKl := fndK_len M kp mk g[i] j
        refine st_appP (Eq.trans (by kernel_rfl) V2.fo) e2 (by rw [List.length_map, List.length_append]; unfold lim; (first | lia | omega)) ((h.ext hs2).pstep (mv := mv) (x := "_law_machine_here") (er := .var "_law_room") (ek := .var "_law_k") (Eq.trans (by kernel_rfl) V2.mh) (pva (Eq.trans (by kernel_rfl) hrm)) (by kernel_rfl) hgi.1 hgi.2 hj') ?_ hC
        rw [s_nil, s_nil]
        refine ⟨⟨Eq.trans (by kernel_rfl) V2.mh, Eq.trans (by kernel_rfl) V2.kp, Eq.trans (by kernel_rfl) V2.th, Eq.trans (by kernel_rfl) V2.fo⟩, Eq.trans (by kernel_rfl) hrm, x2.trans (.upd (.head _)), ?_⟩
        rw [hupd_eq, eK, if_pos hb', ← List.append_assoc, List.map_append (f := V.int) (l₂ := [M.st g[i] j])]; rfl
      · have hb' : ¬ kp[j]? = some mk := by rw [List.getElem?_eq_getElem hjk]; intro q; exact of_decide_eq_false hb (Option.some.inj q)
        rw [s_nil, s_nil]
        exact ⟨⟨Eq.trans (by kernel_rfl) V2.mh, Eq.trans (by kernel_rfl) V2.kp, Eq.trans (by kernel_rfl) V2.th, Eq.trans (by kernel_rfl) V2.fo⟩, Eq.trans (by kernel_rfl) hrm, x2, by rw [e2, eK, if_neg hb', List.append_nil]⟩
    · rintro ρ2 H2 ⟨V2, hrm, x2, e2⟩
      rw [len_rangeV] at e2
      rw [s_nil]
      refine ⟨V2, x.trans x2, ?_⟩
      rw [e2, List.take_succ_eq_append_getElem hi']
      unfold fndG
      rw [List.flatMap_append, List.flatMap_singleton]
  · rintro ρ' H' ⟨V0, x, e⟩
    rw [List.length_map, List.take_length] at e
    have hl := fndG_len M kp mk g
    have hl : (fndG M kp mk g).length ≤ 8 * 4 := Nat.le_trans hl (Nat.mul_le_mul (by (first | lia | omega)) hm)
    rw [s_cons, s_ret, w_prim]
    refine pevs_ok _ [.ref fa] _ (ps1 (pva V0.fo)) ⟨_, p_sset e (by (first | lia | omega)) (fun i hi => ?_), ?_⟩
    · have := (ledG_grp (kp := kp) (mk := mk) hok hg).2 i ((fndG_mem M kp mk g i).mp hi)
      (first | lia | omega)
    rw [fin_new, fndG_sort]
    intro a ha
    have hxx : Ext H H' := fun b o hb => x _ _ (nf hb) (y1 _ _ hb)
    exact hQ a _ (hxx.trans (.new ha)) (fresh_E hxx ha) (hupd_eq ..)
end
end Mini

end
section
set_option autoImplicit false
set_option linter.unusedVariables false
set_option linter.unusedSimpArgs false
set_option maxRecDepth 100000
namespace Mini
open PySem

section
variable {κ : Type} [DecidableEq κ]
structure Met (L : List Addr) (H : MH) (me : Addr) (W : List (Addr × List Int)) : Prop where
  m : H me = some (.list ((W.map Prod.fst).map .ref))
  w : ∀ x ∈ W, H x.1 = some (.list (x.2.map .int)) ∧ x.1 ∉ L
noncomputable def lfBody : List S := [.asg "_law_other" (.call "_law_onward" [.var "_law_machine_here", .var "_law_kept", .var "_law_rooms", .var "_law_thing"]),
        .ifs (.prim .notin [.var "_law_other", .var "_law_met"])
          [.ex (.meth .append (.var "_law_met") [.var "_law_other"])]
          [],
        .ex (.meth .append (.var "_law_row") [.meth .index (.var "_law_met") [.var "_law_other"]])]
structure LV (ρ : Env) (mv : List V) (sa ga ka la me st : Addr) : Prop where
  mh : ρ "_law_machine_here" = some (mval mv sa ga)
  kp : ρ "_law_kept" = some (.ref ka)
  le : ρ "_law_left" = some (.ref la)
  me : ρ "_law_met" = some (.ref me)
  st : ρ "_law_steps" = some (.ref st)
theorem lf_row {tab : Tab} (T : LOTab tab) {n : Nat} {t : Addr} {H : MH} {sa ga ka la me st ra ga0 : Addr} {rs : List Addr} {M : Mach} {mv : List V} {em : κ → V} (E : Emb em) {kp : List κ} {g : List Int} {W : List (Addr × List Int)} {L : List Addr} {ρ : Env} {N : Env → MH → Prop} {R : V → MH → Prop} {Z : Z0} {rest : List S} (hok : M.OK) (hn : M.n ≤ 8) (hm : M.m ≤ 4) (h : MachAt t H sa ga rs M) (hk : H ka = some (.list (kp.map em))) (hkl : kp.length = M.m) (hla : H la = some (.list ((dedupG kp).map em))) (hg0 : H ga0 = some (.list (g.map .int))) (hg : Grp M.n g) (hM : Met L H me W) (hr : H ra = some (.list [])) (nd : (W.map Prod.snd).Nodup) (hWl : W.length ≤ 256)
    (hL : ∀ a ∈ L, ∃ o, H a = some o) (hmL : me ∈ L) (hrL : ra ∈ L) (d0 : me ≠ ra) (oA : ∀ a, a = sa ∨ a = ga ∨ a ∈ rs → a ∉ [me, ra]) (ok : ka ∉ [me, ra]) (ol : la ∉ [me, ra]) (og : ga0 ∉ [me, ra])
    (V0 : LV ρ mv sa ga ka la me st) (rr : ρ "_law_row" = some (.ref ra)) (ro : ρ "_law_rooms" = some (.ref ga0))
    (hk' : ∀ (row : List Int) (W' : List (Addr × List Int)) (ρ' : Env) (H' : MH), LV ρ' mv sa ga ka la me st → ρ' "_law_row" = some (.ref ra) → ExtL [me, ra] H H' → W'.map Prod.snd = (endsF M kp g).foldl addK (W.map Prod.snd) → Met L H' me W' → H' ra = some (.list (row.map .int)) → row.length = (dedupG kp).length → (∀ (k : Nat) (e : List Int), (endsF M kp g)[k]? = some e → ∃ x : Nat, row[k]? = some (x : Int) ∧ ((endsF M kp g).foldl addK (W.map Prod.snd))[x]? = some e) → wpSs (CallN tab (n + 1)) rest ρ' N R Z H') :
    wpSs (CallN tab (n + 1)) (.for ["_law_thing"] false .plain (.var "_law_left") lfBody :: rest) ρ N R Z H := by
  have hC := CallN_mono tab (n + 1)
  have hdl := dedupG_len kp
  have hel := endsF_len M kp g
  refine st_forI hC (pva V0.le) (src_list hla) (fun j ρ' H' => (LV ρ' mv sa ga ka la me st ∧ ρ' "_law_row" = some (.ref ra) ∧ ρ' "_law_rooms" = some (.ref ga0)) ∧ ExtL [me, ra] H H' ∧ (∃ W' : List (Addr × List Int), W'.map Prod.snd = ((endsF M kp g).take j).foldl addK (W.map Prod.snd) ∧ Met L H' me W') ∧ ∃ xs : List Int, H' ra = some (.list (xs.map .int)) ∧ xs.length = j ∧ ∀ (k : Nat) (e : List Int), k < j → (endsF M kp g)[k]? = some e → ∃ x : Nat, xs[k]? = some (x : Int) ∧ (((endsF M kp g).take j).foldl addK (W.map Prod.snd))[x]? = some e) ⟨⟨V0, rr, ro⟩, .refl _ _, ⟨W, rfl, hM⟩, [], hr, rfl, fun k e hk => absurd hk (Nat.not_lt_zero _)⟩ (fun j ρ' H' k => k.2.1 _ _ ol hla) ?_ ?_
  · rintro j hj ρ' H' ⟨⟨V1, r1, r2⟩, x, ⟨W', hW', hM'⟩, xs, er, hxl, hx⟩
    have hj' : j < (dedupG kp).length := by rwa [List.length_map] at hj
    rw [List.getElem_map]
    have hs : ∀ {a : Addr} {o : Ob}, a ∉ [me, ra] → H a = some o → H' a = some o := fun ha hh => x _ _ ha hh
    have mA' : MachAt t H' sa ga rs M := ⟨hs (oA _ (.inl rfl)) h.s, hs (oA _ (.inr (.inl rfl))) h.g, h.l, fun i hi => hs (oA _ (.inr (.inr (List.getElem_mem _)))) (h.r i hi), h.st, h.gt, h.rt⟩
    unfold lfBody
    refine st_setC (vs := [mval mv sa ga, .ref ka, .ref ga0, em (dedupG kp)[j]]) (psc (pva (Eq.trans (by kernel_rfl) V1.mh)) (psc (pva (Eq.trans (by kernel_rfl) V1.kp)) (ps2 (pva (Eq.trans (by kernel_rfl) r2)) (pva (by kernel_rfl))))) ?_
    refine onward_spec T E hok hn hm mA' (hs ok hk) hkl (hs og hg0) hg fun a H2 y2 fa ea => ?_
    have hej : (endsF M kp g)[j]? = some (ledG M kp g (dedupG kp)[j]) := by unfold endsF; rw [List.getElem?_map, List.getElem?_eq_getElem hj']; rfl
    generalize ledG M kp g (dedupG kp)[j] = e0 at ea hej
    have ej' : (endsF M kp g).take (j + 1) = (endsF M kp g).take j ++ [e0] := by rw [List.take_add_one, hej]; rfl
    have eF : ((endsF M kp g).take (j + 1)).foldl addK (W.map Prod.snd) = addK (W'.map Prod.snd) e0 := by rw [ej', List.foldl_append, ← hW']; rfl
    have hWl' : W'.length ≤ 256 + 4 := by
      have h1 := foldAdd_len ((endsF M kp g).take j) (W.map Prod.snd)
      have h2 := congrArg List.length hW'
      rw [List.length_map] at h2
      rw [List.length_take, List.length_map] at h1
      have h3 : (((endsF M kp g).take j).foldl addK (W.map Prod.snd)).length ≤ W.length + min j (endsF M kp g).length := h1
      (first | lia | omega)
    have ndj : (W'.map Prod.snd).Nodup := by rw [hW']; exact foldK_nodup _ nd
    have aL : a ∉ L := fun m => by
      obtain ⟨o, ho⟩ := hL a m
      by_cases q : a ∈ [me, ra]
      · rcases List.mem_cons.mp q with e | q
        · rw [e, hM'.m] at fa; cases fa
        · rw [List.mem_singleton.mp q, er] at fa; cases fa
      · rw [x _ _ q ho] at fa; cases fa
    have hM2 : Met L H2 me W' := ⟨y2 _ _ hM'.m, fun z hz => ⟨y2 _ _ (hM'.w z hz).1, (hM'.w z hz).2⟩⟩
    have er2 := y2 _ _ er
    have V2 : LV (upd (upd ρ' "_law_thing" (em (dedupG kp)[j])) "_law_other" (.ref a)) mv sa ga ka la me st := ⟨Eq.trans (by kernel_rfl) V1.mh, Eq.trans (by kernel_rfl) V1.kp, Eq.trans (by kernel_rfl) V1.le, Eq.trans (by kernel_rfl) V1.me, Eq.trans (by kernel_rfl) V1.st⟩
    have w1 : upd (upd ρ' "_law_thing" (em (dedupG kp)[j])) "_law_other" (.ref a) "_law_row" = some (.ref ra) := Eq.trans (by kernel_rfl) r1
    have w2 : upd (upd ρ' "_law_thing" (em (dedupG kp)[j])) "_law_other" (.ref a) "_law_rooms" = some (.ref ga0) := Eq.trans (by kernel_rfl) r2
    have w3 : upd (upd ρ' "_law_thing" (em (dedupG kp)[j])) "_law_other" (.ref a) "_law_other" = some (.ref a) := by kernel_rfl
    generalize upd (upd ρ' "_law_thing" (em (dedupG kp)[j])) "_law_other" (.ref a) = ρ2 at V2 w1 w2 w3
    -- once the group is in
    have key : ∀ (H3 : MH) (W2 : List (Addr × List Int)), ExtL [me] H2 H3 → Met L H3 me W2 → W2.map Prod.snd = ((endsF M kp g).take (j + 1)).foldl addK (W.map Prod.snd) → wpSs (CallN tab (n + 1)) [.ex (.meth .append (.var "_law_row") [.meth .index (.var "_law_met") [.var "_law_other"]])] ρ2 (fun ρ' H' => (LV ρ' mv sa ga ka la me st ∧ ρ' "_law_row" = some (.ref ra) ∧ ρ' "_law_rooms" = some (.ref ga0)) ∧ ExtL [me, ra] H H' ∧ (∃ W' : List (Addr × List Int), W'.map Prod.snd = ((endsF M kp g).take (j + 1)).foldl addK (W.map Prod.snd) ∧ Met L H' me W') ∧ ∃ xs : List Int, H' ra = some (.list (xs.map .int)) ∧ xs.length = j + 1 ∧ ∀ (k : Nat) (e : List Int), k < j + 1 → (endsF M kp g)[k]? = some e → ∃ x : Nat, xs[k]? = some (x : Int) ∧ (((endsF M kp g).take (j + 1)).foldl addK (W.map Prod.snd))[x]? = some e) R ZF H3 := by
      intro H3 W2 y3 hM3 hW2
      obtain ⟨i, hi⟩ := addK_get (W'.map Prod.snd) e0
      rw [← eF, ← hW2] at hi
      have nd2 : (W2.map Prod.snd).Nodup := by rw [hW2]; exact foldK_nodup _ nd
      have nam : a ≠ me := fun e => by rw [e, hM'.m] at fa; cases fa
      refine st_appP w1 (y3 _ _ (nin1 d0.symm) er2) (by rw [List.length_map, hxl]; unfold lim; (first | lia | omega)) (pindex_met hM3.m (fun z hz => (hM3.w z hz).1) (y3 _ _ (nin1 nam) ea) nd2 hi V2.me w3) ?_ hC
      rw [s_nil]
      refine ⟨⟨V2, w1, w2⟩, fun b o hb hh => ?_, ⟨W2, hW2, by rw [hupd_ne d0]; exact hM3.m, fun z hz => ⟨by rw [hupd_ne (show z.1 ≠ ra from fun e => (hM3.w z hz).2 (by rw [e]; exact hrL))]; exact (hM3.w z hz).1, (hM3.w z hz).2⟩⟩, xs ++ [(i : Int)], by rw [hupd_eq, List.map_append]; rfl, by rw [List.length_append, hxl]; rfl, fun k e hk hke => ?_⟩
      · rw [hupd_ne (ni2 hb)]
        exact y3 _ _ (nin1 (ni1 hb)) (y2 _ _ (x _ _ hb hh))
      · rcases Nat.lt_or_ge k j with q | q
        · obtain ⟨y, e1, e2⟩ := hx k e q hke
          obtain ⟨E', hE⟩ := addK_ext (W'.map Prod.snd) e0
          exact ⟨y, by rw [List.getElem?_append_left (by (first | lia | omega))]; exact e1, by rw [eF, hE, hW']; exact get_ext e2⟩
        · have : k = j := by (first | lia | omega)
          subst this
          rw [hej] at hke
          cases hke
          exact ⟨i, by rw [List.getElem?_append_right (by (first | lia | omega)), hxl, Nat.sub_self]; rfl, by rw [← hW2]; exact hi⟩
    refine st_if (b := !decide (e0 ∈ W'.map Prod.snd)) (pni (pva w3) (pva V2.me) (in_met hM2.m (fun z hz => (hM2.w z hz).1) ea)) (fun hb => ?_) fun hb => ?_
    · have hnot : e0 ∉ W'.map Prod.snd := by rw [Bool.not_eq_true', decide_eq_false_iff_not] at hb; exact hb
      refine st_appP V2.me hM2.m (by rw [List.length_map, List.length_map]; unfold lim; (first | lia | omega)) (pva w3) ?_ hC
      rw [s_nil]
      refine key _ (W' ++ [(a, e0)]) (.upd (.head _)) ⟨by rw [hupd_eq, List.map_append (f := Prod.fst), List.map_append (f := V.ref)]; rfl, fun z hz => ?_⟩ (by rw [eF, addK_neg hnot, List.map_append]; rfl)
      have kz : H2 z.1 = some (.list (z.2.map .int)) ∧ z.1 ∉ L := by
        rcases List.mem_append.mp hz with q | q
        · exact hM2.w z q
        · rw [List.mem_singleton.mp q]; exact ⟨ea, aL⟩
      exact ⟨by rw [hupd_ne (show z.1 ≠ me from fun e => kz.2 (by rw [e]; exact hmL))]; exact kz.1, kz.2⟩
    · have hin : e0 ∈ W'.map Prod.snd := by rw [Bool.not_eq_false', decide_eq_true_eq] at hb; exact hb
      rw [s_nil]
      exact key _ W' (.refl _ _) hM2 (by rw [eF, addK_pos hin])
  · rintro ρ' H' ⟨⟨V1, r1, r2⟩, x, ⟨W', hW', hM'⟩, xs, er, hxl, hx⟩
    rw [List.length_map] at hxl hx hW'
    rw [List.take_of_length_le (by (first | lia | omega))] at hW' hx
    exact hk' xs W' ρ' H' V1 r1 x hW' hM' er hxl fun k e hke => hx k e (by have := (List.getElem?_eq_some_iff.mp hke).1; (first | lia | omega)) hke
end
end Mini

end
section
set_option autoImplicit false
set_option linter.unusedVariables false
set_option linter.unusedSimpArgs false
set_option maxRecDepth 100000
namespace Mini
open PySem

section
variable {κ : Type} [DecidableEq κ]
structure LFo (tab : Tab) : Prop where
  on : LOTab tab
  fo : tab.lookup "_law_forgot" = some (["_law_machine_here", "_law_kept"], b_l_forgot)
theorem lforgot_spec {tab : Tab} (T : LFo tab) {n : Nat} {t : Addr} {H : MH} {sa ga ka : Addr} {rs : List Addr} {M : Mach} {mv : List V} {em : κ → V} (E : Emb em) {kp : List κ} {o : Ob} {Q : V → MH → Prop} {Z : Z0} (hok : M.OK) (hn : M.n ≤ 8) (hm : M.m ≤ 4) (h : MachAt t H sa ga rs M) (hk : H ka = some (.list (kp.map em))) (hkl : kp.length = M.m) (ht : H t = some o)
    (hQ : ∀ (sc gc : Addr) (rc : List Addr) (F : Mach) (H' : MH), Ext H H' → MachAt t H' sc gc rc F → Jx (endsF M kp) (gofF M) (dedupG kp).length F → Q (mval ((dedupG kp).map em) sc gc) H') : CallN tab (n + 2) "_law_forgot" [mval mv sa ga, .ref ka] Q Z H := by
  refine call_of T.fo rfl ?_
  have hC := CallN_mono tab (n + 1)
  unfold b_l_forgot
  have hr1 : bindE ["_law_machine_here", "_law_kept"] [mval mv sa ga, .ref ka] "_law_machine_here" = some (mval mv sa ga) := by kernel_rfl
  have hr2 : bindE ["_law_machine_here", "_law_kept"] [mval mv sa ga, .ref ka] "_law_kept" = some (.ref ka) := by kernel_rfl
  generalize bindE ["_law_machine_here", "_law_kept"] [mval mv sa ga, .ref ka] = ρ0 at hr1 hr2
  have ddl := dedupG_len kp
  refine st_new (vs := []) (by kernel_rfl) (Nat.zero_le _) fun la hla => ?_
  have x1 : Ext H (hupd H la (.list [])) := .new hla
  have m1 : hupd H la (.list []) la = some (.list []) := hupd_eq ..
  generalize hupd H la (.list []) = H1 at x1 m1
  refine dedup_loop hC E (by decide) (Eq.trans (by kernel_rfl) hr2) (by kernel_rfl) (x1 _ _ hk) m1 (ne_of_some hla hk) (by (first | lia | omega)) fun ρ2 H2 hρ2 x2 m2 => ?_
  have q1 : ρ2 "_law_machine_here" = some (mval mv sa ga) := (hρ2 _ (by decide)).trans (Eq.trans (by kernel_rfl) hr1)
  have q2 : ρ2 "_law_kept" = some (.ref ka) := (hρ2 _ (by decide)).trans (Eq.trans (by kernel_rfl) hr2)
  have q3 : ρ2 "_law_left" = some (.ref la) := (hρ2 _ (by decide)).trans (by kernel_rfl)
  have x02 : Ext H H2 := fun a o ha => x2 _ _ (nin1 (ne_of_some hla ha)) (x1 _ _ ha)
  clear x2 x1 m1 hρ2
  have t2 := x02 _ _ ht
  have h2 : MachAt t H2 sa ga rs M := h.ext fun ha => x02 _ _ ha
  have k2 := x02 _ _ hk
  rw [s_cons, s_asg, w_prim, w_cons, w_prim]
  refine pevs_ok _ [.int 0] _ (by kernel_rfl) ⟨_, by rw [p_list]; exact newL_ok (show 1 ≤ lim by decide), ?_⟩
  rw [fin_new]
  intro b0 hb0
  rw [w_nil]
  refine ⟨_, by rw [p_list]; exact newL_ok (show 1 ≤ lim by decide), ?_⟩
  rw [fin_new]
  intro me hme
  have y3 : Ext H2 (hupd H2 b0 (.list [.int 0])) := .new hb0
  have b3 : hupd H2 b0 (.list [.int 0]) b0 = some (.list [.int 0]) := hupd_eq ..
  have y4 : Ext (hupd H2 b0 (.list [.int 0])) (hupd (hupd H2 b0 (.list [.int 0])) me (.list [.ref b0])) := .new hme
  have m4 : hupd (hupd H2 b0 (.list [.int 0])) me (.list [.ref b0]) me = some (.list [.ref b0]) := hupd_eq ..
  have b4 := y4 _ _ b3
  have nbm : b0 ≠ me := ne_of_some hme b3
  have y34 := y3.trans y4
  have fme : H2 me = none := fresh_E y3 hme
  generalize hupd (hupd H2 b0 (.list [.int 0])) me (.list [.ref b0]) = H4 at y4 m4 b4 y34
  refine st_new (vs := []) (by kernel_rfl) (Nat.zero_le _) fun st hst => ?_
  have y5 : Ext H4 (hupd H4 st (.list [])) := .new hst
  have s5 : hupd H4 st (.list []) st = some (.list []) := hupd_eq ..
  have m5 := y5 _ _ m4
  have b5 := y5 _ _ b4
  generalize hupd H4 st (.list []) = H5 at y5 s5 m5 b5
  have ne1 : me ≠ st := ne_of_some hst m4
  have nbs : b0 ≠ st := ne_of_some hst b4
  have nbt : b0 ≠ t := fun e => by rw [e, t2] at hb0; cases hb0
  have off : ∀ {b : Addr} {o : Ob}, H2 b = some o → b ∉ [me, st] := fun {b o} hb => nin2 (ne_of_some fme hb) (ne_of_some hst (y34 _ _ hb))
  have y25 : ExtL [me, st] H2 H5 := (y34.trans y5).toL
  have toff := off t2
  clear y3 y4 y5 y34 hst m4 hb0 hme b3 b4
  refine st_whlG hC (fun μ ρ' H' => LV ρ' mv sa ga ka la me st ∧ ExtL [me, st] H2 H' ∧ ∃ (W : List (Addr × List Int)) (rs' : List Addr) (rows : List (List Int)) (gs : List Bool), μ + rows.length = 256 ∧ W.map Prod.snd = GX (endsF M kp) rows.length ∧ Met [t, me, st] H' me W ∧ H' st = some (.list (rs'.map .ref)) ∧ JX (endsF M kp) (gofF M) rows gs ∧ Rows [t, me, st] H' (dedupG kp).length (GX (endsF M kp) rows.length).length rs' rows) 256 ?_ ?_
  · exact ⟨⟨Eq.trans (by kernel_rfl) q1, Eq.trans (by kernel_rfl) q2, Eq.trans (by kernel_rfl) q3, by kernel_rfl, by kernel_rfl⟩, y25, [(b0, [0])], [], [], [], rfl, rfl, ⟨m5, fun x hx => by rw [List.mem_singleton.mp hx]; exact ⟨b5, nin3 nbt nbm nbs⟩⟩, s5, .nil, ⟨rfl, (fun i hi => by cases hi), (fun a ha => by cases ha), fun a ha => by cases ha⟩⟩
  rintro μ ρ' H' ⟨V0, xx, W, rs', rows, gs, hμ, hW, hM, hSt, hJ, hR⟩
  have hGl := GX_256 hok hn kp rows.length
  have hrl' := hR.len
  have hjl := hJ.le
  have hgl := hJ.gl
  have hWl : W.length = (GX (endsF M kp) rows.length).length := by rw [← hW, List.length_map]
  have hls : (rs'.map V.ref).length = rows.length := by rw [List.length_map, hrl']
  have hs4 : ∀ {a : Addr} {o : Ob}, H2 a = some o → H' a = some o := fun ha => xx _ _ (off ha) ha
  refine ⟨decide ((rows.length : Int) < ((GX (endsF M kp) rows.length).length : Int)), ?_, fun hb => ?_, fun hb => ?_⟩
  · have := plt (pln (pva V0.st) hSt) (pln (pva V0.me) hM.m); rwa [hls, List.length_map, List.length_map, hWl] at this
  · have hb : rows.length < (GX (endsF M kp) rows.length).length := by rw [decide_eq_true_eq] at hb; (first | lia | omega)
    have hbW : rows.length < W.length := by (first | lia | omega)
    have hg : (GX (endsF M kp) rows.length)[rows.length]? = some W[rows.length].2 := by rw [← hW, List.getElem?_map, List.getElem?_eq_getElem hbW]; rfl
    have hgp := GX_grp hok kp _ _ (List.mem_of_getElem? hg)
    have hw0 := hM.w _ (List.getElem_mem hbW)
    have e0 : idxOp H' (.ref me) (.int rows.length) = some (.ref W[rows.length].1) := idx_list hM.m (pyIdx_nat (by rw [List.length_map, List.length_map]; exact hbW)) (by rw [List.getElem?_map, List.getElem?_map, List.getElem?_eq_getElem hbW]; rfl)
    generalize W[rows.length] = wg at hg hgp hw0 e0
    obtain ⟨ga0, g⟩ := wg
    refine st_set (v := .ref ga0) (by rw [← hls] at e0; exact pix (pva V0.me) (pln (pva V0.st) hSt) e0) ?_
    refine st_new (vs := []) (by kernel_rfl) (Nat.zero_le _) fun ra hra => ?_
    have yr : Ext H' (hupd H' ra (.list [])) := .new hra
    have er : hupd H' ra (.list []) ra = some (.list []) := hupd_eq ..
    have nra : ∀ {a : Addr} {o : Ob}, H' a = some o → a ≠ ra := fun ha => ne_of_some hra ha
    generalize hupd H' ra (.list []) = Hr at yr er
    have hsr : ∀ {a : Addr} {o : Ob}, H2 a = some o → Hr a = some o := fun ha => yr _ _ (hs4 ha)
    have offr : ∀ {b : Addr} {o : Ob}, H2 b = some o → b ∉ [me, ra] := fun hb => nin2 (ni1 (off hb)) (nra (hs4 hb))
    have hMr : Met [t, me, st, ra] Hr me W := ⟨yr _ _ hM.m, fun z hz => ⟨yr _ _ (hM.w z hz).1, nin4 (ni1 (hM.w z hz).2) (ni2 (hM.w z hz).2) (ni3 (hM.w z hz).2) (nra (hM.w z hz).1)⟩⟩
    refine lf_row T.on E hok hn hm (h2.ext hsr) (hsr k2) hkl (hsr m2) (yr _ _ hw0.1) hgp hMr er (by rw [hW]; exact GX_nodup _) (by (first | lia | omega)) (fun a ha => ?_) (.tail _ (.head _)) (.tail _ (.tail _ (.tail _ (.head _)))) (nra hM.m) (h2.offL offr) (offr k2) (offr m2) (nin2 (ni2 hw0.2) (nra hw0.1)) ⟨Eq.trans (by kernel_rfl) V0.mh, Eq.trans (by kernel_rfl) V0.kp, Eq.trans (by kernel_rfl) V0.le, Eq.trans (by kernel_rfl) V0.me, Eq.trans (by kernel_rfl) V0.st⟩ (by kernel_rfl) (by kernel_rfl) fun row W' ρ3 Hc V3 w3 xc hW' hMc eRc hrl2 hrow => ?_
    · rcases List.mem_cons.mp ha with rfl | ha
      · exact ⟨_, hsr t2⟩
      · rcases List.mem_cons.mp ha with rfl | ha
        · exact ⟨_, yr _ _ hM.m⟩
        · rcases List.mem_cons.mp ha with rfl | ha
          · exact ⟨_, yr _ _ hSt⟩
          · rw [List.mem_singleton.mp ha]; exact ⟨_, er⟩
    rw [hW, ← GX_get hg] at hW' hrow
    have xbc : ∀ {a : Addr} {o : Ob}, a ≠ me → H' a = some o → Hc a = some o := fun a1 ha => xc _ _ (nin2 a1 (nra ha)) (yr _ _ ha)
    have sc : Hc st = some (.list (rs'.map .ref)) := xbc ne1.symm hSt
    have hrowOK : rowOK (dedupG kp).length (GX (endsF M kp) (rows.length + 1)).length row := ⟨hrl2, fun x hx => by
      obtain ⟨k, hk, rfl⟩ := List.mem_iff_getElem.mp hx
      obtain ⟨y, f1, f2⟩ := hrow k _ (List.getElem?_eq_getElem (by rw [endsF_len]; (first | lia | omega)))
      rw [List.getElem?_eq_getElem hk] at f1
      injection f1 with f1
      have := (List.getElem?_eq_some_iff.mp f2).1
      (first | lia | omega)⟩
    refine st_appP V3.st sc (by rw [List.length_map]; unfold lim; (first | lia | omega)) (pva w3) ?_ hC
    rw [s_nil]
    have lr : (rows ++ [row]).length = rows.length + 1 := List.length_append ..
    have raL : ra ∉ [t, me, st] := nin3 (nra (hs4 t2)).symm (nra hM.m).symm (nra hSt).symm
    refine ⟨μ - 1, by (first | lia | omega), V3, fun a oo ha hh => ?_, W', rs' ++ [ra], rows ++ [row], gs ++ [gofF M g], by rw [lr]; (first | lia | omega), by rw [lr]; exact hW', ⟨by rw [hupd_ne ne1]; exact hMc.m, fun z hz => ?_⟩, by rw [hupd_eq, map_snoc], hJ.step hg hrow, ?_⟩
    · rw [hupd_ne (ni2 ha)]; exact xbc (ni1 ha) (xx _ _ ha hh)
    · have := hMc.w z hz
      exact ⟨by rw [hupd_ne (ni3 this.2)]; exact this.1, nin3 (ni1 this.2) (ni2 this.2) (ni3 this.2)⟩
    · rw [lr]
      have hRc : Rows [t, me, st] Hc (dedupG kp).length (GX (endsF M kp) (rows.length + 1)).length rs' rows := Rows.mono ⟨hR.len, fun i a b => xbc (ni2 (hR.off _ (List.getElem_mem a))) (hR.at' i a b), hR.off, hR.ok⟩ (GX_le _)
      refine (hRc.snoc eRc raL hrowOK).extL (L' := [st]) (.upd (.head _)) fun a ha => ?_
      rcases List.mem_append.mp ha with k | k
      · exact nin1 (ni3 (hR.off a k))
      · rw [List.mem_singleton.mp k]; exact nin1 (ni3 raL)
  · have hb' : (GX (endsF M kp) rows.length).length ≤ rows.length := by rw [decide_eq_false_iff_not] at hb; (first | lia | omega)
    have hlen : rows.length = (GX (endsF M kp) rows.length).length := by (first | lia | omega)
    have egs := hJ.gsE hlen
    have tH := hs4 t2
    have hgrp := GX_grp hok kp rows.length
    refine st_new (vs := []) (by kernel_rfl) (Nat.zero_le _) fun go hgo => ?_
    have yg : Ext H' (hupd H' go (.list [])) := .new hgo
    have ng : ∀ {a : Addr} {o : Ob}, H' a = some o → a ≠ go := fun ha => ne_of_some hgo ha
    have eg : hupd H' go (.list []) go = some (.list []) := hupd_eq ..
    generalize hupd H' go (.list []) = Hg at yg eg
    refine st_forI hC (sv := .ref me) (pva (Eq.trans (by kernel_rfl) V0.me)) (src_list (yg _ _ hM.m)) (fun j ρ3 H3 => (LV ρ3 mv sa ga ka la me st ∧ ρ3 "_law_good" = some (.ref go)) ∧ ExtL [go] Hg H3 ∧ H3 go = some (.list ((((W.map Prod.snd).take j).map (gofF M)).map .bool))) ⟨⟨⟨Eq.trans (by kernel_rfl) V0.mh, Eq.trans (by kernel_rfl) V0.kp, Eq.trans (by kernel_rfl) V0.le, Eq.trans (by kernel_rfl) V0.me, Eq.trans (by kernel_rfl) V0.st⟩, by kernel_rfl⟩, .refl _ _, eg⟩ (fun j ρ3 H3 k => k.2.1 _ _ (nin1 (ng hM.m)) (yg _ _ hM.m)) ?_ ?_
    · rintro j hj ρ3 H3 ⟨⟨V3, w3⟩, x3, e3⟩
      have hj' : j < W.length := by rwa [List.length_map, List.length_map] at hj
      rw [List.getElem_map, List.getElem_map]
      have hwj := hM.w _ (List.getElem_mem hj')
      have hgj : Grp M.n W[j].2 := hgrp _ (by rw [← hW]; exact List.mem_map_of_mem (List.getElem_mem hj'))
      have htk : (W.map Prod.snd).take (j + 1) = (W.map Prod.snd).take j ++ [W[j].2] := by rw [List.take_add_one, List.getElem?_map, List.getElem?_eq_getElem hj']; rfl
      rw [htk]
      generalize W[j] = wg at hwj hgj
      obtain ⟨aj, g⟩ := wg
      have h3 : ∀ {a : Addr} {o : Ob}, H' a = some o → H3 a = some o := fun ha => x3 _ _ (nin1 (ng ha)) (yg _ _ ha)
      have hgl8 := grp_len hgj
      have hgl8 : g.length ≤ M.n := hgl8
      refine st_app (v := .none) (Eq.trans (by kernel_rfl) w3) e3 (by rw [List.length_map, List.length_map, List.length_take, List.length_map]; unfold lim; (first | lia | omega)) ?_ hC
      rw [w_prim, w_cons]
      refine i_compP hC (l := g) (g := .int) (f := fun y => .bool (M.go y)) (sv := .ref aj) (w := some (aj, g.map .int)) (by kernel_rfl) (src_list (h3 hwj.1)) (h3 hwj.1) (fun y hy => ((h2.ext hs4).ext h3).pgood (mv := mv) (Eq.trans (by kernel_rfl) V3.mh) (by kernel_rfl) (hgj.2 y hy).1 (hgj.2 y hy).2) (by unfold lim; (first | lia | omega)) fun ca hca => ?_
      rw [w_nil]
      refine ⟨.val (.bool (gofF M g)), by rw [p_anyL (bs := g.map M.go) (by rw [hupd_eq, List.map_map]; rfl), List.any_map]; rfl, ?_⟩
      rw [fin_val]
      refine ⟨new_other hca e3, ?_⟩
      rw [s_nil]
      refine ⟨⟨⟨Eq.trans (by kernel_rfl) V3.mh, Eq.trans (by kernel_rfl) V3.kp, Eq.trans (by kernel_rfl) V3.le, Eq.trans (by kernel_rfl) V3.me, Eq.trans (by kernel_rfl) V3.st⟩, Eq.trans (by kernel_rfl) w3⟩, (x3.trans (Ext.new hca).toL).trans (.upd (.head _)), ?_⟩
      rw [hupd_eq, List.map_append (f := gofF M), List.map_append (f := V.bool)]; rfl
    · rintro ρ3 H3 ⟨⟨V3, w3⟩, x3, e3⟩
      rw [List.length_map, List.take_of_length_le (by rw [List.length_map, List.length_map]; exact Nat.le_refl _), hW, ← egs] at e3
      have h3 : ∀ {a : Addr} {o : Ob}, H' a = some o → H3 a = some o := fun ha => x3 _ _ (nin1 (ng ha)) (yg _ _ ha)
      refine st_back (v := mval ((dedupG kp).map em) st go) ?_ ?_
      · rw [pev_prim, psc (p1 (pva V3.le) (by rw [p_tupleOfL (h3 (hs4 m2))]; exact valT_ok (by rw [List.length_map]; unfold lim; (first | lia | omega)))) (ps2 (pva V3.st) (pva w3))]; kernel_rfl
      exact hQ st go rs' (machL (dedupG kp).length rows gs) H3 (fun a oo ha => h3 (hs4 (x02 _ _ ha))) (machL_at (h3 hSt) e3 hR.len hJ.gl (fun i a b => h3 (hR.at' i a b)) (fun r hr => (hR.ok r hr).1) (fun e => ni2 toff e.symm) (fun e => ng tH e.symm) fun a ha => ni1 (hR.off a ha)) (hJ.jx hb')
end
end Mini

end
section
set_option autoImplicit false
set_option linter.unusedVariables false
set_option linter.unusedSimpArgs false
set_option maxRecDepth 100000
namespace Mini
open PySem

theorem thTab_03 : ThTab tab_03 := ⟨rfl, rfl, rfl, rfl⟩
theorem ismTab_03 : IsmTab tab_03 := ⟨rfl, rfl⟩
theorem fgTab_03 : FGTab tab_03 := ⟨rfl, rfl, rfl⟩
theorem lfo_03 : LFo tab_03 := ⟨rfl, rfl⟩
noncomputable def em4 (a b : Str) : _root_.Fin 4 → V
  | 0 => .str a
  | 1 => .str b
  | 2 => .tup [.str a, .int 0]
  | 3 => .tup [.str a, .int 1]
noncomputable def da4 (a b : Str) : _root_.Fin 4 → PyData
  | 0 => .str a
  | 1 => .str b
  | 2 => .tuple [.str a, .int 0]
  | 3 => .tuple [.str a, .int 1]
theorem emb4 {a b : Str} (ha : okS a) (hb : okS b) (ne : a ≠ b) : Emb (em4 a b) := by
  have h1 : PyData.eqv (.str a) (.str b) = false := by rw [eqv_str, beq_eq_false_iff_ne]; exact ne
  have h2 : PyData.eqv (.str b) (.str a) = false := by rw [eqv_str, beq_eq_false_iff_ne]; exact ne.symm
  have h3 : ∀ c : Str, PyData.eqv (.str c) (.str c) = true := fun c => by rw [eqv_str]; exact beq_self_eq_true c
  have h4 : ∀ i j : Int, PyData.eqv (.tuple [.str a, .int i]) (.tuple [.str a, .int j]) = (i == j) := fun i j => by rw [eqv_pair, beq_self_eq_true, Bool.true_and, Bool.and_true]
  refine ⟨da4 a b, fun x H k => ?_, fun x y => ?_⟩
  · match x with
    | 0 => exact toD_strK ha
    | 1 => exact toD_strK hb
    | 2 => exact toD_pair ha
    | 3 => exact toD_pair ha
  · match x, y with
    | 0, 0 => exact h3 a
    | 0, 1 => exact h1
    | 0, 2 => rfl
    | 0, 3 => rfl
    | 1, 0 => exact h2
    | 1, 1 => exact h3 b
    | 1, 2 => rfl
    | 1, 3 => rfl
    | 2, 0 => rfl
    | 2, 1 => rfl
    | 2, 2 => exact h4 0 0
    | 2, 3 => exact h4 0 1
    | 3, 0 => rfl
    | 3, 1 => rfl
    | 3, 2 => exact h4 1 0
    | 3, 3 => exact h4 1 1
theorem law03_end {t sa ga ka kb : Addr} {rs : List Addr} {M : Mach} {mv : List V} {a b : Str} {kp : List (_root_.Fin 4)} {o : Ob} {ρ : Env} {H : MH} {N : Env → MH → Prop} (E : Emb (em4 a b)) (hok : M.OK) (hmk : Marks mv) (hm1 : 1 ≤ M.m) (hm : M.m ≤ 4) (hn : M.n ≤ 8) (hM : MachAt t H sa ga rs M) (ht : H t = some o) (hk : H ka = some (.list (kp.map (em4 a b)))) (hb : H kb = some (.list (kp.map (em4 a b)))) (hkl : kp.length = M.m)
    (r1 : ρ "_law_machine_here" = some (mval mv sa ga)) (r2 : ρ "_law_kept" = some (.ref ka)) (r3 : ρ "_law_handed" = some (.ref kb)) :
    wpSs (CallN tab_03 39) (b_law_03.drop 8) ρ N (fun v _ => v = .bool true) ZF H := by
  have hC := CallN_mono tab_03 39
  show wpSs _ (_ :: _) _ _ _ _ _
  have hdl := dedupG_len kp
  have hd1 : 1 ≤ (dedupG kp).length := by
    have h0 : 0 < kp.length := by (first | lia | omega)
    exact List.length_pos_of_mem ((dedupG_mem kp _).mpr (List.getElem_mem h0))
  refine st_setC (vs := [mval mv sa ga]) (ps1 (pva r1)) ?_
  refine copy_spec (n := 38) rfl (by (first | lia | omega)) (by (first | lia | omega)) hM ht fun sw gw rw' H1 x1 hW => ?_
  have q1 : upd ρ "_law_whole_here" (mval mv sw gw) "_law_machine_here" = some (mval mv sa ga) := Eq.trans (by kernel_rfl) r1
  have q2 : upd ρ "_law_whole_here" (mval mv sw gw) "_law_kept" = some (.ref ka) := Eq.trans (by kernel_rfl) r2
  have q3 : upd ρ "_law_whole_here" (mval mv sw gw) "_law_handed" = some (.ref kb) := Eq.trans (by kernel_rfl) r3
  have q4 : upd ρ "_law_whole_here" (mval mv sw gw) "_law_whole_here" = some (mval mv sw gw) := by kernel_rfl
  generalize upd ρ "_law_whole_here" (mval mv sw gw) = ρ1 at q1 q2 q3 q4
  refine st_setC (vs := [mval mv sw gw, .ref ka]) (ps2 (pva q4) (pva q2)) ?_
  refine lforgot_spec (n := 37) lfo_03 E hok hn hm hW (x1 _ _ hk) hkl (x1 _ _ ht) fun sd gd rd F' H2 x2 hD hJ' => ?_
  have x12 := x1.trans x2
  refine st_setC (vs := [mval mv sa ga, .ref kb]) (ps2 (pva (Eq.trans (by kernel_rfl) q1)) (pva (Eq.trans (by kernel_rfl) q3))) ?_
  refine forgotG_spec (n := 37) fgTab_03 E hok hn hm (hM.ext fun ha => x12 _ _ ha) (x12 _ _ hb) hkl (x12 _ _ ht) fun sc gc rc F H3 x3 hfr hgr hsr hsg hF fok fn hJ => ?_
  have hFm : F.m = (dedupG kp).length := by obtain ⟨i, _, _, e, _⟩ := hJ; exact e
  have hmkF : Marks ((dedupG kp).map (em4 a b)) := E.marks (dedupG_nodup kp)
  have p1' : upd (upd ρ1 "_law_due" (mval ((dedupG kp).map (em4 a b)) sd gd)) "_law_found" (mval ((dedupG kp).map (em4 a b)) sc gc) "_law_machine_here" = some (mval mv sa ga) := Eq.trans (by kernel_rfl) q1
  have p2' : upd (upd ρ1 "_law_due" (mval ((dedupG kp).map (em4 a b)) sd gd)) "_law_found" (mval ((dedupG kp).map (em4 a b)) sc gc) "_law_kept" = some (.ref ka) := Eq.trans (by kernel_rfl) q2
  have p3' : upd (upd ρ1 "_law_due" (mval ((dedupG kp).map (em4 a b)) sd gd)) "_law_found" (mval ((dedupG kp).map (em4 a b)) sc gc) "_law_handed" = some (.ref kb) := Eq.trans (by kernel_rfl) q3
  have p4' : upd (upd ρ1 "_law_due" (mval ((dedupG kp).map (em4 a b)) sd gd)) "_law_found" (mval ((dedupG kp).map (em4 a b)) sc gc) "_law_whole_here" = some (mval mv sw gw) := Eq.trans (by kernel_rfl) q4
  have p5' : upd (upd ρ1 "_law_due" (mval ((dedupG kp).map (em4 a b)) sd gd)) "_law_found" (mval ((dedupG kp).map (em4 a b)) sc gc) "_law_due" = some (mval ((dedupG kp).map (em4 a b)) sd gd) := by kernel_rfl
  have p6' : upd (upd ρ1 "_law_due" (mval ((dedupG kp).map (em4 a b)) sd gd)) "_law_found" (mval ((dedupG kp).map (em4 a b)) sc gc) "_law_found" = some (mval ((dedupG kp).map (em4 a b)) sc gc) := by kernel_rfl
  generalize upd (upd ρ1 "_law_due" (mval ((dedupG kp).map (em4 a b)) sd gd)) "_law_found" (mval ((dedupG kp).map (em4 a b)) sc gc) = ρ2 at p1' p2' p3' p4' p5' p6'
  rw [s_cons, s_ifs, w_or, w_prim, w_cons]
  refine i_call (vs := [mval ((dedupG kp).map (em4 a b)) sc gc, .tup ((dedupG kp).map (em4 a b))]) (ps2 (pva p6') (pm0 p5')) ?_
  refine ism_spec (n := 37) ismTab_03 fok (by (first | lia | omega)) (by (first | lia | omega)) (by (first | lia | omega)) hmkF (by rw [List.length_map, hFm]) hF fun H4 x4 => ?_
  rw [w_nil]
  refine ⟨_, p_not _ _, ?_⟩
  rw [fin_val, asB_bool]
  refine ⟨fun _ => ?_, fun e => by cases e⟩
  have hF4 : MachAt t H4 sc gc rc F := hF.ext fun ha => x4 _ _ ha
  have x24 := x3.trans x4
  refine pev_ok _ (.bool false) _ (pne (c := true) (pva p6') (pva p5') (eq_mach2 hmkF hF4 (hD.ext fun ha => x24 _ _ ha) fun ds => hJ.mdata (endsF_len M kp) hJ' ds)) ?_
  rw [asB_bool]
  refine ⟨fun e => by (cases e), fun _ => ?_⟩
  rw [s_nil]
  -- the found machine is changed
  have lrc := hF.l
  have hrc : 0 < rc.length := by have := fok.1; (first | lia | omega)
  have i0 : idxOp H4 (.ref sc) (.int 0) = some (.ref rc[0]) := idx_list hF4.s (pyIdx_nat (j := 0) (by rw [List.length_map]; exact hrc)) (by rw [List.getElem?_map, List.getElem?_eq_getElem hrc]; rfl)
  have hr0 := hF4.r 0 hrc
  rw [s_cons, s_ex, w_meth]
  refine pev_ok _ (.ref rc[0]) _ (pix (pm1 p6') pc i0) ⟨methT_app hr0, ?_⟩
  refine pevs_ok _ [.int 0] _ (by kernel_rfl) ⟨.upd rc[0] (.list (((List.range F.m).map fun k => .int (F.st (0 : Nat) k)) ++ [.int 0])) .none, ?_, ?_⟩
  · show (match H4 rc[0] with
      | some (.list vs) => if vs.length < lim then some (Res.upd rc[0] (.list (vs ++ [V.int 0])) .none) else none
      | _ => none) = _
    rw [hr0]
    exact if_pos (by rw [len_rangeV]; unfold lim; (first | lia | omega))
  rw [fin_upd]
  refine ⟨rfl, ?_⟩
  have ng : gc ≠ rc[0] := fun q => hgr (q ▸ List.getElem_mem _)
  have hg5 : hupd H4 rc[0] (.list (((List.range F.m).map fun k => .int (F.st (0 : Nat) k)) ++ [.int 0])) gc = some (.list ((List.range F.n).map fun (i : Nat) => .bool (F.go i))) := by rw [hupd_ne ng]; exact hF4.g
  have x5 : ExtL [rc[0]] H4 (hupd H4 rc[0] (.list (((List.range F.m).map fun k => .int (F.st (0 : Nat) k)) ++ [.int 0]))) := .upd (.head _)
  generalize hupd H4 rc[0] (.list (((List.range F.m).map fun k => .int (F.st (0 : Nat) k)) ++ [.int 0])) = H5 at hg5 x5
  rw [s_cons, s_ex, w_meth]
  refine pev_ok _ (.ref gc) _ (pm2 p6') ⟨methT_app hg5, ?_⟩
  refine pevs_ok _ [.bool true] _ (by kernel_rfl) ⟨.upd gc (.list (((List.range F.n).map fun (i : Nat) => .bool (F.go i)) ++ [.bool true])) .none, ?_, ?_⟩
  · show (match H5 gc with
      | some (.list vs) => if vs.length < lim then some (Res.upd gc (.list (vs ++ [V.bool true])) .none) else none
      | _ => none) = _
    rw [hg5]
    exact if_pos (by rw [len_rangeV]; unfold lim; (first | lia | omega))
  rw [fin_upd]
  refine ⟨rfl, ?_⟩
  have x6 : ∀ {c : Addr} {o : Ob}, H2 c = some o → (hupd H5 gc (.list (((List.range F.n).map fun (i : Nat) => .bool (F.go i)) ++ [.bool true]))) c = some o := fun {c o} hc => by
    have n1 : c ≠ gc := fun q => by rw [q, hfr gc (.tail _ (.head _))] at hc; cases hc
    have n2 : c ≠ rc[0] := fun q => by rw [q, hfr rc[0] (.tail _ (.tail _ (List.getElem_mem _)))] at hc; cases hc
    rw [hupd_ne n1]
    exact x5 _ _ (nin1 n2) (x24 _ _ hc)
  generalize hupd H5 gc (.list (((List.range F.n).map fun (i : Nat) => .bool (F.go i)) ++ [.bool true])) = H6 at x6
  exact st_back (v := .bool true) (p_and (x := true) (y := true) (peq (pva p1') (pva p4') (eq_mach2 hmk ((hM.ext fun ha => x12 _ _ ha).ext x6) ((hW.ext fun ha => x2 _ _ ha).ext x6) fun _ => rfl)) (peq (pva p3') (pva p2') (eq_rows (E.data kp) (x6 (x12 _ _ hb)) (x6 (x12 _ _ hk))))) rfl
end Mini

end
section
set_option autoImplicit false
set_option linter.unusedVariables false
set_option linter.unusedSimpArgs false
set_option maxRecDepth 100000
namespace Mini
open PySem

theorem law03_mid {ns : List Int} (hn : ns.length ≤ 63) {t ma sa ga : Addr} {rs : List Addr} {M : Mach} {mv : List V} {k : Int} {ρ : Env} {H : MH} {N : Env → MH → Prop} (hok : M.OK) (hmk : Marks mv) (hmv : mv.length = M.m) (hm1 : 1 ≤ M.m) (hm : M.m ≤ 4) (hM8 : M.n ≤ 8) (hM : MachAt t H sa ga rs M) (ht : H t = some (.list [.int k])) (k0 : 0 ≤ k) (k1 : k + 100 < 1000000) (hma : H ma = some (.list mv)) (dm : ma ≠ t)
    (rs' : ρ "_law_script" = some (.fl (ns.map .int))) (rt : ρ "_law_tape" = some (.ref t)) (r1 : ρ "_law_machine_here" = some (mval mv sa ga)) (r2 : ρ "_law_marks_here" = some (.ref ma)) :
    wpSs (CallN tab_03 39) (b_law_03.drop 4) ρ N (fun v _ => v = .bool true) ZF H := by
  have hC := CallN_mono tab_03 39
  show wpSs _ (_ :: _) _ _ _ _ _
  refine st_setC (vs := [.fl (ns.map .int), .ref t, .int 2]) (psc (pva rs') (ps2 (pva rt) pc)) ?_
  refine marks_spec2 (many := 2) thTab_03.ma thTab_03.dr hn (by decide) ht k0 (by (first | lia | omega)) fun ha ms H1 x1 e1 eh hl hsg hnd hht _ => ?_
  have m1 := x1 _ _ dm hma
  obtain ⟨a, b, rfl⟩ : ∃ a b, ms = [a, b] := by
    match ms, hl with
    | [a, b], _ => exact ⟨a, b, rfl⟩
  have ne : a ≠ b := fun e => (List.nodup_cons.mp hnd).1 (by rw [e]; exact .head _)
  have E : Emb (em4 a b) := emb4 (hsg a (.head _)).1 (hsg b (.tail _ (.head _))).1 ne
  have i0 : ∀ {ρ' : Env}, ρ' "_law_some" = some (.ref ha) → pev H1 ρ' (.prim .idx [.var "_law_some", .cst (.int 0)]) = some (.str a) := fun h => pix (pva h) pc (idx_list eh (j := 0) rfl rfl)
  have i1 : ∀ {ρ' : Env}, ρ' "_law_some" = some (.ref ha) → pev H1 ρ' (.prim .idx [.var "_law_some", .cst (.int 1)]) = some (.str b) := fun h => pix (pva h) pc (idx_list eh (j := 1) rfl rfl)
  refine st_new (vs := [em4 a b 0, em4 a b 1, em4 a b 2, em4 a b 3]) (psc (i0 (by kernel_rfl)) (psc (i1 (by kernel_rfl)) (ps2 (ptp (i0 (by kernel_rfl)) pc) (ptp (i0 (by kernel_rfl)) pc)))) (show 4 ≤ lim by decide) fun th hth => ?_
  have x2 : ExtT t H1 (hupd H1 th (.list [em4 a b 0, em4 a b 1, em4 a b 2, em4 a b 3])) := .new hth
  have t2 : hupd H1 th (.list [em4 a b 0, em4 a b 1, em4 a b 2, em4 a b 3]) th = some (.list [em4 a b 0, em4 a b 1, em4 a b 2, em4 a b 3]) := hupd_eq ..
  have e2 := new_other (o' := .list [em4 a b 0, em4 a b 1, em4 a b 2, em4 a b 3]) hth e1
  have tht : th ≠ t := fun q => by rw [q, e1] at hth; cases hth
  generalize hupd H1 th (.list [em4 a b 0, em4 a b 1, em4 a b 2, em4 a b 3]) = H2 at x2 t2 e2
  have m2 := x2 _ _ dm m1
  rw [s_cons, s_asg]
  refine i_compI hC (sv := .ref ma) (pva (Eq.trans (by kernel_rfl) r2)) (src_list m2) (fun i acc H' => ExtT t H2 H' ∧ ∃ kp : List (_root_.Fin 4), acc = kp.map (em4 a b) ∧ kp.length = i ∧ i ≤ mv.length ∧ H' t = some (.list [.int (k + 2 + i)])) ⟨.refl _ _, [], rfl, rfl, Nat.zero_le _, by rw [e2]; congr 4; exact (Int.add_zero _).symm⟩ (fun i acc H' q => q.1 _ _ dm m2) ?_ ?_
  · rintro i hi acc H' ⟨xx, kp, rfl, hkl, hil, et⟩
    rw [w_prim]
    refine l_pure (v := .ref th) (by kernel_rfl) ?_
    rw [w_cons]
    refine draw_e thTab_03.dr hn (Eq.trans (by kernel_rfl) rs') (Eq.trans (by kernel_rfl) rt) ⟨et, by (first | lia | omega), by (first | lia | omega)⟩ (by decide) fun d H3 d0 d1 x3 e3 => ?_
    rw [w_nil]
    have t3 := x3 _ _ tht (xx _ _ tht t2)
    obtain ⟨f, hf⟩ : ∃ f : _root_.Fin 4, idxOp H3 (.ref th) (.int d) = some (em4 a b f) := by
      have : d = 0 ∨ d = 1 ∨ d = 2 ∨ d = 3 := by (first | lia | omega)
      rcases this with rfl | rfl | rfl | rfl
      · exact ⟨0, idx_list t3 (j := 0) rfl rfl⟩
      · exact ⟨1, idx_list t3 (j := 1) rfl rfl⟩
      · exact ⟨2, idx_list t3 (j := 2) rfl rfl⟩
      · exact ⟨3, idx_list t3 (j := 3) rfl rfl⟩
    refine ⟨.val (em4 a b f), by rw [p_idx, hf]; rfl, ?_⟩
    rw [fin_val]
    exact ⟨xx.trans x3, kp ++ [f], by rw [List.map_append]; rfl, by rw [List.length_append, hkl]; rfl, hi, by rw [e3]; congr 4; (first | lia | omega)⟩
  rintro acc H3 ⟨x3, kp, rfl, hkl, _, e3⟩
  refine ⟨by rw [List.length_map]; unfold lim; (first | lia | omega), fun ka hka => ?_⟩
  dsimp only
  have x4 : ExtT t H3 (hupd H3 ka (.list (kp.map (em4 a b)))) := .new hka
  have k4 : hupd H3 ka (.list (kp.map (em4 a b))) ka = some (.list (kp.map (em4 a b))) := hupd_eq ..
  have e4 := new_other (o' := .list (kp.map (em4 a b))) hka e3
  generalize hupd H3 ka (.list (kp.map (em4 a b))) = H4 at x4 k4 e4
  rw [s_cons, s_asg, w_prim]
  refine pevs_ok _ [.ref ka] _ (ps1 (pva (by kernel_rfl))) ⟨_, by rw [p_listOfL k4]; exact newL_ok (by rw [List.length_map]; unfold lim; (first | lia | omega)), ?_⟩
  rw [fin_new]
  intro kb hkb
  have x5 : ExtT t H (hupd H4 kb (.list (kp.map (em4 a b)))) := (((x1.trans x2).trans x3).trans x4).trans (.new hkb)
  exact law03_end (a := a) (b := b) (kp := kp) E hok hmk hm1 hm hM8 (hM.extT x5) (new_other hkb e4) (new_other hkb k4) (hupd_eq ..) (by (first | lia | omega)) (Eq.trans (by kernel_rfl) r1) (by kernel_rfl) (by kernel_rfl)
theorem p_sliceL {H : MH} {a : Addr} {vs : List V} (h : H a = some (.list vs)) : primOp .sliceTo H [.ref a, .int 8] = some (.new (.list (vs.take 8))) := by
  show sliceToOp H (.ref a) (.int 8) = _
  simp only [sliceToOp, h]
  exact newL_ok (vs := vs.take 8) (by rw [List.length_take]; exact Nat.le_trans (Nat.min_le_left _ _) (by decide))

theorem law_03 {ns : List Int} (hn : ns.length ≤ 63) : CallN tab_03 40 "law" [.fl (ns.map .int)] (fun v _ => v = .bool true) ZF (fun _ => none) := by
  refine call_of rfl rfl ?_
  have hC := CallN_mono tab_03 39
  show wpSs _ (_ :: _) _ _ _ _ _
  refine st_new (vs := [.int 0]) (by simp) (by simp; decide) fun t _ => ?_
  have e0 : hupd (fun _ => none) t (.list [.int 0]) t = some (.list [.int 0]) := hupd_eq ..
  generalize hupd (fun _ => none) t (.list [.int 0]) = H0 at e0
  rw [s_cons, s_asg, w_call]
  refine l_pure (v := .fl (ns.map .int)) (by kernel_rfl) (l_pure (v := .ref t) (by kernel_rfl) ?_)
  rw [w_cons, w_prim]
  refine l_pure (v := .int 1) rfl ?_
  rw [w_cons]
  refine draw_e thTab_03.dr hn (by kernel_rfl) (by kernel_rfl) ⟨e0, by decide, by decide⟩ (by decide) fun d H1 d0 d1 x1 e1 => ?_
  rw [w_nil]
  refine ⟨_, p_add _ _ _, ?_⟩
  rw [fin_val, w_nil]
  have hd : (((1 + d).toNat : Nat) : Int) = 1 + d := by (first | lia | omega)
  rw [← hd]
  refine things_spec (n := 36) thTab_03 hn (by (first | lia | omega)) (by (first | lia | omega)) e1 (by decide) (by decide) fun ma mv H2 x2 e2 em hml hmk hmt _ => ?_
  refine st_setC (vs := [.fl (ns.map .int), .ref t, .ref ma]) (by kernel_rfl) ?_
  refine machine_spec (n := 36) thTab_03 hn (by (first | lia | omega)) e2 (by decide) (by decide) em hmt fun sa ga rs rows gs k' H3 x3 e3 kl ku es eg hgl hR h0 h10 dst dgt => ?_
  have em3 := x3 _ _ hmt em
  have hRl := hR.len
  rw [s_cons, s_ifs]
  refine pev_ok _ (.bool (decide (8 < (rows.length : Int)))) _ (by simp [upd, mval, pyIdx, p_lenL es, hRl]) ?_
  rw [asB_bool]
  refine ⟨fun hb => ?_, fun hb => ?_⟩
  · rw [decide_eq_true_eq] at hb
    rw [s_cons, s_asg, w_prim]
    refine l_pure (v := .tup mv) (by simp [upd, mval, pyIdx]) ?_
    rw [w_cons, w_call, w_cons, w_prim]
    refine pevs_ok _ [.ref sa, .int 8] _ (by simp [upd, mval, pyIdx]) ⟨_, p_sliceL es, ?_⟩
    rw [fin_new]
    intro xa hxa
    rw [w_nil]
    have hR8 : Rows [t] (hupd H3 xa (.list ((rs.map .ref).take 8))) mv.length rows.length (rs.take 8) (rows.take 8) := by
      refine ⟨by simp; (first | lia | omega), fun i a b => ?_, fun a ha => ?_, fun r hr => hR.ok r (List.mem_of_mem_take hr)⟩
      · rw [List.getElem_take, List.getElem_take]
        exact new_other hxa (hR.at' i (by simp at a; (first | lia | omega)) (by simp at b; (first | lia | omega)))
      · have := hR.off a (List.mem_of_mem_take ha); simp at this; simp [this.1]
    refine fewer_spec rfl hR8 (by rw [hupd_eq, List.map_take]) (by simp; (first | lia | omega)) (by simp; (first | lia | omega)) (by (first | lia | omega)) (new_other hxa e3) fun fa bs H4 x4 ef dft hR4 => ?_
    have x34 : Ext H3 H4 := (Ext.new hxa).trans x4
    rw [w_cons, w_prim]
    refine pevs_ok _ [.ref ga, .int 8] _ (by simp [upd, mval, pyIdx]) ⟨_, p_sliceL (x34 _ _ eg), ?_⟩
    rw [fin_new]
    intro gb hgb
    rw [w_nil]
    refine ⟨_, by rw [p_tuple]; exact valT_ok (by simp; decide), ?_⟩
    rw [fin_val, s_nil]
    have dgb : gb ≠ t := fun q => by rw [q, x34 _ _ e3] at hgb; cases hgb
    have l8 : (rows.take 8).length = 8 := by simp; (first | lia | omega)
    have hL8 : ((rows.take 8).map fun row => row.map fun x => x % ((rows.take 8).length : Int)).length = 8 := by rw [List.length_map, l8]
    rw [l8] at hR4 hL8
    generalize ((rows.take 8).map fun row => row.map fun x => x % ((8 : Nat) : Int)) = r8 at hR4 hL8
    refine law03_mid hn (M := machL mv.length r8 (gs.take 8)) (sa := fa) (ga := gb) (rs := bs) (machL_ok (by (first | lia | omega)) ?_) hmk rfl ?_ ?_ (Nat.le_of_eq hL8) (machL_at (new_other hgb ef) (by rw [hupd_eq, List.map_take]) hR4.len (by rw [hL8]; simp; (first | lia | omega)) ?_ ?_ dft dgb ?_) (new_other hgb (x34 _ _ e3)) (by (first | lia | omega)) (by (first | lia | omega)) (new_other hgb (x34 _ _ em3)) hmt (by kernel_rfl) (by kernel_rfl) (by simp [upd]; rfl) (by kernel_rfl)
    · intro row hrow
      rw [hL8]; exact hR4.ok row hrow
    · show 1 ≤ mv.length; (first | lia | omega)
    · show mv.length ≤ 4; (first | lia | omega)
    · intro i a b
      exact new_other hgb (hR4.at' i a b)
    · exact fun row hrow => (hR4.ok row hrow).1
    · intro a ha; have := hR4.off a ha; simpa using this
  · rw [decide_eq_false_iff_not] at hb
    rw [s_nil]
    refine law03_mid hn (M := machL mv.length rows gs) (sa := sa) (ga := ga) (rs := rs) (machL_ok h0 hR.ok) hmk rfl ?_ ?_ ?_ (machL_at es eg hR.len hgl hR.at' (fun row hrow => (hR.ok row hrow).1) dst dgt fun a ha => ?_) e3 (by (first | lia | omega)) (by (first | lia | omega)) em3 hmt (by kernel_rfl) (by kernel_rfl) (by kernel_rfl) (by kernel_rfl)
    · show 1 ≤ mv.length; (first | lia | omega)
    · show mv.length ≤ 4; (first | lia | omega)
    · show rows.length ≤ 8; (first | lia | omega)
    · have := hR.off a ha; simp at this; exact this.1
end Mini

end
open PySem PySem.W PyProof.Rows
set_option Elab.async false
set_option maxRecDepth 100000
set_option maxHeartbeats 8000000
namespace Mini
def isDef : Stmt → Bool
  | .FunctionDef .. => true
  | _ => false
noncomputable def view : Program := { PySem.Challenge.pw_uf020032_03 with main := { PySem.Challenge.pw_uf020032_03.main with body := PySem.Challenge.pw_uf020032_03.main.body.filter isDef } }
theorem fns_law : ∀ e ∈ tab_03, fnChk view (tab_03.map (·.1) ++ []) e = true := by
  intro e he
  simp only [tab_03, List.mem_cons, List.not_mem_nil, or_false] at he
  rcases he with rfl | rfl | rfl | rfl | rfl | rfl | rfl | rfl | rfl | rfl | rfl | rfl | rfl | rfl <;> decide +kernel
theorem free_law : bNames.all (freeChk view (looseW view [])) = true := by decide +kernel
theorem holds_of (hp : ∀ ns : List Int, ns.length ≤ 63 → Mini.CallN Mini.tab_03 40 "law" [.fl (ns.map .int)] (fun v _ => v = .bool true) Mini.ZF (fun _ => none)) : PySem.Challenge.rw_uf020032_03.Holds := by
  w_on
  refine holds_law (by kernel_rfl) fun said => ?_
  refine holds_open (q := view) (loose := []) (Xt := fun s => xlAt view [] s && recOk (RowW.records (OpenRow.toRowW (OpenLaw.row PySem.Challenge.rw_uf020032_03))) s) (XP := XL view []) (Yf := Hook.obs Hook.none) (Ya := Hook.val Hook.none) (YP := Hook.says Hook.none) (N := 1108) ?hl (Hook.of Hook.none) (Hook.keeps Hook.none) (fun s e => xl_of s (Bool.and_eq_true_iff.mp e).1) XL.keeps (by rfl) (by rfl) (by rfl) (fun s e => recFacts_of (Bool.and_eq_true_iff.mp e).2) (by kernel_rfl) (by first | assumption | decide +kernel) (by decide +kernel) ⟨rfl, rfl, rfl, rfl, rfl, by decide +kernel⟩ ?hw ?hc
  case hl => intro w; kernel_rfl
  case hw => w_witness2
  intro w s₀ s₁ mg mb G Y fa o pm cd doc dV kV ho hd hcd hD hmg hg args vals as hpre hlay hrd hwl hlo
  refine Ground.open G ?_
  intro T B D TE TW
  try (refine guard_noD D (by decide +kernel) ?_; clear D)
  wrow_args hpre hlay hrd hwl hlo
  first | refine callC_kw (enter_call ?_) | refine enter_call ?_ | refine callC_kw (enter_callW ?_) | refine enter_callW ?_ | w_how
  w_top on
  try refine codeAny_mono ?_ (fun _ _ g => GoodW.toG g)
  have hW := ‹Well _ _ (Value.ref _) _›
  have hLs := ‹Heap.IsList _ _ _›
  have hIs := ‹IntsAre _ _›
  refine Mini.law_top (n := 39) (X := []) T Mini.free_law (by decide +kernel) Mini.fns_law hmg hW hLs hIs ?_ (by decide) trivial hg ?_ ?_ (hp _ ?_)
  · omega
  · first | with_unfolding_all rfl | kernel_rfl | (show (WShape.has _ _ _ && _) = true; simp [WShape.has, OpenLaw.row, Wide.holds])
  · intro k; rfl
  · omega
end Mini

theorem PySem.Challenge.cw_uf020032_03_holds : PySem.Challenge.rw_uf020032_03.Holds :=
  Mini.holds_of fun ns hn => Mini.law_03 hn
