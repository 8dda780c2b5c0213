import PyProof.Rows.All
import HandS.ForMost
import HandS.ForExc
import HandS.IsInst
import HandS.Deep
import HandS.TupAny
import HandS.TupMul
import HandS.TupLe
import HandS.Style
import HandS.Zip
import HandS.Walk
import KE.SortData
import KE.LtData
import HandS.HeadHook1
import KE.KRevSl
import KE.KTupSum
import KE.DataMinMax
import KE.GoesZip
import KE.GoesMore
import HandS.HotCalls
import HandS.ExcIs
import HandS.ExcOwn
import HandS.Defaults
import PyProof.Rows.CountFlat
import HandS.Ends
import HandS.HeadEnd
import HandS.HeadHook2
import PyProof.ExcBaseAll.ValueError
import Wide.All
import OpenK.AllK
import Wide.FinOn
import KE.KStateDown
import Lean
import HandS.Base
import HandS.Call
import HandS.More
import HandS.Words
import HandS.WordsExc
import HandS.Head0
import HandS.Head1
import HandS.Head2
import PySem.Challenge.RW_sureprices_k18_whole_prices
set_option Elab.async false
set_option linter.all false
set_option maxRecDepth 100000
set_option maxHeartbeats 0
namespace D
open PySem L2

/-! ## values, slots, results -/
abbrev W := PyData
/-- what a local name holds: a value, or a list of its own (io: the caller's) -/
inductive Slot where
  | val (w : W)
  | own (io : Bool) (xs : List W)
abbrev SEnv := List (Option Slot)
/-- what an expression gives: a value, a list of one's own, a new tuple of such -/
inductive RV where
  | s (x : Slot)
  | t (xs : List Slot)
def Slot.toW : Slot → W
  | .val w => w
  | .own _ xs => .list xs
def RV.toW : RV → W
  | .s x => x.toW
  | .t xs => .tuple (xs.map Slot.toW)
inductive Res (α : Type) where
  | ok (a : α) (e : SEnv)
  | exc (c : Str) (e : SEnv)
  | bad
def Res.bind {α β : Type} : Res α → (α → SEnv → Res β) → Res β
  | .ok a e, f => f a e
  | .exc c e, _ => .exc c e
  | .bad, _ => .bad

/-! ## the text -/
inductive Tg where
  | one (i : Nat)
  | many (is : List Nat)
mutual
inductive E where
  | var (i : Nat)
  | con (w : W)
  | bin (op : Operator) (a b : A)
  | neg (a : E)
  | cmp (op : CmpOp) (a b : A)
  | chn (o1 o2 : CmpOp) (a b c : E)
  | not (e : E)
  | and (a b : E)
  | or (a b : E)
  | ife (t a b : E)
  | tup (es : List E)
  | lst (es : List E)
  | idx (a : A) (i : E)
  | sli (a : A) (lo hi : Option E)
  | rev (a : A) (k : Option Nat)
  | blt (f : String) (args : List A)
  | isi (a : A) (T : String)
  | call (f : Str) (args : List A)
  | app (i : Nat) (x : E)
  | ext (i : Nat) (a : A)
  | pop (i : Nat) (k : Option E)
  | lc (elt : E) (tg : Tg) (it : It) (ifs : List E) (own : List Nat)
  | mov (i : Nat)
  | pk (e : E) (k : Nat)
  | lix (i : Nat) (x : E)
  | att (x : E) (c f : Str)
  | mth (c m : Str) (o : A) (args : List A)
  | new (c : Str) (args : List A)
  | lset (x : E)
inductive A where
  | v (e : E)
  | r (i : Nat)
inductive It where
  | seq (a : A)
  | rng (args : List E)
  | enum (a : A)
  | zip (a b : A)
end
/-- a target: a name, a place of a list of one's own -/
inductive T1 where
  | nm (i : Nat)
  | sub (i : Nat) (j : E)
inductive S where
  | set (i : Nat) (m : Bool) (e : E)
  | unp (ts : List (T1 × Bool)) (e : E)
  | par (is : List (Nat × Bool)) (es : List E)
  | aug (i : Nat) (op : Operator) (e : E)
  | sidx (i : Nat) (j e : E)
  | ex (e : E)
  | ret (e : Option E)
  | ite (t : E) (a b : List S)
  | fr (tg : Tg) (it : It) (body : List S)
  | wh (t : E) (body : List S)
  | rai (c : Str)
  | pas
  | nev
  | pri
  | tr (i : Nat) (body : List S)
structure Fn where
  np : Nat
  nn : Nat
  body : List S

/-! ## operations on values -/
/-- the program's exceptions, as the laws number them -/
def exNames : List Str := ["InvalidShop", "InvalidBasket", "InvalidActs", "InvalidAct", "InvalidOffers", "InvalidKinds", "InvalidNumber", "Different", "NoFault", "NotThere", "NothingToUndo", "ParseError"]
def exIdx (c : Str) : Option Nat := exNames.findIdx? (fun d => c == d)
/-- what _law_which tells -/
def raisedW (k : Nat) : W := .tuple [.str "raised", .int (k : Nat)]
/-- an instance that is not changed any more: its class, its attributes -/
def fldW : List Str → List W → List (W × W)
  | f :: fs, w :: ws => (.str f, w) :: fldW fs ws
  | _, _ => []
def attF : List (W × W) → Str → Option W
  | (.str x, w) :: r, f => if f = x then some w else attF r f
  | _, _ => none
def attW (c : Str) : W → Str → Option W
  | .dict ((.str d, .none) :: kvs), f => if d = c then attF kvs f else none
  | _, _ => none
def clsB (c m : Str) : W → Bool
  | .dict ((.str d, .none) :: kvs) => decide (d = c) && (attF kvs m).isNone
  | _ => false
def methN (c m : Str) : Str := c ++ (("." : Str) ++ m)
def natI (w : W) : Option Int := match w with | .int i => some i | _ => none
/-- a list or a tuple, as its items -/
def seqOf : W → Option (List W)
  | .list xs => some xs
  | .tuple xs => some xs
  | _ => none
def mulOk (i j : Int) : Bool := (decide (-(2 ^ 64) < i) && decide (i < 2 ^ 64)) || (decide (-(2 ^ 64) < j) && decide (j < 2 ^ 64))
def fits (n : Nat) : Bool := decide (n ≤ sizeLine)
def binop (op : Operator) (x y : W) : Option RV :=
  match op, x, y with
  | .Add, .int i, .int j => some (.s (.val (.int (i + j))))
  | .Sub, .int i, .int j => some (.s (.val (.int (i - j))))
  | .Mult, .int i, .int j => if mulOk i j then some (.s (.val (.int (i * j)))) else none
  | .FloorDiv, .int i, .int j => if decide (0 < j) && decide (j < 1073741824) then some (.s (.val (.int (i / j)))) else none
  | .Mod, .int i, .int j => if decide (0 < j) then some (.s (.val (.int (i % j)))) else none
  | .Pow, .int i, .int j => if decide (0 ≤ j) && decide (j ≤ 1000000) && decide (i.natAbs < 2 ^ 64) then some (.s (.val (.int (i ^ j.toNat)))) else none
  | .Add, .tuple xs, .tuple ys => if fits (xs.length + ys.length) then some (.s (.val (.tuple (xs ++ ys)))) else none
  | .Add, .list xs, .list ys => if fits (xs.length + ys.length) then some (.s (.own false (xs ++ ys))) else none
  | .Add, .str x, .str y => if fits (x.length + y.length) then some (.s (.val (.str (x ++ y)))) else none
  | .Mult, .tuple xs, .int k => if decide (0 ≤ k) && decide (k ≤ 1000) && decide (xs.length ≤ 1000) then some (.s (.val (.tuple (List.replicate k.toNat xs).flatten))) else none
  | .Mult, .list xs, .int k => if decide (0 ≤ k) && decide (k ≤ 1000) && decide (xs.length ≤ 1000) then some (.s (.own false (List.replicate k.toNat xs).flatten)) else none
  | _, _, _ => none
mutual
/-- data of at most n levels, its texts well formed -/
def okD : Nat → W → Bool
  | _, .none => true
  | _, .bool _ => true
  | _, .int _ => true
  | _, .str x => PyData.strOk x
  | 0, _ => false
  | n + 1, .list xs => okDs n xs
  | n + 1, .tuple xs => okDs n xs
  | _ + 1, .dict _ => false
def okDs : Nat → List W → Bool
  | _, [] => true
  | n, x :: xs => okD n x && okDs n xs
end
def shp (x : W) : Bool := okD 40 x
/-- scalars that == tells apart whatever their texts are -/
def scalW : W → W → Bool
  | .none, .none => true | .none, .int _ => true | .int _, .none => true | .none, .bool _ => true | .bool _, .none => true | .none, .str _ => true | .str _, .none => true
  | .int _, .int _ => true | .bool _, .bool _ => true | .str _, .str _ => true
  | .int _, .str _ => true | .str _, .int _ => true | .bool _, .str _ => true | .str _, .bool _ => true
  | _, _ => false
/-- a tuple with an item at least -/
def consT : W → Bool
  | .tuple (_ :: _) => true
  | _ => false
/-- neither a tuple nor None -/
def plainS : W → Bool
  | .tuple _ => false
  | .none => false
  | _ => true
/-- data that sorted takes -/
def sortOk (ws : List W) : Bool := ws.all (fun d => ws.all fun d' => PySem.W.alike d d') && (ws.all consT || ws.all plainS) && ws.all shp
def sortW (ws : List W) : List W := ws.mergeSort (PySem.W.dataLe false id)
def eqOk (x y : W) : Bool := scalW x y || (shp x && shp y)
def cmpop (op : CmpOp) (x y : W) : Option Bool :=
  match op with
  | .Eq => if eqOk x y then some (PyData.eqv x y) else none
  | .NotEq => if eqOk x y then some (!PyData.eqv x y) else none
  | .Lt => match x, y with
    | .int i, .int j => some (decide (i < j))
    | .tuple xs, .tuple ys => if PySem.W.alike (.tuple xs) (.tuple ys) && shp (.tuple xs) && shp (.tuple ys) then some (PySem.W.dataLt (.tuple xs) (.tuple ys)) else none
    | _, _ => none
  | .LtE => match x, y with | .int i, .int j => some (decide (i ≤ j)) | _, _ => none
  | .Gt => match x, y with | .int i, .int j => some (decide (j < i)) | _, _ => none
  | .GtE => match x, y with | .int i, .int j => some (decide (j ≤ i)) | _, _ => none
  | .Is => match y with
    | .none => some (match x with | .none => true | _ => false)
    | .bool b => match x with | .bool a => some (decide (a = b)) | _ => none
    | _ => none
  | .IsNot => match y with
    | .none => some (match x with | .none => false | _ => true)
    | .bool b => match x with | .bool a => some (!decide (a = b)) | _ => none
    | _ => none
  | .In => match y with
    | .list ys => if shp x && shp (.list ys) then some (ys.any fun z => PyData.eqv z x) else none
    | .tuple ys => if shp x && shp (.tuple ys) then some (ys.any fun z => PyData.eqv z x) else none
    | _ => none
  | .NotIn => match y with
    | .list ys => if shp x && shp (.list ys) then some (!ys.any fun z => PyData.eqv z x) else none
    | .tuple ys => if shp x && shp (.tuple ys) then some (!ys.any fun z => PyData.eqv z x) else none
    | _ => none
def idxop (x i : W) : Option W :=
  match x, i with
  | .list xs, .int i => atI xs i
  | .tuple xs, .int i => atI xs i
  | _, _ => none
def cutW (xs : List W) (lo hi : Option Int) : List W := (xs.drop (HT.sIx xs.length 0 lo)).take (HT.sIx xs.length xs.length hi - HT.sIx xs.length 0 lo)
def sliop (x : W) (lo hi : Option Int) : Option RV :=
  match x with
  | .list xs => some (.s (.own false (cutW xs lo hi)))
  | .tuple xs => some (.s (.val (.tuple (cutW xs lo hi))))
  | _ => none
/-- how many of n items x[k::-1] takes -/
def revN (n : Nat) : Option Nat → Nat
  | none => n
  | some k => min (k + 1) n
def revL {α : Type} (xs : List α) (k : Option Nat) : List α := (xs.take (revN xs.length k)).reverse
def revop (x : W) (k : Option Nat) : Option RV :=
  match x with
  | .list xs => some (.s (.own false (revL xs k)))
  | .tuple xs => some (.s (.val (.tuple (revL xs k))))
  | _ => none
def allI : List W → Option (List Int)
  | [] => some []
  | .int i :: r => (allI r).map (i :: ·)
  | _ => none
def allB : List W → Option (List Bool)
  | [] => some []
  | .bool i :: r => (allB r).map (i :: ·)
  | _ => none
def maxI : List Int → Int
  | [] => 0
  | [x] => x
  | x :: r => let m := maxI r; if m > x then m else x
def minI : List Int → Int
  | [] => 0
  | [x] => x
  | x :: r => let m := minI r; if m < x then m else x
def bltop (f : String) (ws : List W) : Option RV :=
  match f, ws with
  | "len", [x] => (seqOf x).map fun xs => .s (.val (.int xs.length))
  | "min", [.int i, .int j] => some (.s (.val (.int (if j < i then j else i))))
  | "max", [.int i, .int j] => some (.s (.val (.int (if j > i then j else i))))
  | "tuple", [x] => (seqOf x).map fun xs => .s (.val (.tuple xs))
  | "list", [x] => (seqOf x).map fun xs => .s (.own false xs)
  | "sum", [.list xs] => (allI xs).map fun ns => .s (.val (.int ns.sum))
  | "sum", [.tuple xs] => (allI xs).map fun ns => .s (.val (.int ns.sum))
  | "any", [.list xs] => (allB xs).map fun bs => .s (.val (.bool (bs.any id)))
  | "all", [.list xs] => (allB xs).map fun bs => .s (.val (.bool (bs.all id)))
  | "sorted", [.list xs] => if sortOk xs then some (.s (.own false (sortW xs))) else none
  | "sorted", [.tuple xs] => if sortOk xs then some (.s (.own false (sortW xs))) else none
  | "max", [.tuple [.int i, .int j]] => some (.s (.val (.int (if j > i then j else i))))
  | "max", [.list xs] => (allI xs).bind fun ns => if ns.isEmpty then none else some (.s (.val (.int (maxI ns))))
  | "min", [.list xs] => (allI xs).bind fun ns => if ns.isEmpty then none else some (.s (.val (.int (minI ns))))
  | _, _ => none
/-- what is met, each once -/
def metI (ns : List Int) : List Int := ns.foldl (fun acc x => if acc.any (· == x) then acc else acc ++ [x]) []
/-- len(set(x)) of integers -/
def lsetW : W → Option RV
  | .list xs => (allI xs).bind fun ns => if ns.length ≤ 1000 then some (.s (.val (.int ((metI ns).length : Nat)))) else none
  | _ => none
/-- isinstance(x, T) -/
def isiop (x : W) (T : String) : Option Bool :=
  match T, x with
  | "int", .int _ => some true | "int", .bool _ => some true | "int", .none => some false | "int", .str _ => some false | "int", .list _ => some false | "int", .tuple _ => some false
  | "bool", .bool _ => some true | "bool", .int _ => some false | "bool", .none => some false | "bool", .str _ => some false | "bool", .list _ => some false | "bool", .tuple _ => some false
  | "str", .str _ => some true | "str", .int _ => some false | "str", .bool _ => some false | "str", .none => some false | "str", .list _ => some false | "str", .tuple _ => some false
  | "tuple", .tuple _ => some true | "tuple", .int _ => some false | "tuple", .bool _ => some false | "tuple", .none => some false | "tuple", .str _ => some false | "tuple", .list _ => some false
  | "list", .list _ => some true | "list", .int _ => some false | "list", .bool _ => some false | "list", .none => some false | "list", .str _ => some false | "list", .tuple _ => some false
  | _, _ => none
/-! ## running the text -/
inductive Opd where
  | w (x : W)
  | r (i : Nat)
def Opd.get (e : SEnv) : Opd → Option W
  | .w x => some x
  | .r i => match e[i]? with
    | some (some (.own _ xs)) => some (.list xs)
    | _ => none
def getAll (e : SEnv) : List Opd → Option (List W)
  | [] => some []
  | o :: r => match o.get e, getAll e r with
    | some x, some xs => some (x :: xs)
    | _, _ => none
def isOwn (e : SEnv) (i : Nat) : Bool := match e[i]? with
  | some (some (.own _ _)) => true
  | _ => false
def wipeE (e : SEnv) : List Nat → SEnv
  | [] => e
  | v :: vs => (wipeE e vs).set v none
/-- the block's own names get back what they held -/
def backE (old e : SEnv) : List Nat → SEnv
  | [] => e
  | v :: vs => (backE old e vs).set v (match old[v]? with | some (some (.val w)) => some (.val w) | _ => none)
def setTg : Tg → W → SEnv → Option SEnv
  | .one i, w, e => if i < e.length then some (e.set i (some (.val w))) else none
  | .many is, .tuple ws, e => if is.length = ws.length ∧ ∀ i ∈ is, i < e.length then some ((is.zip ws).foldl (fun e p => e.set p.1 (some (.val p.2))) e) else none
  | .many _, _, _ => none
inductive CRes where
  | ok (r : RV) (outs : List (List W))
  | exc (c : Str) (outs : List (List W))
  | bad
structure Gam where
  call : Str → List Slot → CRes
def optR {α : Type} (o : Option α) (e : SEnv) : Res α := match o with | some a => .ok a e | none => .bad
/-- a call's arguments as the callee sees them -/
def slotsOf (e : SEnv) : List Opd → Option (List Slot)
  | [] => some []
  | .w x :: r => (slotsOf e r).map (.val x :: ·)
  | .r i :: r => match e[i]? with
    | some (some (.own _ xs)) => (slotsOf e r).map (.own true xs :: ·)
    | _ => none
/-- the lists that were lent get what the callee left in them -/
def putOuts (e : SEnv) : List Opd → List (List W) → Option SEnv
  | [], [] => some e
  | .w _ :: r, os => putOuts e r os
  | .r i :: r, xs :: os => match e[i]? with
    | some (some (.own io _)) => putOuts (e.set i (some (.own io xs))) r os
    | _ => none
  | _, _ => none
def hasRef (i : Nat) : List Opd → Bool
  | [] => false
  | .w _ :: r => hasRef i r
  | .r j :: r => (i == j) || hasRef i r
/-- no list is lent twice -/
def refsNd : List Opd → Bool
  | [] => true
  | .w _ :: r => refsNd r
  | .r i :: r => !hasRef i r && refsNd r
/-- no list is lent -/
def allWs : List Opd → Bool
  | [] => true
  | .w _ :: os => allWs os
  | .r _ :: _ => false
def rngOf : List W → Option (List W)
  | [.int j] => if decide (-(2 ^ 62) ≤ j) && decide (j < 2 ^ 62) then some ((List.range j.toNat).map fun k => .int (k : Nat)) else none
  | [.int i, .int j] => if decide (-(2 ^ 62) ≤ i) && decide (i < 2 ^ 62) && decide (-(2 ^ 62) ≤ j) && decide (j < 2 ^ 62) then some ((List.range (j - i).toNat).map fun k => .int (i + (k : Nat))) else none
  | _ => none
def enumW (xs : List W) : List W := (List.range xs.length).zip xs |>.map fun p => .tuple [.int (p.1 : Nat), p.2]
def zipW (xs ys : List W) : List W := (xs.zip ys).map fun p => .tuple [p.1, p.2]


/-- the turns of a comprehension -/
noncomputable def lcLoop (body : SEnv → Res (Option W)) (tg : Tg) (own : List Nat) (watch : SEnv → Prop) : List W → SEnv → List W → Res (List W)
  | [], e, acc => open Classical in if watch e then .ok acc e else .bad
  | x :: xs, e, acc => open Classical in if watch e then
      match setTg tg x e with
      | none => .bad
      | some e1 => (body e1).bind fun o e2 => match o with
        | some y => if decide (acc.length < sizeLine) then lcLoop body tg own watch xs (wipeE e2 own) (acc ++ [y]) else .bad
        | none => lcLoop body tg own watch xs (wipeE e2 own) acc
    else .bad
/-- what is walked: its items, and that the list lent for it stands as it was -/
def watchOf (os : List Opd) (ws : List W) : SEnv → Prop := fun e => getAll e os = some ws
mutual
noncomputable def evE (Γ : Gam) : E → SEnv → Res RV
  | .var i, e => match e[i]? with
    | some (some (.val w)) => .ok (.s (.val w)) e
    | some (some (.own false xs)) => .ok (.s (.val (.list xs))) (e.set i (some (.val (.list xs))))
    | _ => .bad
  | .con w, e => .ok (.s (.val w)) e
  | .bin op a b, e => (evA Γ a e).bind fun x e => (evA Γ b e).bind fun y e => match x.get e, y.get e with
    | some x, some y => optR (binop op x y) e
    | _, _ => .bad
  | .neg a, e => (evE Γ a e).bind fun x e => match x.toW with
    | .int i => .ok (.s (.val (.int (-i)))) e
    | _ => .bad
  | .cmp op a b, e => (evA Γ a e).bind fun x e => (evA Γ b e).bind fun y e => match x.get e, y.get e with
    | some x, some y => optR ((cmpop op x y).map fun b => .s (.val (.bool b))) e
    | _, _ => .bad
  | .chn o1 o2 a b c, e => (evE Γ a e).bind fun x e => (evE Γ b e).bind fun y e => match cmpop o1 x.toW y.toW with
    | some true => (evE Γ c e).bind fun z e => optR ((cmpop o2 y.toW z.toW).map fun b => .s (.val (.bool b))) e
    | some false => .ok (.s (.val (.bool false))) e
    | none => .bad
  | .not a, e => (evE Γ a e).bind fun x e => match x.toW with
    | .bool b => .ok (.s (.val (.bool (!b)))) e
    | _ => .bad
  | .and a b, e => (evE Γ a e).bind fun x e => match x.toW with
    | .bool true => (evE Γ b e).bind fun y e => .ok (.s (.val y.toW)) e
    | .bool false => .ok (.s (.val (.bool false))) e
    | _ => .bad
  | .or a b, e => (evE Γ a e).bind fun x e => match x.toW with
    | .bool true => .ok (.s (.val (.bool true))) e
    | .bool false => (evE Γ b e).bind fun y e => .ok (.s (.val y.toW)) e
    | _ => .bad
  | .ife t a b, e => (evE Γ t e).bind fun x e => match x.toW with
    | .bool true => evE Γ a e
    | .bool false => evE Γ b e
    | _ => .bad
  | .tup es, e => (evEs Γ es e).bind fun xs e => if fits xs.length then .ok (.t xs) e else .bad
  | .lst es, e => (evEs Γ es e).bind fun xs e => if fits xs.length then .ok (.s (.own false (xs.map Slot.toW))) e else .bad
  | .idx a i, e => (evA Γ a e).bind fun x e => (evE Γ i e).bind fun y e => match x.get e with
    | some x => optR ((idxop x y.toW).map fun w => .s (.val w)) e
    | none => .bad
  | .sli a lo hi, e => (evA Γ a e).bind fun x e => (evO Γ lo e).bind fun l e => (evO Γ hi e).bind fun h e => match x.get e with
    | some x => optR (sliop x l h) e
    | none => .bad
  | .rev a k, e => (evA Γ a e).bind fun x e => match x.get e with
    | some x => optR (revop x k) e
    | none => .bad
  | .blt f as, e => (evAs Γ as e).bind fun os e => match getAll e os with
    | some ws => optR (bltop f ws) e
    | none => .bad
  | .isi a T, e => (evA Γ a e).bind fun x e => match x.get e with
    | some x => optR ((isiop x T).map fun b => .s (.val (.bool b))) e
    | none => .bad
  | .call f as, e => (evAs Γ as e).bind fun os e => match slotsOf e os with
    | some ss => if !refsNd os then .bad else match Γ.call f ss with
      | .ok r outs => match putOuts e os outs with
        | some e => .ok r e
        | none => .bad
      | .exc c outs => match putOuts e os outs with
        | some e => .exc c e
        | none => .bad
      | .bad => .bad
    | none => .bad
  | .app i x, e => if !isOwn e i then .bad else (evE Γ x e).bind fun r e => match e[i]? with
    | some (some (.own io xs)) => if xs.length < sizeLine then .ok (.s (.val .none)) (e.set i (some (.own io (xs ++ [r.toW])))) else .bad
    | _ => .bad
  | .ext i a, e => if !isOwn e i then .bad else (evA Γ a e).bind fun o e => match o.get e, e[i]? with
    | some (.list ys), some (some (.own io xs)) => if xs.length + ys.length ≤ sizeLine then .ok (.s (.val .none)) (e.set i (some (.own io (xs ++ ys)))) else .bad
    | _, _ => .bad
  | .pop i none, e => match e[i]? with
    | some (some (.own io xs)) => match xs[xs.length - 1]? with
      | some y => .ok (.s (.val y)) (e.set i (some (.own io xs.dropLast)))
      | none => .bad
    | _ => .bad
  | .pop i (some k), e => if !isOwn e i then .bad else (evE Γ k e).bind fun r e => match r.toW, e[i]? with
    | .int j, some (some (.own io xs)) => if 0 ≤ j ∧ j < xs.length ∧ j < 1000000 then match xs[j.toNat]? with
      | some y => .ok (.s (.val y)) (e.set i (some (.own io (xs.eraseIdx j.toNat))))
      | none => .bad
      else .bad
    | _, _ => .bad
  | .lc elt tg it ifs own, e => (evIt Γ it e).bind fun p e1 =>
      match lcLoop (fun e => (evIfs Γ ifs e).bind fun b e => if b then (evE Γ elt e).bind fun y e => .ok (some y.toW) e else .ok none e) tg own (watchOf p.1 p.2.1) p.2.2 (wipeE e1 own) [] with
      | .ok ys e2 => .ok (.s (.own false ys)) (backE e1 e2 own)
      | _ => .bad
  | .mov i, e => match e[i]? with
    | some (some (.own false xs)) => .ok (.s (.own false xs)) (e.set i none)
    | _ => .bad
  | .pk x k, e => (evE Γ x e).bind fun r e => match r with
    | .t xs => match xs[k]? with
      | some s => .ok (.s s) e
      | none => .bad
    | .s _ => .bad
  | .lix i x, e => match e[i]? with
    | some (some (.val (.list xs))) => (evE Γ x e).bind fun r e => if shp (.list xs) && shp r.toW then match xs.findIdx? (fun z => PyData.eqv z r.toW) with
      | some j => .ok (.s (.val (.int (j : Nat)))) e
      | none => .bad
      else .bad
    | _ => .bad
  | .lset x, e => (evE Γ x e).bind fun r e => optR (lsetW r.toW) e
  | .att x c f, e => (evE Γ x e).bind fun r e => optR ((attW c r.toW f).map fun w => .s (.val w)) e
  | .mth c m o as, e => (evA Γ o e).bind fun o1 e => match o1 with
    | .r _ => .bad
    | .w w => if !clsB c m w then .bad else (evAs Γ as e).bind fun os e => match slotsOf e os with
      | some ss => if !refsNd os then .bad else match Γ.call (methN c m) (.val w :: ss) with
        | .ok r outs => match putOuts e os outs with
          | some e => .ok r e
          | none => .bad
        | _ => .bad
      | none => .bad
  | .new c as, e => (evAs Γ as e).bind fun os e => match slotsOf e os with
    | some ss => if !allWs os then .bad else match Γ.call c ss with
      | .ok (.s (.val w)) [] => .ok (.s (.val w)) e
      | _ => .bad
    | none => .bad
noncomputable def evA (Γ : Gam) : A → SEnv → Res Opd
  | .v x, e => (evE Γ x e).bind fun r e => .ok (.w r.toW) e
  | .r i, e => match e[i]? with
    | some (some (.own _ _)) => .ok (.r i) e
    | some (some (.val w)) => .ok (.w w) e
    | _ => .bad
noncomputable def evAs (Γ : Gam) : List A → SEnv → Res (List Opd)
  | [], e => .ok [] e
  | a :: as, e => (evA Γ a e).bind fun o e => (evAs Γ as e).bind fun os e => .ok (o :: os) e
noncomputable def evEs (Γ : Gam) : List E → SEnv → Res (List Slot)
  | [], e => .ok [] e
  | a :: as, e => (evE Γ a e).bind fun r e => (evEs Γ as e).bind fun os e => .ok ((match r with | .s x => x | .t xs => .val (.tuple (xs.map Slot.toW))) :: os) e
noncomputable def evO (Γ : Gam) : Option E → SEnv → Res (Option Int)
  | none, e => .ok none e
  | some a, e => (evE Γ a e).bind fun r e => match r.toW with
    | .int i => .ok (some i) e
    | _ => .bad
noncomputable def evIfs (Γ : Gam) : List E → SEnv → Res Bool
  | [], e => .ok true e
  | [a], e => (evE Γ a e).bind fun r e => match r.toW with
    | .bool b => .ok b e
    | _ => .bad
  | _ :: _ :: _, _ => .bad
/-- the operands to be watched, what they held, the items -/
noncomputable def evIt (Γ : Gam) : It → SEnv → Res (List Opd × List W × List W)
  | .seq a, e => (evA Γ a e).bind fun o e => match o.get e with
    | some x => match seqOf x with
      | some xs => .ok ([o], [x], xs) e
      | none => .bad
    | none => .bad
  | .rng es, e => (evEs Γ es e).bind fun xs e => match rngOf (xs.map Slot.toW) with
    | some ys => .ok ([], [], ys) e
    | none => .bad
  | .enum a, e => (evA Γ a e).bind fun o e => match o.get e with
    | some x => match seqOf x with
      | some xs => .ok ([o], [x], enumW xs) e
      | none => .bad
    | none => .bad
  | .zip a b, e => (evA Γ a e).bind fun o e => (evA Γ b e).bind fun o2 e => match o.get e, o2.get e with
    | some (.list xs), some (.list ys) => .ok ([o, o2], [.list xs, .list ys], zipW xs ys) e
    | some (.tuple xs), some (.tuple ys) => .ok ([o, o2], [.tuple xs, .tuple ys], zipW xs ys) e
    | some (.list xs), some (.tuple ys) => .ok ([o, o2], [.list xs, .tuple ys], zipW xs ys) e
    | some (.tuple xs), some (.list ys) => .ok ([o, o2], [.tuple xs, .list ys], zipW xs ys) e
    | _, _ => .bad
end
/-! ## statements -/
inductive Fl where
  | nx
  | rt (r : RV)
def setSlot (m : Bool) (i : Nat) (x : Slot) (e : SEnv) : Option SEnv :=
  if i < e.length then
    match m, x with
    | false, x => some (e.set i (some (.val x.toW)))
    | true, .own false xs => some (e.set i (some (.own false xs)))
    | true, _ => none
  else none
noncomputable def setT1 (Γ : Gam) : List (T1 × Bool) → List Slot → SEnv → Res Unit
  | [], [], e => .ok () e
  | (.nm i, m) :: ts, x :: xs, e => match setSlot m i x e with
    | some e => setT1 Γ ts xs e
    | none => .bad
  | (.sub i j, _) :: ts, x :: xs, e => if !isOwn e i then .bad else (evE Γ j e).bind fun r e => match r.toW, e[i]? with
    | .int k, some (some (.own io ys)) => match ixN ys.length k with
      | some n => setT1 Γ ts xs (e.set i (some (.own io (ys.set n x.toW))))
      | none => .bad
    | _, _ => .bad
  | _, _, _ => .bad
def slotsRV : RV → Option (List Slot)
  | .t xs => some xs
  | .s (.val (.tuple ws)) => some (ws.map Slot.val)
  | _ => none
def parSet : List (Nat × Bool) → List Slot → SEnv → Option SEnv
  | [], [], e => some e
  | (i, m) :: is, x :: xs, e => match setSlot m i x e with
    | some e => parSet is xs e
    | none => none
  | _, _, _ => none
noncomputable def frLoop (body : SEnv → Res Fl) (tg : Tg) (watch : SEnv → Prop) : List W → SEnv → Res Fl
  | [], e => open Classical in if watch e then .ok .nx e else .bad
  | x :: xs, e => open Classical in if watch e then
      match setTg tg x e with
      | none => .bad
      | some e1 => (body e1).bind fun f e2 => match f with
        | .nx => frLoop body tg watch xs e2
        | .rt r => .ok (.rt r) e2
    else .bad
def whLoop (test : SEnv → Res Bool) (body : SEnv → Res Fl) : Nat → SEnv → Res Fl
  | 0, _ => .bad
  | n + 1, e => (test e).bind fun b e => if b then (body e).bind fun f e => match f with
      | .nx => whLoop test body n e
      | .rt r => .ok (.rt r) e
    else .ok .nx e
/-- the rows of amounts, and what is left of sums -/
def sumMax (rows : List (List Int)) : Int := (rows.map maxI).sum
structure PrR (Γ : Gam) (shop : W) (hs : List Int) (rows : List (List Int)) (left : List Int) : Prop where
  l : rows.length = hs.length
  n : hs.length ≤ 1000
  h : ∀ (i : Nat) c, hs[i]? = some c → 0 ≤ c ∧ c ≤ 1000000
  rl : ∀ (i : Nat) c row, hs[i]? = some c → rows[i]? = some row → row.length = (c + 1).toNat
  ra : ∀ (i : Nat) row (j : Nat) x, rows[i]? = some row → row[j]? = some x → Γ.call ("amount_of" : Str) [.val shop, .val (.int (i : Nat)), .val (.int (j : Nat))] = .ok (.s (.val (.int x))) []
  m : 0 ≤ sumMax rows ∧ sumMax rows ≤ 1000000
  ll : left.length = (sumMax rows + 1).toNat
  la : ∀ (t : Nat) x, left[t]? = some x → ∃ y, Γ.call ("takings" : Str) [.val shop, .val (.int (t : Nat))] = .ok (.t [y, .val (.int x)]) []
def prW (rows : List (List Int)) (left : List Int) : W := .dict ((.str ("Prices" : Str), .none) :: fldW [("rows" : Str), ("left" : Str)] [.list (rows.map fun r => .list (r.map .int)), .list (left.map .int)])
def PrW (Γ : Gam) (shop : W) (hs : List W) (w : W) : Prop := ∃ ns rows left, hs = ns.map .int ∧ PrR Γ shop ns rows left ∧ w = prW rows left
noncomputable def priOf (Pr : W → List W → W → Prop) (e : SEnv) : Res Fl := match (e[(0 : Nat)]? : Option (Option Slot)), (e[(1 : Nat)]? : Option (Option Slot)) with
  | some (some (.val shop)), some (some (.val (.tuple hs))) => open Classical in if h : ∃ w, Pr shop hs w then .ok (.rt (.s (.val (Classical.choose h)))) e else .bad
  | _, _ => .bad
noncomputable def evPri (Γ : Gam) (e : SEnv) : Res Fl := priOf (PrW Γ) e
/-- try: body, except PriceError as e: return _law_which(e) -/
def catchR (i : Nat) : Res Fl → Res Fl
  | .ok f e => .ok f e
  | .exc c e => match exIdx c with
    | some k => if i < e.length then .ok (.rt (.s (.val (raisedW k)))) e else .bad
    | none => .bad
  | .bad => .bad
noncomputable def evT (Γ : Gam) (t : E) (e : SEnv) : Res Bool := (evE Γ t e).bind fun r e => match r.toW with
  | .bool b => .ok b e
  | _ => .bad
mutual
noncomputable def evS (Γ : Gam) (wf : Nat) : S → SEnv → Res Fl
  | .set i m x, e => (evE Γ x e).bind fun r e => match m, r with
    | false, r => if i < e.length then .ok .nx (e.set i (some (.val r.toW))) else .bad
    | true, .s (.own false xs) => if i < e.length then .ok .nx (e.set i (some (.own false xs))) else .bad
    | true, _ => .bad
  | .unp ts x, e => (evE Γ x e).bind fun r e => match slotsRV r with
    | some xs => if xs.length = ts.length then (setT1 Γ ts xs e).bind fun _ e => .ok .nx e else .bad
    | none => .bad
  | .par is es, e => (evEs Γ es e).bind fun xs e => match parSet is xs e with
    | some e => .ok .nx e
    | none => .bad
  | .aug i op x, e => match e[i]? with
    | some (some (.val w)) => (evE Γ x e).bind fun r e => match op, w, r.toW with
      | .Add, .int a, .int b => .ok .nx (e.set i (some (.val (.int (a + b)))))
      | .Sub, .int a, .int b => .ok .nx (e.set i (some (.val (.int (a - b)))))
      | _, _, _ => .bad
    | _ => .bad
  | .sidx i j x, e => (evE Γ x e).bind fun r e => if !isOwn e i then .bad else (evE Γ j e).bind fun k e => match k.toW, e[i]? with
    | .int k, some (some (.own io ys)) => match ixN ys.length k with
      | some n => .ok .nx (e.set i (some (.own io (ys.set n r.toW))))
      | none => .bad
    | _, _ => .bad
  | .ex x, e => (evE Γ x e).bind fun _ e => .ok .nx e
  | .ret none, e => .ok (.rt (.s (.val .none))) e
  | .ret (some x), e => (evE Γ x e).bind fun r e => .ok (.rt r) e
  | .ite t a b, e => (evT Γ t e).bind fun c e => if c then evSs Γ wf a e else evSs Γ wf b e
  | .fr tg it body, e => (evIt Γ it e).bind fun p e => frLoop (fun e => evSs Γ wf body e) tg (watchOf p.1 p.2.1) p.2.2 e
  | .wh t body, e => whLoop (fun e => evT Γ t e) (fun e => evSs Γ wf body e) wf e
  | .rai c, e => .exc c e
  | .pas, e => .ok .nx e
  | .nev, _ => .bad
  | .pri, e => evPri Γ e
  | .tr i body, e => catchR i (evSs Γ wf body e)
noncomputable def evSs (Γ : Gam) (wf : Nat) : List S → SEnv → Res Fl
  | [], e => .ok .nx e
  | x :: xs, e => (evS Γ wf x e).bind fun f e => match f with
    | .nx => evSs Γ wf xs e
    | .rt r => .ok (.rt r) e
end
/-- what the lists that were lent hold at the end -/
def outsOf : List Slot → SEnv → Option (List (List W))
  | [], _ => some []
  | .val _ :: r, _ :: e => outsOf r e
  | .own _ _ :: r, some (.own true xs) :: e => (outsOf r e).map (xs :: ·)
  | _, _ => none
noncomputable def runFn (Γ : Gam) (wf : Nat) (f : Fn) (ss : List Slot) : CRes :=
  if ss.length = f.np then
    match evSs Γ wf f.body (ss.map some ++ List.replicate (f.nn - f.np) none) with
    | .ok fl e => match outsOf ss e with
      | some outs => .ok (match fl with | .nx => .s (.val .none) | .rt r => r) outs
      | none => .bad
    | .exc c e => match outsOf ss e with
      | some outs => .exc c outs
      | none => .bad
    | .bad => .bad
  else .bad
/-- calls, at most n within one another -/
noncomputable def callN (Δ : Str → Option Fn) (wf : Nat) : Nat → Str → List Slot → CRes
  | 0, _, _ => .bad
  | n + 1, f, ss => match Δ f with
    | some fn => runFn ⟨callN Δ wf n⟩ wf fn ss
    | none => .bad
end D

namespace D
open PySem L2
/-- a list that may be read, its object plain -/
def RdK (K : PySem.W.Frag) (H : Hp) (a : Addr) (xs : List V) : Prop := Rd H a (.lst xs) ∨ ∃ (its : List Value) (n : Nat), K.lookup a = some { cls := .type "list", data := .seq its.toArray n } ∧ Vals xs its ∧ xs.length ≤ sizeLine
theorem RdK.sq {K : PySem.W.Frag} {H : Hp} {a : Addr} {xs : List V} (h : RdK K H a xs) : SqL K H a xs := by
  rcases h with h | ⟨its, n, h1, h2, h3⟩
  · exact .inl h
  · exact .inr ⟨_, its.toArray, n, h1, rfl, rfl, rfl, by rw [List.size_toArray, ← h2.length]; exact h3, by simpa using h2⟩
mutual
/-- plain data, its lists and tuples on the heap -/
inductive Dv (K : PySem.W.Frag) (H : Hp) : V → W → Prop
  | non : Dv K H .non .none
  | bl (b : Bool) : Dv K H (.bl b) (.bool b)
  | int (i : Int) : Dv K H (.int i) (.int i)
  | str (x : Str) : Dv K H (.str x) (.str x)
  | lst {a : Addr} {xs : List V} {ds : List W} : RdK K H a xs → DvAll K H xs ds → Dv K H (.ref a) (.list ds)
  | tup {a : Addr} {xs : List V} {ds : List W} : SqT K H a xs → DvAll K H xs ds → Dv K H (.ref a) (.tuple ds)
  | ins {a dx : Addr} {c : Str} {fs : List (Str × V)} {ds : List W} : H a = some (.ins (He.ga K c) dx fs) → DvAll K H (fs.map (·.2)) ds → Dv K H (.ref a) (.dict ((.str c, .none) :: fldW (fs.map (·.1)) ds))
inductive DvAll (K : PySem.W.Frag) (H : Hp) : List V → List W → Prop
  | nil : DvAll K H [] []
  | cons {v : V} {vs : List V} {d : W} {ds : List W} : Dv K H v d → DvAll K H vs ds → DvAll K H (v :: vs) (d :: ds)
end
mutual
theorem Dv.dp {K : PySem.W.Frag} {G : Hp} : ∀ {n : Nat} {v : V} {w : W}, okD n w = true → Dv K G v w → Dp K G v w
  | _, _, _, _, .non => .non
  | _, _, _, _, .bl b => .bl b
  | _, _, _, _, .int i => .int i
  | _, _, _, _, .str x => .str x
  | 0, _, _, h, .lst q r => by unfold okD at h; cases h
  | n + 1, _, _, h, .lst q r => .lst q.sq (DvAll.dp (n := n) (by unfold okD at h; exact h) r)
  | 0, _, _, h, .tup q r => by unfold okD at h; cases h
  | n + 1, _, _, h, .tup q r => .tup q (DvAll.dp (n := n) (by unfold okD at h; exact h) r)
  | 0, _, _, h, .ins q r => by unfold okD at h; cases h
  | n + 1, _, _, h, .ins q r => by unfold okD at h; cases h
theorem DvAll.dp {K : PySem.W.Frag} {G : Hp} : ∀ {n : Nat} {v : List V} {w : List W}, okDs n w = true → DvAll K G v w → DpAll K G v w
  | _, _, _, _, .nil => .nil
  | n, _, _, h, .cons a b => by
    unfold okDs at h
    rw [Bool.and_eq_true] at h
    exact .cons (Dv.dp h.1 a) (DvAll.dp h.2 b)
end
theorem rd_mono {G G' : Hp} (h : Same G G') {a : Addr} {u : HO} (q : Rd G a u) : Rd G' a u := by
  rcases q with q | ⟨o, q⟩
  · exact .inl (h _ _ q)
  · exact .inr ⟨o, h _ _ q⟩
theorem rdk_mono {K : PySem.W.Frag} {G G' : Hp} (h : Same G G') {a : Addr} {u : List V} (q : RdK K G a u) : RdK K G' a u := by
  rcases q with q | q
  · exact .inl (rd_mono h q)
  · exact .inr q
theorem sqt_mono {K : PySem.W.Frag} {G G' : Hp} (h : Same G G') {a : Addr} {u : List V} (q : SqT K G a u) : SqT K G' a u := by
  rcases q with q | q
  · exact .inl (rd_mono h q)
  · exact .inr q
mutual
theorem Dv.mono {K : PySem.W.Frag} {G G' : Hp} (h : Same G G') : ∀ {v : V} {w : W}, Dv K G v w → Dv K G' v w
  | _, _, .non => .non
  | _, _, .bl b => .bl b
  | _, _, .int i => .int i
  | _, _, .str x => .str x
  | _, _, .lst q r => .lst (rdk_mono h q) (DvAll.mono h r)
  | _, _, .tup q r => .tup (sqt_mono h q) (DvAll.mono h r)
  | _, _, .ins q r => .ins (h _ _ q) (DvAll.mono h r)
theorem DvAll.mono {K : PySem.W.Frag} {G G' : Hp} (h : Same G G') : ∀ {v : List V} {w : List W}, DvAll K G v w → DvAll K G' v w
  | _, _, .nil => .nil
  | _, _, .cons a b => .cons (Dv.mono h a) (DvAll.mono h b)
end
theorem same_upd {H : Hp} {p : Addr} (h : H p = none) (o : HO) : Same H (upd H p o) := fun b u q => by rw [upd_ne (ne_of_none q h)]; exact q
theorem DvAll.length {K : PySem.W.Frag} {G : Hp} : ∀ {v : List V} {w : List W}, DvAll K G v w → v.length = w.length
  | _, _, .nil => rfl
  | _, _, .cons _ b => by rw [List.length_cons, List.length_cons, DvAll.length b]
theorem DvAll.get {K : PySem.W.Frag} {G : Hp} : ∀ {v : List V} {w : List W} {i : Nat} {x : V}, DvAll K G v w → v[i]? = some x → ∃ y, w[i]? = some y ∧ Dv K G x y
  | _, _, _, _, .nil, h => by simp at h
  | _, _, 0, _, .cons a b, h => by simp at h; subst h; exact ⟨_, rfl, a⟩
  | _, _, i + 1, x, .cons a b, h => by
    obtain ⟨y, h1, h2⟩ := DvAll.get (i := i) (x := x) b (by simpa using h)
    exact ⟨y, by simpa using h1, h2⟩
theorem DvAll.get' {K : PySem.W.Frag} {G : Hp} : ∀ {v : List V} {w : List W} {i : Nat} {y : W}, DvAll K G v w → w[i]? = some y → ∃ x, v[i]? = some x ∧ Dv K G x y
  | _, _, _, _, .nil, h => by simp at h
  | _, _, 0, _, .cons a b, h => by simp at h; subst h; exact ⟨_, rfl, a⟩
  | _, _, i + 1, x, .cons a b, h => by
    obtain ⟨y, h1, h2⟩ := DvAll.get' (i := i) (y := x) b (by simpa using h)
    exact ⟨y, by simpa using h1, h2⟩
theorem DvAll.append {K : PySem.W.Frag} {G : Hp} : ∀ {v v' : List V} {w w' : List W}, DvAll K G v w → DvAll K G v' w' → DvAll K G (v ++ v') (w ++ w')
  | _, _, _, _, .nil, h => h
  | _, _, _, _, .cons a b, h => .cons a (DvAll.append b h)
theorem DvAll.take {K : PySem.W.Frag} {G : Hp} : ∀ {v : List V} {w : List W} (n : Nat), DvAll K G v w → DvAll K G (v.take n) (w.take n)
  | _, _, 0, _ => .nil
  | _, _, _ + 1, .nil => .nil
  | _, _, n + 1, .cons a b => .cons a (DvAll.take n b)
theorem DvAll.drop {K : PySem.W.Frag} {G : Hp} : ∀ {v : List V} {w : List W} (n : Nat), DvAll K G v w → DvAll K G (v.drop n) (w.drop n)
  | _, _, 0, h => h
  | _, _, _ + 1, .nil => .nil
  | _, _, n + 1, .cons a b => DvAll.drop n b
theorem DvAll.set {K : PySem.W.Frag} {G : Hp} {x : V} {y : W} (q : Dv K G x y) : ∀ {v : List V} {w : List W} (n : Nat), DvAll K G v w → DvAll K G (v.set n x) (w.set n y)
  | _, _, _, .nil => .nil
  | _, _, 0, .cons _ b => .cons q b
  | _, _, n + 1, .cons a b => .cons a (DvAll.set q n b)
theorem DvAll.erase {K : PySem.W.Frag} {G : Hp} : ∀ {v : List V} {w : List W} (n : Nat), DvAll K G v w → DvAll K G (v.eraseIdx n) (w.eraseIdx n)
  | _, _, _, .nil => .nil
  | _, _, 0, .cons _ b => b
  | _, _, n + 1, .cons a b => .cons a (DvAll.erase n b)
theorem DvAll.rep {K : PySem.W.Frag} {G : Hp} {v : List V} {w : List W} (h : DvAll K G v w) : ∀ n : Nat, DvAll K G (List.replicate n v).flatten (List.replicate n w).flatten
  | 0 => .nil
  | n + 1 => by rw [List.replicate_succ, List.replicate_succ, List.flatten_cons, List.flatten_cons]; exact h.append (DvAll.rep h n)
theorem DvAll.dropLast {K : PySem.W.Frag} {G : Hp} {v : List V} {w : List W} (h : DvAll K G v w) : DvAll K G v.dropLast w.dropLast := by
  rw [List.dropLast_eq_take, List.dropLast_eq_take, h.length]; exact h.take _

end D

namespace D
open PySem L2 PyProof.Rows

/-! ## the relation between the slots of the text and those of the machine -/
structure En where
  G0 : Hp
  H0 : Hp
  io : List (Option Addr)

def SlotR (K : PySem.W.Frag) (N : En) (G H : Hp) : Slot → V → Prop
  | .val w, v => Dv K G v w
  | .own io xs, v => ∃ a vs, v = .ref a ∧ G a = none ∧ H a = some (.lst vs) ∧ DvAll K G vs xs ∧ (io = true → some a ∈ N.io) ∧ (io = false → N.H0 a = none)
abbrev Tm := List (Slot × V)
def ownA : Slot × V → Option Addr
  | (.own _ _, .ref a) => some a
  | _ => none
def OwnAt (e : SEnv) (σ : L2.St) (i : Nat) (a : Addr) : Prop := ∃ io xs, e[i]? = some (some (.own io xs)) ∧ σ[i]? = some (some (.ref a))
structure R (K : PySem.W.Frag) (N : En) (G H : Hp) (e : SEnv) (σ : L2.St) (tm : Tm) : Prop where
  sub : Same G H
  base : Same N.G0 G
  keep : ∀ b o, N.H0 b = some o → some b ∉ N.io → H b = some o
  iob : ∀ b, some b ∈ N.io → H b ≠ none
  gnew : ∀ b, N.G0 b = none → G b ≠ none → N.H0 b = none
  len : e.length = σ.length
  slot : ∀ (i : Nat) s, e[i]? = some (some s) → ∃ v, σ[i]? = some (some v) ∧ SlotR K N G H s v
  tmp : ∀ p ∈ tm, SlotR K N G H p.1 p.2
  nd1 : ∀ i j a, OwnAt e σ i a → OwnAt e σ j a → i = j
  nd2 : ∀ i a, OwnAt e σ i a → ∀ p ∈ tm, ownA p ≠ some a
  nd3 : tm.Pairwise fun p q => ∀ a, ownA p = some a → ownA q ≠ some a
  iop : ∀ (j : Nat) xs, e[j]? = some (some (.own true xs)) → ∃ a, N.io[j]? = some (some a) ∧ σ[j]? = some (some (.ref a))
  tmo : ∀ p ∈ tm, ∀ xs, p.1 ≠ .own true xs

section
variable {K : PySem.W.Frag} {N : En} {G G' H H' : Hp} {e : SEnv} {σ : L2.St} {tm tm' : Tm}
theorem R.gn (r : R K N G H e σ tm) {a : Addr} (h : H a = none) : G a = none := by
  cases q : G a with
  | none => rfl
  | some o => have := r.sub _ _ q; rw [h] at this; cases this
theorem R.h0 (r : R K N G H e σ tm) {a : Addr} (h : H a = none) : N.H0 a = none := by
  cases q : N.H0 a with
  | none => rfl
  | some o =>
    by_cases hb : some a ∈ N.io
    · exact absurd h (r.iob a hb)
    · have := r.keep _ _ q hb; rw [h] at this; cases this
theorem R.own (r : R K N G H e σ tm) {i : Nat} {a : Addr} (h : OwnAt e σ i a) : G a = none ∧ ∃ vs, H a = some (.lst vs) := by
  obtain ⟨io, xs, h1, h2⟩ := h
  obtain ⟨v, h3, a', vs, rfl, q1, q2, _⟩ := r.slot i _ h1
  rw [h2] at h3; cases h3
  exact ⟨q1, vs, q2⟩
theorem R.drop (r : R K N G H e σ tm) (h : tm'.Sublist tm) : R K N G H e σ tm' :=
  ⟨r.sub, r.base, r.keep, r.iob, r.gnew, r.len, r.slot, fun p hp => r.tmp p (h.subset hp), r.nd1, fun i a o p hp => r.nd2 i a o p (h.subset hp), r.nd3.sublist h, r.iop, fun p hp => r.tmo p (h.subset hp)⟩
theorem R.tail {p : Slot × V} (r : R K N G H e σ (p :: tm)) : R K N G H e σ tm := r.drop (List.sublist_cons_self _ _)
theorem R.second {p q : Slot × V} (r : R K N G H e σ (p :: q :: tm)) : R K N G H e σ (p :: tm) := r.drop ((List.sublist_cons_self _ _).cons₂ _)
theorem SlotR.mono {s : Slot} {v : V} (h : SlotR K N G H s v) (g : Same G G') (hh : ∀ a, ownA (s, v) = some a → G' a = none ∧ H' a = H a) : SlotR K N G' H' s v := by
  cases s with
  | val w => exact Dv.mono g h
  | own io xs =>
    obtain ⟨a, vs, rfl, q1, q2, q3, q4⟩ := h
    obtain ⟨z1, z2⟩ := hh a rfl
    exact ⟨a, vs, rfl, z1, by rw [z2]; exact q2, DvAll.mono g q3, q4⟩
/-- a value joins the pending ones -/
theorem R.push {w : W} {v : V} (r : R K N G H e σ tm) (h : Dv K G v w) : R K N G H e σ ((.val w, v) :: tm) :=
  ⟨r.sub, r.base, r.keep, r.iob, r.gnew, r.len, r.slot, fun p hp => by
    rcases List.mem_cons.mp hp with rfl | hp
    · exact h
    · exact r.tmp p hp, r.nd1, fun i a o p hp => by
    rcases List.mem_cons.mp hp with rfl | hp
    · exact fun z => by cases z
    · exact r.nd2 i a o p hp, List.pairwise_cons.mpr ⟨fun q _ a z => (by cases z), r.nd3⟩, r.iop, fun p hp xs => by
    rcases List.mem_cons.mp hp with rfl | hp
    · exact fun z => by cases z
    · exact r.tmo p hp xs⟩
/-- nothing owned is touched: H' keeps all that H has, G' grows by what is new -/
theorem R.ext (r : R K N G H e σ tm) (hh : Same H H') (g : Same G G') (gs : Same G' H') (gn : ∀ b, G b = none → G' b ≠ none → H b = none) : R K N G' H' e σ tm := by
  have ow : ∀ {s : Slot} {v : V}, SlotR K N G H s v → SlotR K N G' H' s v := fun {s v} h => by
    refine h.mono g fun a z => ?_
    cases s with
    | val w => cases z
    | own io xs =>
      obtain ⟨a', vs, rfl, q1, q2, q3, q4⟩ := h
      cases z
      refine ⟨?_, (hh _ _ q2).trans q2.symm⟩
      cases q : G' a with
      | none => rfl
      | some o => have := gn a q1 (by rw [q]; simp); rw [q2] at this; cases this
  refine ⟨gs, r.base.trans g, fun b o h hb => hh _ _ (r.keep b o h hb), fun b hb => ?_, fun b h1 h2 => ?_, r.len, fun i s h => ?_, fun p hp => ow (r.tmp p hp), r.nd1, r.nd2, r.nd3, r.iop, r.tmo⟩
  · cases q : H b with
    | none => exact absurd q (r.iob b hb)
    | some o => rw [hh _ _ q]; simp
  · cases q : G b with
    | none => exact r.h0 (gn b q h2)
    | some o => exact r.gnew b h1 (by rw [q]; simp)
  · obtain ⟨v, h1, h2⟩ := r.slot i s h
    exact ⟨v, h1, ow h2⟩
/-- a new object that is not frozen -/
theorem R.new (r : R K N G H e σ tm) {p : Addr} (hp : H p = none) (o : HO) : R K N G (upd H p o) e σ tm :=
  r.ext (same_upd hp o) (Same.refl _) (r.sub.trans (same_upd hp o)) fun b h1 h2 => absurd h1 h2
/-- a new object, frozen -/
theorem R.newG (r : R K N G H e σ tm) {p : Addr} (hp : H p = none) (o : HO) : R K N (upd G p o) (upd H p o) e σ tm := by
  refine r.ext (same_upd hp o) (same_upd (r.gn hp) o) (fun b u q => ?_) fun b h1 h2 => ?_
  · by_cases hb : b = p
    · subst hb; rw [upd_same] at q ⊢; exact q
    · rw [upd_ne hb] at q ⊢; exact r.sub _ _ q
  · by_cases hb : b = p
    · subst hb; exact hp
    · rw [upd_ne hb] at h2; exact absurd h1 h2
/-- a new list of one's own -/
theorem R.newL (r : R K N G H e σ tm) {p : Addr} (hp : H p = none) {vs : List V} {xs : List W} (h : DvAll K G vs xs) : R K N G (upd H p (.lst vs)) e σ ((.own false xs, .ref p) :: tm) := by
  have q := r.new hp (.lst vs)
  refine ⟨q.sub, q.base, q.keep, q.iob, q.gnew, q.len, q.slot, fun z hz => ?_, q.nd1, fun i a o z hz => ?_, List.pairwise_cons.mpr ⟨fun z hz a h1 h2 => ?_, q.nd3⟩, q.iop, fun z hz xs => (by
    rcases List.mem_cons.mp hz with rfl | hz
    · exact fun z => by cases z
    · exact q.tmo z hz xs)⟩
  · rcases List.mem_cons.mp hz with rfl | hz
    · exact ⟨p, vs, rfl, r.gn hp, upd_same, h, (fun z => by cases z), fun _ => r.h0 hp⟩
    · exact q.tmp z hz
  · rcases List.mem_cons.mp hz with rfl | hz
    · intro z
      cases z
      obtain ⟨_, vs, q⟩ := r.own o
      rw [hp] at q; cases q
    · exact q.nd2 i a o z hz
  · cases h1
    obtain ⟨s, v⟩ := z
    cases s with
    | val w => cases h2
    | own io ys =>
      obtain ⟨a', vs', rfl, _, q2, _⟩ := r.tmp _ hz
      cases h2
      rw [hp] at q2; cases q2
/-- a pending list becomes a value -/
theorem R.frz {xs : List W} {v : V} (r : R K N G H e σ ((.own false xs, v) :: tm)) : ∃ G', Same G G' ∧ R K N G' H e σ ((.val (.list xs), v) :: tm) := by
  obtain ⟨a, vs, rfl, q1, q2, q3, _, q4⟩ := r.tmp _ List.mem_cons_self
  have nd := List.pairwise_cons.mp r.nd3
  have g : Same G (upd G a (.lst vs)) := same_upd q1 _
  refine ⟨upd G a (.lst vs), g, ?_⟩
  have ow : ∀ {s : Slot} {v : V}, SlotR K N G H s v → ownA (s, v) ≠ some a → SlotR K N (upd G a (.lst vs)) H s v := fun {s v} h hn => by
    refine h.mono g fun b z => ⟨?_, rfl⟩
    cases s with
    | val w => cases z
    | own io ys =>
      obtain ⟨a', vs', rfl, z1, _⟩ := h
      cases z
      have : b ≠ a := fun z => hn (by rw [z]; rfl)
      rw [upd_ne this]; exact z1
  refine ⟨fun b o h => ?_, r.base.trans g, r.keep, r.iob, fun b h1 h2 => ?_, r.len, fun i s h => ?_, fun p hp => ?_, r.nd1, fun i b o p hp => ?_, List.pairwise_cons.mpr ⟨fun q _ a z => (by cases z), nd.2⟩, r.iop, fun z hz xs => (by
    rcases List.mem_cons.mp hz with rfl | hz
    · exact fun z => by cases z
    · exact r.tmo z (List.mem_cons_of_mem _ hz) xs)⟩
  · by_cases hb : b = a
    · subst hb; rw [upd_same] at h; rw [q2]; exact h
    · rw [upd_ne hb] at h; exact r.sub _ _ h
  · by_cases hb : b = a
    · subst hb; exact q4 rfl
    · rw [upd_ne hb] at h2; exact r.gnew b h1 h2
  · obtain ⟨v, h1, h2⟩ := r.slot i s h
    refine ⟨v, h1, ow h2 fun z => ?_⟩
    cases s with
    | val w => cases z
    | own io ys =>
      cases v with
      | ref b => cases z; exact r.nd2 i a ⟨io, ys, h, h1⟩ _ List.mem_cons_self rfl
      | _ => cases z
  · rcases List.mem_cons.mp hp with rfl | hp
    · exact .lst (.inl (.inl upd_same)) (DvAll.mono g q3)
    · exact ow (r.tmp p (List.mem_cons_of_mem _ hp)) fun z => nd.1 p hp a rfl z
  · rcases List.mem_cons.mp hp with rfl | hp
    · exact fun z => by cases z
    · exact r.nd2 i b o p (List.mem_cons_of_mem _ hp)
theorem R.swap {p q : Slot × V} (r : R K N G H e σ (p :: q :: tm)) : R K N G H e σ (q :: p :: tm) := by
  have n1 := List.pairwise_cons.mp r.nd3
  have n2 := List.pairwise_cons.mp n1.2
  refine ⟨r.sub, r.base, r.keep, r.iob, r.gnew, r.len, r.slot, fun z hz => r.tmp z (by simp only [List.mem_cons] at hz ⊢; rcases hz with h | h | h <;> simp [h]), r.nd1, fun i a o z hz => r.nd2 i a o z (by simp only [List.mem_cons] at hz ⊢; rcases hz with h | h | h <;> simp [h]), ?_, r.iop, fun z hz => r.tmo z (by simp only [List.mem_cons] at hz ⊢; rcases hz with h | h | h <;> simp [h])⟩
  refine List.pairwise_cons.mpr ⟨fun z hz a h1 h2 => ?_, List.pairwise_cons.mpr ⟨fun z hz => n1.1 z (List.mem_cons_of_mem _ hz), n2.2⟩⟩
  rcases List.mem_cons.mp hz with rfl | hz
  · exact n1.1 q List.mem_cons_self a h2 h1
  · exact n2.1 z hz a h1 h2
/-- a name of one's own list gives it away -/
theorem R.take {i : Nat} {xs : List W} (r : R K N G H e σ tm) (hi : e[i]? = some (some (.own false xs))) : ∃ v, σ[i]? = some (some v) ∧ R K N G H (e.set i none) σ ((.own false xs, v) :: tm) := by
  obtain ⟨v, h1, a, vs, rfl, q1, q2, q3, q4, q5⟩ := r.slot i _ hi
  have hlt : i < e.length := (List.getElem?_eq_some_iff.mp hi).1
  refine ⟨_, h1, ?_⟩
  have un : ∀ {j : Nat} {b : Addr}, OwnAt (e.set i none) σ j b → j ≠ i ∧ OwnAt e σ j b := fun {j b} ⟨io, ys, z1, z2⟩ => by
    by_cases hj : i = j
    · subst hj; rw [List.getElem?_set_self hlt] at z1; cases z1
    · rw [List.getElem?_set_ne hj] at z1; exact ⟨fun z => hj z.symm, io, ys, z1, z2⟩
  have own : OwnAt e σ i a := ⟨false, xs, hi, h1⟩
  refine ⟨r.sub, r.base, r.keep, r.iob, r.gnew, by rw [List.length_set]; exact r.len, fun j s h => ?_, fun p hp => ?_, fun j k b o1 o2 => r.nd1 j k b (un o1).2 (un o2).2, fun j b o p hp => ?_, List.pairwise_cons.mpr ⟨fun p hp b h2 h3 => ?_, r.nd3⟩, fun j ys h => (by
    by_cases hj : i = j
    · subst hj; rw [List.getElem?_set_self hlt] at h; cases h
    · rw [List.getElem?_set_ne hj] at h; exact r.iop j ys h), fun z hz xs => (by
    rcases List.mem_cons.mp hz with rfl | hz
    · exact fun z => by cases z
    · exact r.tmo z hz xs)⟩
  · by_cases hj : i = j
    · subst hj; rw [List.getElem?_set_self hlt] at h; cases h
    · rw [List.getElem?_set_ne hj] at h; exact r.slot j s h
  · rcases List.mem_cons.mp hp with rfl | hp
    · exact ⟨a, vs, rfl, q1, q2, q3, q4, q5⟩
    · exact r.tmp p hp
  · rcases List.mem_cons.mp hp with rfl | hp
    · intro z; cases z
      exact (un o).1 (r.nd1 _ _ _ (un o).2 own)
    · exact r.nd2 j b (un o).2 p hp
  · cases h2
    exact r.nd2 i _ own p hp h3
/-- a name of one's own list becomes a value -/
theorem R.frzSlot {i : Nat} {xs : List W} (r : R K N G H e σ tm) (hi : e[i]? = some (some (.own false xs))) :
    ∃ G' v, σ[i]? = some (some v) ∧ Same G G' ∧ R K N G' H (e.set i (some (.val (.list xs)))) σ ((.val (.list xs), v) :: tm) := by
  obtain ⟨v, h1, a, vs, rfl, q1, q2, q3, q4, q5⟩ := r.slot i _ hi
  have hlt : i < e.length := (List.getElem?_eq_some_iff.mp hi).1
  -- first the list as a pending one, the slot emptied
  have r1 : R K N G H (e.set i none) σ ((.own false xs, .ref a) :: tm) := by
    have un : ∀ {j : Nat} {b : Addr}, OwnAt (e.set i none) σ j b → j ≠ i ∧ OwnAt e σ j b := fun {j b} ⟨io, ys, z1, z2⟩ => by
      by_cases hj : i = j
      · subst hj; rw [List.getElem?_set_self hlt] at z1; cases z1
      · rw [List.getElem?_set_ne hj] at z1; exact ⟨fun z => hj z.symm, io, ys, z1, z2⟩
    have own : OwnAt e σ i a := ⟨false, xs, hi, h1⟩
    refine ⟨r.sub, r.base, r.keep, r.iob, r.gnew, by rw [List.length_set]; exact r.len, fun j s h => ?_, fun p hp => ?_, fun j k b o1 o2 => r.nd1 j k b (un o1).2 (un o2).2, fun j b o p hp => ?_, List.pairwise_cons.mpr ⟨fun p hp b h2 h3 => ?_, r.nd3⟩, fun j ys h => (by
      by_cases hj : i = j
      · subst hj; rw [List.getElem?_set_self hlt] at h; cases h
      · rw [List.getElem?_set_ne hj] at h; exact r.iop j ys h), fun z hz xs => (by
      rcases List.mem_cons.mp hz with rfl | hz
      · exact fun z => by cases z
      · exact r.tmo z hz xs)⟩
    · by_cases hj : i = j
      · subst hj; rw [List.getElem?_set_self hlt] at h; cases h
      · rw [List.getElem?_set_ne hj] at h; exact r.slot j s h
    · rcases List.mem_cons.mp hp with rfl | hp
      · exact ⟨a, vs, rfl, q1, q2, q3, q4, q5⟩
      · exact r.tmp p hp
    · rcases List.mem_cons.mp hp with rfl | hp
      · intro z; cases z
        exact (un o).1 (r.nd1 _ _ _ (un o).2 own)
      · exact r.nd2 j b (un o).2 p hp
    · cases h2
      exact r.nd2 i _ own p hp h3
  obtain ⟨G', g, r2⟩ := r1.frz
  refine ⟨G', .ref a, h1, g, ?_⟩
  have un : ∀ {j : Nat} {b : Addr}, OwnAt (e.set i (some (.val (.list xs)))) σ j b → OwnAt (e.set i none) σ j b := fun {j b} ⟨io, ys, z1, z2⟩ => by
    by_cases hj : i = j
    · subst hj; rw [List.getElem?_set_self hlt] at z1; cases z1
    · rw [List.getElem?_set_ne hj] at z1; exact ⟨io, ys, by rw [List.getElem?_set_ne hj]; exact z1, z2⟩
  refine ⟨r2.sub, r2.base, r2.keep, r2.iob, r2.gnew, by have := r2.len; rw [List.length_set] at this ⊢; exact this, fun j s h => ?_, r2.tmp, fun j k b o1 o2 => r2.nd1 j k b (un o1) (un o2), fun j b o => r2.nd2 j b (un o), r2.nd3, fun j ys h => (by
    by_cases hj : i = j
    · subst hj; rw [List.getElem?_set_self hlt] at h; cases h
    · rw [List.getElem?_set_ne hj] at h; exact r2.iop j ys (by rw [List.getElem?_set_ne hj]; exact h)), r2.tmo⟩
  by_cases hj : i = j
  · subst hj; rw [List.getElem?_set_self hlt] at h; cases h
    exact ⟨_, h1, r2.tmp _ List.mem_cons_self⟩
  · rw [List.getElem?_set_ne hj] at h
    exact r2.slot j s (by rw [List.getElem?_set_ne hj]; exact h)
/-- a name gets what is pending -/
theorem R.store {i : Nat} {s : Slot} {v : V} (r : R K N G H e σ ((s, v) :: tm)) (hi : i < e.length) : R K N G H (e.set i (some s)) (σ.set i (some v)) tm := by
  have hs : i < σ.length := by rw [← r.len]; exact hi
  have nd := List.pairwise_cons.mp r.nd3
  have un : ∀ {j : Nat} {b : Addr}, OwnAt (e.set i (some s)) (σ.set i (some v)) j b → (j = i ∧ ownA (s, v) = some b) ∨ (j ≠ i ∧ OwnAt e σ j b) := fun {j b} ⟨io, ys, z1, z2⟩ => by
    by_cases hj : i = j
    · subst hj; rw [List.getElem?_set_self hi] at z1; rw [List.getElem?_set_self hs] at z2; cases z1; cases z2; exact .inl ⟨rfl, rfl⟩
    · rw [List.getElem?_set_ne hj] at z1 z2; exact .inr ⟨fun z => hj z.symm, io, ys, z1, z2⟩
  refine ⟨r.sub, r.base, r.keep, r.iob, r.gnew, by rw [List.length_set, List.length_set]; exact r.len, fun j t h => ?_, fun p hp => r.tmp p (List.mem_cons_of_mem _ hp), fun j k b o1 o2 => ?_, fun j b o p hp => ?_, nd.2, fun j ys h => (by
    by_cases hj : i = j
    · subst hj; rw [List.getElem?_set_self hi] at h; cases h; exact absurd rfl (r.tmo _ List.mem_cons_self ys)
    · rw [List.getElem?_set_ne hj] at h ⊢; exact r.iop j ys h), fun z hz => r.tmo z (List.mem_cons_of_mem _ hz)⟩
  · by_cases hj : i = j
    · subst hj; rw [List.getElem?_set_self hi] at h; cases h
      exact ⟨v, List.getElem?_set_self hs, r.tmp _ List.mem_cons_self⟩
    · rw [List.getElem?_set_ne hj] at h ⊢; exact r.slot j t h
  · rcases un o1 with ⟨rfl, z1⟩ | ⟨n1, z1⟩ <;> rcases un o2 with ⟨rfl, z2⟩ | ⟨n2, z2⟩
    · rfl
    · exact absurd z1 (r.nd2 _ _ z2 _ List.mem_cons_self)
    · exact absurd z2 (r.nd2 _ _ z1 _ List.mem_cons_self)
    · exact r.nd1 _ _ _ z1 z2
  · rcases un o with ⟨rfl, z1⟩ | ⟨n1, z1⟩
    · exact nd.1 p hp b z1
    · exact r.nd2 _ _ z1 p (List.mem_cons_of_mem _ hp)
/-- a list of one's own is written -/
theorem R.write {i : Nat} {io : Bool} {xs ys : List W} {a : Addr} {us : List V} (r : R K N G H e σ tm) (hi : e[i]? = some (some (.own io xs))) (ha : σ[i]? = some (some (.ref a))) (h : DvAll K G us ys) :
    R K N G (upd H a (.lst us)) (e.set i (some (.own io ys))) σ tm := by
  have own : OwnAt e σ i a := ⟨io, xs, hi, ha⟩
  have hlt : i < e.length := (List.getElem?_eq_some_iff.mp hi).1
  obtain ⟨v, h1, a', vs, rfl, q1, q2, q3, q4, q5⟩ := r.slot i _ hi
  rw [ha] at h1; cases h1
  have un : ∀ {j : Nat} {b : Addr}, OwnAt (e.set i (some (.own io ys))) σ j b → OwnAt e σ j b := fun {j b} ⟨jo, zs, z1, z2⟩ => by
    by_cases hj : i = j
    · subst hj; rw [List.getElem?_set_self hlt] at z1; cases z1; exact ⟨io, xs, hi, z2⟩
    · rw [List.getElem?_set_ne hj] at z1; exact ⟨jo, zs, z1, z2⟩
  have ow : ∀ {s : Slot} {v : V}, SlotR K N G H s v → ownA (s, v) ≠ some a → SlotR K N G (upd H a (.lst us)) s v := fun {s v} h hn => by
    refine h.mono (Same.refl _) fun b z => ?_
    cases s with
    | val w => cases z
    | own jo zs =>
      obtain ⟨a', vs', rfl, z1, _⟩ := h
      cases z
      exact ⟨z1, upd_ne fun z => hn (by rw [z]; rfl)⟩
  refine ⟨fun b o hb => ?_, r.base, fun b o h0 hb => ?_, fun b hb => ?_, r.gnew, by rw [List.length_set]; exact r.len, fun j s hj => ?_, fun p hp => ow (r.tmp p hp) (r.nd2 i a own p hp), fun j k b o1 o2 => r.nd1 j k b (un o1) (un o2), fun j b o => r.nd2 j b (un o), r.nd3, fun j zs h => (by
    by_cases hj : i = j
    · subst hj; rw [List.getElem?_set_self hlt] at h; cases h; exact r.iop i xs hi
    · rw [List.getElem?_set_ne hj] at h; exact r.iop j zs h), r.tmo⟩
  · have : b ≠ a := fun z => by rw [z, q1] at hb; cases hb
    rw [upd_ne this]; exact r.sub _ _ hb
  · have : b ≠ a := fun z => by
      subst z
      cases io with
      | true => exact hb (q4 rfl)
      | false => rw [q5 rfl] at h0; cases h0
    rw [upd_ne this]; exact r.keep b o h0 hb
  · by_cases hba : b = a
    · rw [hba, upd_same]; simp
    · rw [upd_ne hba]; exact r.iob b hb
  · by_cases hij : i = j
    · subst hij; rw [List.getElem?_set_self hlt] at hj; cases hj
      exact ⟨_, ha, a, us, rfl, q1, upd_same, h, q4, q5⟩
    · rw [List.getElem?_set_ne hij] at hj
      obtain ⟨v, z1, z2⟩ := r.slot j s hj
      refine ⟨v, z1, ow z2 fun z => ?_⟩
      cases s with
      | val w => cases z
      | own jo zs =>
        cases v with
        | ref b => cases z; exact hij (r.nd1 i j a own ⟨jo, zs, hj, z1⟩)
        | _ => cases z
end
end D

namespace D
open PySem L2 PyProof.Rows

/-! ## operations on values, as the machine does them -/
/-- a value that is read: frozen, or a list of one's own as it stands -/
def Bv (K : PySem.W.Frag) (G H : Hp) (v : V) (w : W) : Prop := Dv K G v w ∨ ∃ a vs xs, v = .ref a ∧ w = .list xs ∧ H a = some (.lst vs) ∧ DvAll K G vs xs
def OP (K : PySem.W.Frag) (G H : Hp) (rv : RV) (v : V) (H' : Hp) : Prop := match rv with
  | .s (.val w) => (H' = H ∧ Dv K G v w) ∨ (∃ p o, v = .ref p ∧ H p = none ∧ H' = upd H p o ∧ Dv K (upd G p o) v w)
  | .s (.own false xs) => ∃ p vs, v = .ref p ∧ H p = none ∧ H' = upd H p (.lst vs) ∧ DvAll K G vs xs
  | _ => False
section
variable {K : PySem.W.Frag} {G H : Hp} {v : V} {w : W}
theorem Bv.dv (h : Bv K G H v w) (g : Same G H) : Dv K H v w := by
  rcases h with h | ⟨a, vs, xs, rfl, rfl, h1, h2⟩
  · exact h.mono g
  · exact .lst (.inl (.inl h1)) (h2.mono g)
theorem Bv.int {i : Int} (h : Bv K G H v (.int i)) : v = .int i := by
  rcases h with h | ⟨a, vs, xs, rfl, e, _⟩
  · cases h; rfl
  · cases e
theorem Bv.str {i : Str} (h : Bv K G H v (.str i)) : v = .str i := by
  rcases h with h | ⟨a, vs, xs, rfl, e, _⟩
  · cases h; rfl
  · cases e
theorem Bv.bool {i : Bool} (h : Bv K G H v (.bool i)) : v = .bl i := by
  rcases h with h | ⟨a, vs, xs, rfl, e, _⟩
  · cases h; rfl
  · cases e
theorem Bv.none (h : Bv K G H v .none) : v = .non := by
  rcases h with h | ⟨a, vs, xs, rfl, e, _⟩
  · cases h; rfl
  · cases e
theorem Bv.list {xs : List W} (h : Bv K G H v (.list xs)) (g : Same G H) : ∃ a vs, v = .ref a ∧ RdK K H a vs ∧ DvAll K G vs xs := by
  rcases h with h | ⟨a, vs, ys, rfl, e, h1, h2⟩
  · cases h with
    | lst q r => exact ⟨_, _, rfl, rdk_mono g q, r⟩
  · cases e; exact ⟨a, vs, rfl, .inl (.inl h1), h2⟩
theorem Bv.tuple {xs : List W} (h : Bv K G H v (.tuple xs)) (g : Same G H) : ∃ a vs, v = .ref a ∧ SqT K H a vs ∧ SqT K G a vs ∧ DvAll K G vs xs := by
  rcases h with h | ⟨a, vs, ys, rfl, e, h1, h2⟩
  · cases h with
    | tup q r => exact ⟨_, _, rfl, sqt_mono g q, q, r⟩
  · cases e
end
theorem R.post {K : PySem.W.Frag} {N : En} {G H H' : Hp} {e : SEnv} {σ : L2.St} {tm : Tm} {x : Slot} {v : V} (r : R K N G H e σ tm) (h : OP K G H (.s x) v H') : ∃ G', Same G G' ∧ R K N G' H' e σ ((x, v) :: tm) := by
  cases x with
  | val w =>
    rcases h with ⟨rfl, h⟩ | ⟨p, o, rfl, hp, rfl, h⟩
    · exact ⟨G, Same.refl _, r.push h⟩
    · exact ⟨upd G p o, same_upd (r.gn hp) o, (r.newG hp o).push h⟩
  | own io xs =>
    cases io with
    | true => exact h.elim
    | false =>
      obtain ⟨p, vs, rfl, hp, rfl, h⟩ := h
      exact ⟨G, Same.refl _, r.newL hp h⟩

section
variable {X : Cx} {pins : List (Addr × Obj)} {σ : L2.St} {H : Hp} {s : Shared}
theorem lstR (I : Inv X pins σ H s) {l : Addr} {xs : List V} (h : RdK X.K H l xs) : xs.length ≤ sizeLine ∧ ∃ (its : List Value) (n : Nat), Vals xs its ∧ xs.length = its.length ∧ s.heap.get? l = some { cls := .type "list", data := .seq its.toArray n } := by
  rcases h with h | ⟨its, n, h1, h2, h3⟩
  · obtain ⟨z, its, n, r, e⟩ := h.ok I.hok
    exact ⟨z, its, n, r, r.length, e⟩
  · exact ⟨h3, its, n, h2, h2.length, I.kIn _ _ h1⟩
end
section
variable {X : Cx}
/-- list + list, read -/
theorem op_catR : OpR X (binaryOp .Add) (fun x y H Q => ∃ l b xs zs, x = .ref l ∧ y = .ref b ∧ RdK X.K H l xs ∧ RdK X.K H b zs ∧ xs.length + zs.length ≤ sizeLine ∧ ∀ p, H p = none → Q (.ref p) (upd H p (.lst (xs ++ zs)))) := by
  intro pins s σ H x y v u Q I rx ry h
  obtain ⟨l, b, xs, zs, rfl, rfl, hH, hB, hz, q⟩ := h
  cases rx
  cases ry
  obtain ⟨z, its, n, r, hl, e⟩ := lstR I hH
  obtain ⟨z2, its2, n2, r2, hl2, e2⟩ := lstR I hB
  refine PySem.P.add_list e e2 ?_ (by rw [List.size_toArray, List.size_toArray]; omega)
  have ea : its.toArray ++ its2.toArray = (its ++ its2).toArray := by simp
  rw [ea]
  exact ⟨.ref _, _, I.lnew (t' := s.toks) (r.append r2) (by rw [List.length_append]; omega), rfl, q _ I.fresh⟩
/-- list * int, read -/
theorem op_repR : OpR X (binaryOp .Mult) (fun x y H Q => ∃ l k xs, x = .ref l ∧ y = .int k ∧ RdK X.K H l xs ∧ -(2 ^ 63) ≤ k ∧ k < 2 ^ 63 ∧ xs.length * k.toNat ≤ sizeLine ∧
    ∀ p, H p = none → Q (.ref p) (upd H p (.lst (List.replicate k.toNat xs).flatten))) := by
  intro pins s σ H x y v u Q I rx ry h
  obtain ⟨l, k, xs, rfl, rfl, hH, h1, h2, hz, q⟩ := h
  cases rx
  obtain ⟨t, rfl⟩ := ry
  obtain ⟨z, its, n, r, hl, e⟩ := lstR I hH
  have hlen : its.toArray.size * k.toNat ≤ sizeLine := by rw [List.size_toArray, ← hl]; exact hz
  have hcap : ¬ its.toArray.size * k.toNat > (2 ^ 63 - 1) / 8 := by
    have : (sizeLine : Nat) ≤ (2 ^ 63 - 1) / 8 := by decide
    omega
  have hfit : ¬ (!Builtin.List.listFitsIndex k) = true := by
    rw [fitsIndex_both h1 h2]
    exact Bool.false_ne_true
  have hlong : ¬ Builtin.List.listTooLong (its.toArray.size * k.toNat) = true := by
    rw [notLongL hlen]
    exact Bool.false_ne_true
  have hnew : List.foldl (fun x1 x2 => x1 ++ x2) #[] (List.replicate (if its.toArray.isEmpty = true then 0 else k.toNat) its.toArray) = (List.replicate k.toNat its).flatten.toArray := by
    have f0 : ∀ m : Nat, List.foldl (fun x1 x2 => x1 ++ x2) #[] (List.replicate m its.toArray) = (List.replicate m its).flatten.toArray := fun m => by
      have := foldl_rep its m []
      rw [List.nil_append] at this
      exact this
    rw [f0]
    cases its with
    | nil => simp
    | cons a r' => rw [if_neg (by simp)]
  refine wpAny_binaryOp_repeat_ref (T := "list") (U := "int") (by decide) ⟨_, e, rfl⟩ (fun s' => typeIs_int s' k t) noFill_list_mul F.fills_int_mul F.slot_int_rmul repeat_list F.slot_int_index.lookup
    (call_meets F.slot_int_rmul (typeIs_int s k t) F.entry_int_rmul (F.args_int_rmul_2 _ _) (int___rmul___int_list k t l its.toArray n)
      ⟨e, rfl, ⟨_, e, rfl⟩, call_meets F.slot_list_mul ⟨_, e, rfl⟩ F.entry_list_mul (F.args_list_mul_2 _ _) (AutoListH.list___mul___list_int_3 l its.toArray n k t hfit hcap hlong) ⟨e, ?_⟩⟩)
  rw [hnew]
  exact ⟨.ref _, _, I.lnew (t' := s.toks) (r.rep k.toNat) (by rw [PyProof.Rows.lm_len_rep_flat, Nat.mul_comm]; exact hz), rfl, q _ I.fresh⟩
end
section
open PySem.AutoSeq1 (wpAny_loadPart')
open PySem.MeetsSeq PySem.MeetsSeq2 PySem.MeetsSeq3
theorem tuple_mul_same (l : Addr) (items : Array Value) (n : Nat) (dd : Option Addr) (sl : Array (Option Value)) (x : Int) (u : Tok) (c0 : (decide (x < -(2 ^ 63)) || decide (x ≥ 2 ^ 63)) = false) (c1 : (items.isEmpty || x == 1) = true) :
    Meets (Builtin.«tuple.__mul__» ⟨[.ref l, .int x u], []⟩) (fun _ R s => s.heap.get? l = some { cls := .type "tuple", dict := dd, data := .seq items n, slots := sl } ∧ R (.ok (.ret (Value.ref l))) s) :=
  .of_wp fun prog w A R s h => by
    obtain ⟨hp, g, d, tk, os⟩ := s
    obtain ⟨hl, h⟩ := h
    have f1 := AutoSeq1.idx_int
    wp_walk using wpAny_loadPart' hl
    repeat (first
      | (refine wpAny_ite_false (decide_eq_false (by rw [c0]; exact Bool.false_ne_true)) ?_; wp_walk using wpAny_loadPart' hl)
      | (refine wpAny_ite_true (decide_eq_true c1) ?_; wp_walk using wpAny_loadPart' hl))
    exact ⟨_, rfl, h⟩
theorem tuple_mul_zero (l : Addr) (items : Array Value) (n : Nat) (dd : Option Addr) (sl : Array (Option Value)) (x : Int) (u : Tok) (c0 : (decide (x < -(2 ^ 63)) || decide (x ≥ 2 ^ 63)) = false) (c1 : (items.isEmpty || x == 1) = false) (c2 : (decide (x ≤ 0) || items.isEmpty) = true) :
    Meets (Builtin.«tuple.__mul__» ⟨[.ref l, .int x u], []⟩) (fun _ R s => s.heap.get? l = some { cls := .type "tuple", dict := dd, data := .seq items n, slots := sl } ∧
      R (.ok (.ret (Value.ref s.heap.objs.size))) { s with heap := s.heap.push { cls := Value.type "tuple", data := Data.seq #[] }, toks := s.toks }) :=
  .of_wp fun prog w A R s h => by
    obtain ⟨hp, g, d, tk, os⟩ := s
    obtain ⟨hl, h⟩ := h
    have f1 := AutoSeq1.idx_int
    wp_walk using wpAny_loadPart' hl
    repeat (first
      | (refine wpAny_ite_false (decide_eq_false (by rw [c0]; exact Bool.false_ne_true)) ?_; wp_walk using wpAny_loadPart' hl)
      | (refine wpAny_ite_false (decide_eq_false (by rw [c1]; exact Bool.false_ne_true)) ?_; wp_walk using wpAny_loadPart' hl)
      | (refine wpAny_ite_true (decide_eq_true c2) ?_; wp_walk using wpAny_loadPart' hl))
    exact ⟨_, rfl, h⟩
end
section
variable {X : Cx}
/-- tuple * int, 0 to 1000 -/
theorem op_repT' : OpR X (binaryOp .Mult) (fun x y H Q => ∃ l k xs, x = .ref l ∧ y = .int k ∧ SqT X.K H l xs ∧ 0 ≤ k ∧ k ≤ 1000 ∧ xs.length ≤ 1000 ∧
    ((xs = [] ∨ k = 1) → Q (.ref l) H) ∧ (∀ p, xs ≠ [] → k ≠ 1 → H p = none → Q (.ref p) (upd H p (.tup (List.replicate k.toNat xs).flatten)))) := by
  intro pins s σ H x y v u Q I rx ry h
  obtain ⟨l, k, xs, rfl, rfl, hT, h1, h2, hz, q1, q2⟩ := h
  by_cases h3 : xs ≠ [] ∧ 2 ≤ k
  · exact op_repT pins s σ H _ _ v u Q I rx ry ⟨l, k, xs, rfl, rfl, hT, h3.1, h3.2, h2, hz, fun p hp => q2 p h3.1 (by omega) hp⟩
  · cases rx
    obtain ⟨t, rfl⟩ := ry
    obtain ⟨its, r, ⟨⟨cls, dd, data, sl⟩, ho, hc, n, hd⟩, hs⟩ := I.tuple hT
    simp only at hc hd
    subst hc hd
    have hle : its.length = xs.length := r.length.symm
    have c0 : (decide (k < -(2 ^ 63)) || decide (k ≥ 2 ^ 63)) = false := by
      rw [decide_eq_false (by omega), decide_eq_false (by omega)] <;> rfl
    have hemp : its.toArray.isEmpty = xs.isEmpty := by cases r <;> rfl
    by_cases h4 : xs = [] ∨ k = 1
    · have c1 : (its.toArray.isEmpty || k == 1) = true := by
        rw [hemp]
        rcases h4 with rfl | rfl
        · rfl
        · simp
      exact wpAny_binaryOp_repeat_ref (T := "tuple") (U := "int") (by decide) ⟨_, ho, rfl⟩ (fun s' => typeIs_int s' k t) noFill_tuple_mul F.fills_int_mul F.slot_int_rmul repeat_tuple F.slot_int_index.lookup
        (call_meets F.slot_int_rmul (typeIs_int s k t) F.entry_int_rmul (F.args_int_rmul_2 _ _) (int_rmul_tuple k t l its.toArray n dd sl)
          ⟨ho, rfl, ⟨_, ho, rfl⟩, call_meets F.slot_tuple_mul ⟨_, ho, rfl⟩ F.entry_tuple_mul (F.args_tuple_mul_2 _ _) (tuple_mul_same l its.toArray n dd sl k t c0 c1) ⟨ho, ⟨.ref l, H, I, rfl, q1 h4⟩⟩⟩)
    · have hne : xs ≠ [] := fun z => h4 (.inl z)
      have hk : k = 0 := by
        have : k ≠ 1 := fun z => h4 (.inr z)
        have : ¬ 2 ≤ k := fun z => h3 ⟨hne, z⟩
        omega
      subst hk
      have hemp' : its.toArray.isEmpty = false := by
        rw [hemp]
        cases xs with
        | nil => exact absurd rfl hne
        | cons _ _ => rfl
      refine wpAny_binaryOp_repeat_ref (T := "tuple") (U := "int") (by decide) ⟨_, ho, rfl⟩ (fun s' => typeIs_int s' 0 t) noFill_tuple_mul F.fills_int_mul F.slot_int_rmul repeat_tuple F.slot_int_index.lookup
        (call_meets F.slot_int_rmul (typeIs_int s 0 t) F.entry_int_rmul (F.args_int_rmul_2 _ _) (int_rmul_tuple 0 t l its.toArray n dd sl)
          ⟨ho, rfl, ⟨_, ho, rfl⟩, call_meets F.slot_tuple_mul ⟨_, ho, rfl⟩ F.entry_tuple_mul (F.args_tuple_mul_2 _ _) (tuple_mul_zero l its.toArray n dd sl 0 t c0 (by rw [hemp']; rfl) (by rw [hemp']; rfl)) ⟨ho, ?_⟩⟩)
      refine ⟨.ref s.heap.objs.size, _, I.laid (t' := s.toks) (o := .tup (List.replicate (0 : Int).toNat xs).flatten) (fun b ob q => Heap.get?_push_of_some _ q) (Nat.le_refl _) ?_, rfl, q2 _ hne (by decide) (I.hok.fresh (Nat.le_refl _))⟩
      exact ⟨by show 0 ≤ sizeLine; decide, [], .nil, IsTup.new _ _⟩
def rBin (K : PySem.W.Frag) (op : Operator) : R2 := fun x y H Q => ∃ G wx wy rv, Same G H ∧ Bv K G H x wx ∧ Bv K G H y wy ∧ binop op wx wy = some rv ∧ ∀ v H', OP K G H rv v H' → Q v H'
theorem mulOk_ok {i j : Int} (h : mulOk i j = true) : CMul i j := by
  unfold mulOk at h
  simp only [Bool.or_eq_true, Bool.and_eq_true, decide_eq_true_eq] at h
  exact h
set_option maxHeartbeats 4000000 in
theorem op_bin (op : Operator) : OpR X (binaryOp op) (rBin X.K op) := by
  intro pins s σ H x y v u Q I rx ry h
  obtain ⟨G, wx, wy, rv, g, bx, bY, hb, q⟩ := h
  unfold binop at hb
  split at hb
  · cases hb; rw [bx.int] at rx; rw [bY.int] at ry
    exact op_add pins s σ H _ _ v u Q I rx ry ⟨_, _, rfl, rfl, q _ _ (.inl ⟨rfl, .int _⟩)⟩
  · cases hb; rw [bx.int] at rx; rw [bY.int] at ry
    exact op_sub pins s σ H _ _ v u Q I rx ry ⟨_, _, rfl, rfl, q _ _ (.inl ⟨rfl, .int _⟩)⟩
  · split at hb
    · rename_i hm
      cases hb; rw [bx.int] at rx; rw [bY.int] at ry
      exact op_mul pins s σ H _ _ v u Q I rx ry ⟨_, _, rfl, rfl, mulOk_ok hm, q _ _ (.inl ⟨rfl, .int _⟩)⟩
    · cases hb
  · split at hb
    · rename_i hm
      cases hb; rw [bx.int] at rx; rw [bY.int] at ry
      simp only [Bool.and_eq_true, decide_eq_true_eq] at hm
      exact op_fdiv pins s σ H _ _ v u Q I rx ry ⟨_, _, rfl, rfl, hm, q _ _ (.inl ⟨rfl, .int _⟩)⟩
    · cases hb
  · split at hb
    · rename_i hm
      cases hb; rw [bx.int] at rx; rw [bY.int] at ry
      simp only [decide_eq_true_eq] at hm
      exact op_mod pins s σ H _ _ v u Q I rx ry ⟨_, _, rfl, rfl, hm, q _ _ (.inl ⟨rfl, .int _⟩)⟩
    · cases hb
  · split at hb
    · rename_i hm
      cases hb; rw [bx.int] at rx; rw [bY.int] at ry
      simp only [Bool.and_eq_true, decide_eq_true_eq] at hm
      exact op_pow pins s σ H _ _ v u Q I rx ry ⟨_, _, rfl, rfl, ⟨hm.1.1, hm.1.2, hm.2⟩, q _ _ (.inl ⟨rfl, .int _⟩)⟩
    · cases hb
  · split at hb
    · rename_i hm
      cases hb
      obtain ⟨a, vs, rfl, s1, s1', d1⟩ := bx.tuple g
      obtain ⟨b, us, rfl, s2, s2', d2⟩ := bY.tuple g
      have hm : _ ≤ sizeLine := of_decide_eq_true hm
      refine op_catA pins s σ H _ _ v u Q I rx ry ⟨a, b, vs, us, rfl, rfl, s1, s2, by rw [d1.length, d2.length]; exact hm, fun z => ?_, fun _ z => ?_, fun _ _ p hp => ?_⟩
      · subst z; cases d1; exact q _ _ (.inl ⟨rfl, .tup s2' d2⟩)
      · subst z; cases d2; rw [List.append_nil] at q; exact q _ _ (.inl ⟨rfl, .tup s1' d1⟩)
      · have gp : G p = none := by
          cases z : G p with
          | none => rfl
          | some o => have := g _ _ z; rw [hp] at this; cases this
        exact q _ _ (.inr ⟨p, _, rfl, hp, rfl, .tup (SqT.of upd_same) ((d1.append d2).mono (same_upd gp _))⟩)
    · cases hb
  · split at hb
    · rename_i hm
      cases hb
      obtain ⟨a, vs, rfl, s1, d1⟩ := bx.list g
      obtain ⟨b, us, rfl, s2, d2⟩ := bY.list g
      have hm : _ ≤ sizeLine := of_decide_eq_true hm
      exact op_catR pins s σ H _ _ v u Q I rx ry ⟨a, b, vs, us, rfl, rfl, s1, s2, by rw [d1.length, d2.length]; exact hm, fun p hp => q _ _ ⟨p, _, rfl, hp, rfl, d1.append d2⟩⟩
    · cases hb
  · split at hb
    · rename_i hm
      cases hb; rw [bx.str] at rx; rw [bY.str] at ry
      have hm : _ ≤ sizeLine := of_decide_eq_true hm
      exact op_add_str pins s σ H _ _ v u Q I rx ry ⟨_, _, rfl, rfl, hm, q _ _ (.inl ⟨rfl, .str _⟩)⟩
    · cases hb
  · split at hb
    · rename_i hm
      cases hb
      simp only [Bool.and_eq_true, decide_eq_true_eq] at hm
      obtain ⟨a, vs, rfl, s1, s1', d1⟩ := bx.tuple g
      rw [bY.int] at ry
      refine op_repT' pins s σ H _ _ v u Q I rx ry ⟨a, _, vs, rfl, rfl, s1, hm.1.1, hm.1.2, by rw [d1.length]; exact hm.2, fun z => ?_, fun p h1 h2 hp => ?_⟩
      · refine q _ _ (.inl ⟨rfl, ?_⟩)
        rcases z with rfl | rfl
        · cases d1
          simp only [List.flatten_replicate_nil]
          exact .tup s1' .nil
        · simpa using Dv.tup s1' d1
      · have gp : G p = none := by
          cases z : G p with
          | none => rfl
          | some o => have := g _ _ z; rw [hp] at this; cases this
        exact q _ _ (.inr ⟨p, _, rfl, hp, rfl, .tup (SqT.of upd_same) ((d1.rep _).mono (same_upd gp _))⟩)
    · cases hb
  · split at hb
    · rename_i hm
      cases hb
      simp only [Bool.and_eq_true, decide_eq_true_eq] at hm
      obtain ⟨a, vs, rfl, s1, d1⟩ := bx.list g
      rw [bY.int] at ry
      refine op_repR pins s σ H _ _ v u Q I rx ry ⟨a, _, vs, rfl, rfl, s1, by omega, by omega, ?_, fun p hp => q _ _ ⟨p, _, rfl, hp, rfl, d1.rep _⟩⟩
      rw [d1.length, sizeLine_eq]
      refine Nat.le_trans (Nat.mul_le_mul hm.2 (?_ : _ ≤ 1000)) (by decide)
      have := hm.1.2
      omega
    · cases hb
  · cases hb
end
end D

/-! rules that the hand layer lacks: < of alike data, sorted of lists and tuples of such -/
namespace D
open PySem L2 PyProof.Rows
section
variable {prog : Program} {w : World} {A : Around} {E : Value → Shared → Prop} {s : Shared}
theorem collect_tup {l : Addr} {vs : List Value} {Q : List Value → Shared → Prop} (hl : IsTup s.heap l vs.toArray)
    (h : Q vs { s with heap := (s.heap.push (seqObj "list" #[] 0)).update s.heap.objs.size (Obj.mapSeq (· ++ vs.toArray)) }) (hsz : vs.length ≤ sizeLine) :
    wpAny (model prog w) A (collect (.ref l)) Q E s := by
  obtain ⟨o, ho, hc, n, hd⟩ := id hl
  unfold collect
  refine wpAny_bind (wpAny_runValue (codeAny_builtin entry_proto_collect' ?_))
  show wpAny _ _ (do again (.builtin "list.__iadd__" ⟨[← newList [], .ref l], []⟩)) _ _ s
  refine wpAny_bind (wpAny_newList (wpAny_pure ⟨Code.quiet_builtin _ (by decide +kernel), codeAny_builtin entry_list_iadd' ?_⟩))
  show wpAny _ _ (Builtin.List.listExtendWith (.ref s.heap.objs.size) (.ref l) (.ref s.heap.objs.size)) _ _ { s with heap := s.heap.push (seqObj "list" #[] 0) }
  unfold Builtin.List.listExtendWith
  have ho' : (s.heap.push (seqObj "list" #[] 0)).get? l = some o := Heap.get?_push_of_some _ ho
  refine wpAny_bind (wpAny_typeOf (T := "tuple") ⟨o, ho', hc⟩ ?_)
  have ht : (Value.type "tuple" == Value.type "tuple") = true := by rfl
  rw [if_pos (by rw [ht]; simp)]
  refine wpAny_bind (listItems_at ho' hd ?_)
  refine wpAny_bind (listItems_at (xs := #[]) (n := 0) (Heap.get?_push_size _ rfl) rfl ?_)
  rw [if_neg (by simp)]
  refine wpAny_bind (listUpdate_at (xs := #[]) (n := 0) (Heap.get?_push_size _ rfl) rfl ?_ (Nat.zero_le _) (by show (#[] ++ vs.toArray).size ≤ sizeLine + 1; simp only [Array.size_append, List.size_toArray, List.length_nil]; omega))
  refine wpAny_pure ?_
  show wpAny (model prog w) A (do
      let o ← load s.heap.objs.size
      match o.data with
      | .seq xs _ => pure xs.toList
      | _ => unsupported "internal:collect") Q E { s with heap := (s.heap.push (seqObj "list" #[] 0)).update s.heap.objs.size (Obj.mapSeq (· ++ vs.toArray)) }
  refine wpAny_bind (wpAny_load (get?_update_seq (Heap.get?_push_size _ rfl) _) ?_)
  show wpAny _ _ (pure ((#[] : Array Value) ++ vs.toArray).toList) Q E _
  rw [show ((#[] : Array Value) ++ vs.toArray).toList = vs by simp]
  exact wpAny_pure h
/-- sorted(t) of a tuple -/
theorem sorted_tupV {κ : KeyKind} {l : Addr} {vs : List Value} {Q : Value → Shared → Prop} (hl : IsTup s.heap l vs.toArray) (S : PySem.W.SortsAt prog w A.in1.in1 { s with heap := PySem.W.sortingHeap (PySem.W.copyHeap s.heap vs) (s.heap.objs.size + 1) vs } κ vs) (hL : vs.length ≤ sizeLine)
    (h : Q (.ref (s.heap.objs.size + 1)) { s with heap := sortedAll s.heap vs (PySem.W.sortVals κ false vs vs).toArray }) : wpAny (model prog w) A (call (.builtin "sorted") [.ref l]) Q E s := by
  refine Calls.call_function_entry kind_sorted plain_sorted entry_sorted (args_sorted1 _) ?_
  unfold Builtin.«sorted»
  refine wpAny_bind (m := checkCount "sorted" 1 1 _) (wpAny_pure ?_)
  refine wpAny_bind (collect_tup hl ?_ hL)
  refine wpAny_bind (wpAny_newList ?_ hL)
  have hsz : ((s.heap.push (seqObj "list" #[] 0)).update s.heap.objs.size (Obj.mapSeq (· ++ vs.toArray))).objs.size = s.heap.objs.size + 1 := by
    rw [Heap.size_update, size_push']
  show wpAny _ _ _ _ _ { s with heap := PySem.W.copyHeap s.heap vs }
  rw [hsz]
  refine wpAny_bind (wpAny_holding (wpAny_call_entry slot_list_sort ⟨_, PySem.W.copyHeap_at s.heap vs, rfl⟩ entry_list_sort ?body (args_list_sort _)))
  case body =>
    show wpAny (model prog w) A.in1.in1 (Builtin.«list.sort» ⟨[.ref (s.heap.objs.size + 1)], []⟩) _ _ _
    refine wpAny_mono (PySem.W.list_sort_vals (s := { s with heap := PySem.W.copyHeap s.heap vs }) (P := fun f s' => f = .done (.ret .none) ∧ Q (.ref (s.heap.objs.size + 1)) s') (PySem.W.copyHeap_at s.heap vs) S hL ⟨rfl, h⟩) (fun f s' hf => ?_) fun _ _ e => e
    obtain ⟨rfl, hq⟩ := hf
    exact ⟨_, rfl, wpAny_pure ⟨_, rfl, hq⟩⟩
end
end D

/-! x[k::-1] and x[::-1], lists and tuples -/
namespace D
open PySem L2 PyProof.Rows
/-- a bound as it stands in the text -/
def upI : Option Nat → Option Int
  | none => none
  | some i => some (i : Int)
theorem revL_len {α : Type} (xs : List α) (k : Option Nat) : (revL xs k).length ≤ xs.length := by
  unfold revL
  rw [List.length_reverse, List.length_take]
  omega
theorem fm_same {α β : Type} {f g : α → Option β} : ∀ l : List α, (∀ j ∈ l, f j = g j) → l.filterMap f = l.filterMap g
  | [], _ => rfl
  | a :: l, h => by
    rw [List.filterMap_cons, List.filterMap_cons, h a List.mem_cons_self, fm_same l fun j hj => h j (List.mem_cons_of_mem _ hj)]
theorem rev_run {α : Type} (xs : Array α) (m : Nat) : ((List.range m).reverse).filterMap (xs[·]?) = (xs.toList.take m).reverse := by
  rw [List.filterMap_reverse]
  have q := pick_run xs 0 m
  rw [show ((0 + ·) : Nat → Nat) = id from funext Nat.zero_add, List.map_id, List.drop_zero] at q
  rw [q]
theorem rev_bounds (n : Nat) (k : Option Nat) : sliceBounds (upI k) none (some (-1)) n = (((revN n k : Nat) : Int) - 1, -1, -1) := by
  cases k with
  | none => exact PySem.W.krv_bounds n
  | some i =>
    show ((let j : Int := if (i : Int) < 0 then (i : Int) + n else i; if (-1 : Int) > 0 then max 0 (min j n) else max (-1) (min j ((n : Int) - 1))), (-1 : Int), (-1 : Int)) = _
    have a : ¬ ((i : Int) < 0) := by omega
    have b : ¬ ((-1 : Int) > 0) := by decide
    simp only [a, b, if_false, revN]
    refine Prod.ext ?_ rfl
    show max (-1) (min (i : Int) ((n : Int) - 1)) = ((min (i + 1) n : Nat) : Int) - 1
    omega
theorem rev_pick (xs : Array Value) (k : Option Nat) : slicePick xs (upI k) none (some (-1)) = (revL xs.toList k).toArray := by
  unfold slicePick revL
  rw [rev_bounds]
  show ((sliceRange (((revN xs.size k : Nat) : Int) - 1) (-1) (-1)).filterMap (xs[·]?)).toArray = _
  rw [PySem.W.krv_sliceRange, PySem.W.krv_range, rev_run, Array.length_toList]
section
variable {prog : Program} {w : World} {A : Around} {E : Value → Shared → Prop} {s : Shared}
theorem rev_adjust (n : Nat) (k : Option Nat) : Builtin.Slice.sliceAdjust (upI k) none (-1) (n : Int) = (((revN n k : Nat) : Int) - 1, -1) := by
  unfold Builtin.Slice.sliceAdjust
  have a : (-1 : Int) < 0 := by decide
  simp only [a, if_true]
  refine Prod.ext ?_ rfl
  cases k with
  | none => rfl
  | some i =>
    have b : ¬ ((i : Int) < 0) := by omega
    simp only [upI, b, if_false, revN]
    omega
theorem rev_places (m : Nat) : Builtin.Slice.slicePlaces ((m : Int) - 1) (-1) (-1) = m := by
  unfold Builtin.Slice.slicePlaces
  have a : ¬ ((-1 : Int) > 0) := by decide
  have b : (- -1 : Int) = 1 := by decide
  simp only [a, if_false, b, Int.ediv_one]
  split <;> omega
theorem rev_applied {sl : Addr} {vl vs : Value} {k : Option Nat} {n : Nat} {Q : Int × Int × Nat → Shared → Prop} (hs : s.heap.IsSliceOf sl vl .none vs) (pl : IsPart vl (upI k)) (ps : IsPart vs (some (-1)))
    (h : Q (((revN n k : Nat) : Int) - 1, -1, revN n k) s) : wpAny (model prog w) A (Builtin.Slice.sliceApplied (.ref sl) (pure (n : Int))) Q E s := by
  obtain ⟨o, g1, g2, g3⟩ := id hs
  unfold Builtin.Slice.sliceApplied Builtin.Slice.sliceFields
  refine wpAny_bind (wpAny_bind (wpAny_field g1 g3 (x := vl) rfl (wpAny_bind ?_)))
  refine wpAny_field g1 g3 (x := .none) rfl (wpAny_bind (wpAny_field g1 g3 (x := vs) rfl (wpAny_pure ?_)))
  refine wpAny_bind (HT.slicePart_ ps ?_)
  show wpAny _ _ (if ((-1 : Int) == 0) = true then _ else _) _ _ s
  rw [if_neg (by decide)]
  refine wpAny_bind (HT.slicePart_ pl ?_)
  refine wpAny_bind (HT.slicePart_ .none (wpAny_bind (wpAny_pure ?_)))
  show wpAny _ _ (match Builtin.Slice.sliceAdjust (upI k) none (-1) (n : Int) with | (x, y) => pure (x, (-1 : Int), Builtin.Slice.slicePlaces x y (-1))) _ _ s
  rw [rev_adjust]
  show wpAny _ _ (pure (((revN n k : Nat) : Int) - 1, (-1 : Int), Builtin.Slice.slicePlaces (((revN n k : Nat) : Int) - 1) (-1) (-1))) _ _ s
  rw [rev_places]
  exact wpAny_pure h
theorem rev_tup {t sl : Addr} {xs : Array Value} {vl vs : Value} {k : Option Nat} {Q : Value → Shared → Prop} (ht : IsTup s.heap t xs) (hs : s.heap.IsSliceOf sl vl .none vs) (pl : IsPart vl (upI k)) (ps : IsPart vs (some (-1)))
    (h : Q (.ref s.heap.objs.size) { s with heap := s.heap.push { cls := .type "tuple", data := .seq (revL xs.toList k).toArray } }) (hz : xs.size ≤ sizeLine) : wpAny (model prog w) A (getItem (.ref t) (.ref sl)) Q E s := by
  have ok : sizeOk (.seq (revL xs.toList k).toArray) := by
    have := revL_len xs.toList k
    have z : xs.toList.length = xs.size := Array.length_toList
    have y : (revL xs.toList k).toArray.size = (revL xs.toList k).length := List.size_toArray
    show (revL xs.toList k).toArray.size ≤ sizeLine
    omega
  obtain ⟨o, g1, g2, _⟩ := id hs
  have g4 : s.TypeIs (.ref sl) "slice" := ⟨o, g1, g2⟩
  unfold getItem
  try with_reducible refine wpAny_holding ?_
  first
    | refine wpAny_bind (wpAny_pure ?_)
    | skip
  refine wpAny_bind (wpAny_sequenceKey ht.typeIs (by decide) (wpAny_bind ?_))
  refine wpAny_callSpecial?_slot (name := Str.ofString "__getitem__") ht.typeIs PyProof.Rows.slot_tuple_getitem ?_
  refine wpAny_call_entry PyProof.Rows.slot_tuple_getitem ht.typeIs entry_tuple_getitem ?_ (args_tuple_getitem _ _)
  show wpAny _ _ (Builtin.Tuple.tupleItemsOf (.ref t) >>= _) _ _ s
  refine wpAny_bind (tupleItemsOf_ ht (wpAny_bind (wpAny_typeOf g4 ?_)))
  rw [if_pos (by decide)]
  refine wpAny_bind (rev_applied hs pl ps ?_)
  show wpAny _ _ (if ((((revN xs.size k : Nat) : Int) - 1) == 0 && (-1 : Int) == 1 && revN xs.size k == xs.size) = true then _ else _) _ _ s
  have no : ((-1 : Int) == 1) = false := by decide
  rw [if_neg (by rw [no, Bool.and_false, Bool.false_and]; decide)]
  have e : ((List.range (revN xs.size k)).filterMap fun (j : Nat) => xs[(((revN xs.size k : Nat) : Int) - 1 + (j : Int) * -1).toNat]?) = revL xs.toList k := by
    unfold revL
    rw [Array.length_toList, ← rev_run, ← PySem.W.krv_range, List.filterMap_map]
    refine fm_same _ ?_
    intro j hj
    have := List.mem_range.mp hj
    have z : (((revN xs.size k : Nat) : Int) - 1 + (j : Int) * -1).toNat = revN xs.size k - 1 - j := by omega
    show xs[_]? = xs[_]?
    rw [z]
  rw [e]
  first
    | exact wpAny_bind (m := Builtin.Tuple.tupleExact _) (wpAny_newObj_type (wpAny_pure ⟨_, rfl, wpAny_pure h⟩) ok)
    | exact wpAny_bind (wpAny_bind (m := Builtin.Tuple.tupleExact _) (wpAny_newObj_type (wpAny_pure (wpAny_pure ⟨_, rfl, wpAny_pure h⟩)) ok))
    | exact wpAny_bind (wpAny_bind (m := Builtin.Tuple.tupleExact _) (wpAny_newObj_type (wpAny_pure ⟨_, rfl, wpAny_pure h⟩) ok))
end
section
variable {X : Cx}
def tRev (K : PySem.W.Frag) (k : Option Nat) (te : TE) : TE := fun σ H Q => te σ H fun x H1 => ∃ a xs, x = .ref a ∧ ((SqL K H1 a xs ∧ ∀ p, H1 p = none → Q (.ref p) (upd H1 p (.lst (revL xs k)))) ∨ SqT K H1 a xs ∧ ∀ p, H1 p = none → Q (.ref p) (upd H1 p (.tup (revL xs k))))
theorem pe_rev {ex : Expr} {te : TE} {lo : Option Expr} {tl : TO} {k : Option Nat} {j : Nat} {p1 p2 p3 pos : Pos} (hx : PE X ex te) (hl : PO X lo tl) (htl : ∀ σ H Q, Q (upI k) H → tl σ H Q) :
    PE X (.Subscript ex (.Slice lo none (some (.UnaryOp .USub (.Constant (.int 1) j p1) p2)) p3) pos) (tRev X.K k te) := by
  refine ⟨fun pins s σ H Q I h => Subscript_ (thn (hx.run pins s σ H _ I h) ?_)⟩
  rintro v s1 ⟨x, H1, I1, r1, a, xs, rfl, q⟩
  cases r1
  have hst : PO X (some (.UnaryOp .USub (.Constant (.int 1) j p1) p2)) (tPart (tUn (rU fun i => .int (-i)) (tC (.int 1)))) := po_some (pe_un un_neg pe_int)
  refine wpAny_Slice (thn (hl.run pins s1 σ H1 (fun o H2 => o = upI k ∧ H2 = H1) I1 (htl _ _ _ ⟨rfl, rfl⟩)) ?_)
  rintro vl s2 ⟨l, H2, I2, pl, rfl, rfl⟩
  refine thn (po_none.run pins s2 σ H2 (fun o H3 => o = none ∧ H3 = H2) I2 ⟨rfl, rfl⟩) ?_
  rintro vu s3 ⟨u, H3, I3, pu, rfl, rfl⟩
  refine thn (hst.run pins s3 σ H3 (fun o H4 => o = some (-1) ∧ H4 = H3) I3 ⟨1, rfl, -1, rfl, rfl, rfl⟩) ?_
  rintro vs s4 ⟨o, H4, I4, ps, rfl, rfl⟩
  cases pu
  have I5 : Inv X pins σ H4 { s4 with heap := s4.heap.push { cls := .type "slice", data := .fields #[vl, .none, vs] } } := I4.kept (t' := s4.toks) fun b ob z => Heap.get?_push_of_some _ z
  show wpAny (model X.prog X.w) X.A (subscriptTail ex (.Slice lo none (some (.UnaryOp .USub (.Constant (.int 1) j p1) p2)) p3) (.ref a) (.ref s4.heap.objs.size)) (EP X pins σ Q) X.xe { s4 with heap := s4.heap.push { cls := .type "slice", data := .fields #[vl, .none, vs] } }
  rcases q with ⟨hs, q⟩ | ⟨hs, q⟩
  · obtain ⟨its, r, ht, hz⟩ := I5.list hs
    have hlen := r.length
    refine tail_any (ops := [.ref a, .ref s4.heap.objs.size]) ht.isList.typeIs (PySem.slot_list_getitem.lookup) ?_ (by with_unfolding_all rfl)
    refine wpAny_getItem_list_slice ht.isList (Heap.IsSliceOf.new _ vl .none vs) pl .none ps (by decide) ?_ (by rw [List.size_toArray]; omega)
    rw [rev_pick]
    refine ⟨.ref _, _, I5.laid (t' := s4.toks) (o := .lst (revL xs k)) (fun b ob z => Heap.get?_push_of_some _ z) (Nat.le_refl _) ?_, rfl, q _ (I5.hok.fresh (Nat.le_refl _))⟩
    have e : revL its.toArray.toList k = (its.take (revN xs.length k)).reverse := by unfold revL; rw [List.toList_toArray, hlen]
    rw [e]
    exact ⟨Nat.le_trans (revL_len xs k) hz, _, 0, (r.take _).reverse, Heap.get?_push_size _ rfl⟩
  · obtain ⟨its, r, ht, hz⟩ := I5.tuple hs
    have hlen := r.length
    refine tail_any (ops := [.ref a, .ref s4.heap.objs.size]) ht.typeIs (PyProof.Rows.slot_tuple_getitem.lookup) ?_ (by with_unfolding_all rfl)
    refine rev_tup ht (Heap.IsSliceOf.new _ vl .none vs) pl ps ?_ (by rw [List.size_toArray]; omega)
    refine ⟨.ref _, _, I5.laid (t' := s4.toks) (o := .tup (revL xs k)) (fun b ob z => Heap.get?_push_of_some _ z) (Nat.le_refl _) ?_, rfl, q _ (I5.hok.fresh (Nat.le_refl _))⟩
    have e : revL its.toArray.toList k = (its.take (revN xs.length k)).reverse := by unfold revL; rw [List.toList_toArray, hlen]
    rw [e]
    exact ⟨Nat.le_trans (revL_len xs k) hz, _, (r.take _).reverse, IsTup.new _ _⟩
end
end D

namespace D
open PySem L2 PyProof.Rows
mutual
theorem okD_lay : ∀ (n : Nat) (x : W), okD n x = true → x.canLay0 = true ∧ x.depth ≤ n
  | _, .none, _ => ⟨by simp [PyData.canLay0], by simp [PyData.depth]⟩
  | _, .bool _, _ => ⟨by simp [PyData.canLay0], by simp [PyData.depth]⟩
  | _, .int _, _ => ⟨by simp [PyData.canLay0], by simp [PyData.depth]⟩
  | _, .str s, h => ⟨by simpa [PyData.canLay0, okD] using h, by simp [PyData.depth]⟩
  | 0, .list _, h => by simp [okD] at h
  | 0, .tuple _, h => by simp [okD] at h
  | 0, .dict _, h => by simp [okD] at h
  | n + 1, .dict _, h => by simp [okD] at h
  | n + 1, .list xs, h => by
    have q := okDs_lay n xs (by simpa [okD] using h)
    exact ⟨by simp [PyData.canLay0, q.1], by simp only [PyData.depth]; omega⟩
  | n + 1, .tuple xs, h => by
    have q := okDs_lay n xs (by simpa [okD] using h)
    exact ⟨by simp [PyData.canLay0, q.1], by simp only [PyData.depth]; omega⟩
theorem okDs_lay : ∀ (n : Nat) (x : List W), okDs n x = true → PyData.canLayAll0 x = true ∧ PyData.depthAll x ≤ n
  | _, [], _ => ⟨by simp [PyData.canLayAll0], by simp [PyData.depthAll]⟩
  | n, x :: xs, h => by
    simp only [okDs, Bool.and_eq_true] at h
    have q1 := okD_lay n x h.1
    have q2 := okDs_lay n xs h.2
    exact ⟨by simp [PyData.canLayAll0, q1.1, q2.1], by simp only [PyData.depthAll]; omega⟩
end
theorem shp_shaped {x : W} (h : shp x = true) : SeqAt.shaped x = true := by
  obtain ⟨a, b⟩ := okD_lay 40 x h
  unfold SeqAt.shaped
  rw [a, Bool.true_and]
  exact decide_eq_true (by omega)
theorem scal_eq {x y : W} (h : scalW x y = true) {K : PySem.W.Frag} {G H : Hp} {v u : V} (bx : Bv K G H v x) (bY : Bv K G H u y) : scal v u = true ∧ decide (v = u) = PyData.eqv x y := by
  cases x <;> cases y <;> simp only [scalW, Bool.false_eq_true] at h
  all_goals first
    | (rw [bx.none, bY.none]; exact ⟨rfl, by simp [PyData.eqv]⟩)
    | (rw [bx.none, bY.int]; exact ⟨rfl, by simp [PyData.eqv]⟩)
    | (rw [bx.none, bY.bool]; exact ⟨rfl, by simp [PyData.eqv]⟩)
    | (rw [bx.none, bY.str]; exact ⟨rfl, by simp [PyData.eqv]⟩)
    | (rw [bx.int, bY.none]; exact ⟨rfl, by simp [PyData.eqv]⟩)
    | (rw [bx.bool, bY.none]; exact ⟨rfl, by simp [PyData.eqv]⟩)
    | (rw [bx.str, bY.none]; exact ⟨rfl, by simp [PyData.eqv]⟩)
    | (rw [bx.int, bY.int]; exact ⟨rfl, by rw [dec_int]; simp [PyData.eqv]⟩)
    | (rw [bx.bool, bY.bool]; exact ⟨rfl, by rw [dec_bl]; simp [PyData.eqv]⟩)
    | (rw [bx.str, bY.str]; exact ⟨rfl, by rw [dec_str]; simp [PyData.eqv]⟩)
    | (rw [bx.int, bY.str]; exact ⟨rfl, by simp [PyData.eqv]⟩)
    | (rw [bx.str, bY.int]; exact ⟨rfl, by simp [PyData.eqv]⟩)
    | (rw [bx.bool, bY.str]; exact ⟨rfl, by simp [PyData.eqv]⟩)
    | (rw [bx.str, bY.bool]; exact ⟨rfl, by simp [PyData.eqv]⟩)
def rCmp (K : PySem.W.Frag) (op : CmpOp) : R2 := fun x y H Q => ∃ G wx wy b, Same G H ∧ Bv K G H x wx ∧ Bv K G H y wy ∧ cmpop op wx wy = some b ∧ Q (.bl b) H
section
variable {X : Cx}
theorem dv_non {K : PySem.W.Frag} {G : Hp} {v : V} {w : W} (h : Dv K G v w) : decide (v = .non) = (match w with | .none => true | _ => false) := by
  cases h <;> simp
theorem op_inT (hu : X.A.units + 65 < cLine) : OpR X (compareOp .In) (fun x y H Q => ∃ d ds, Dp X.K H x d ∧ Dp X.K H y (.tuple ds) ∧ SeqAt.shaped d = true ∧ SeqAt.shaped (.tuple ds) = true ∧ Q (.bl (ds.any fun z => PyData.eqv z d)) H) := by
  intro pins s σ H x y v u Q I rx ry h
  obtain ⟨d, ds, hd, he, sd, se, q⟩ := h
  obtain ⟨as, r1⟩ := Dp.reads I d x v hd rx
  obtain ⟨bs, r2⟩ := Dp.reads I (.tuple ds) y u he ry
  exact SeqAt.in_tuple_reads r2 r1 (SeqAt.canLay_of_shaped se) (SeqAt.canLay_of_shaped sd) (room_in_shaped sd hu) ⟨.bl _, H, I, rfl, q⟩
theorem op_notInT (hu : X.A.units + 65 < cLine) : OpR X (compareOp .NotIn) (fun x y H Q => ∃ d ds, Dp X.K H x d ∧ Dp X.K H y (.tuple ds) ∧ SeqAt.shaped d = true ∧ SeqAt.shaped (.tuple ds) = true ∧ Q (.bl (!ds.any fun z => PyData.eqv z d)) H) := by
  intro pins s σ H x y v u Q I rx ry h
  obtain ⟨d, ds, hd, he, sd, se, q⟩ := h
  obtain ⟨as, r1⟩ := Dp.reads I d x v hd rx
  obtain ⟨bs, r2⟩ := Dp.reads I (.tuple ds) y u he ry
  exact SeqAt.notIn_tuple_reads r2 r1 (SeqAt.canLay_of_shaped se) (SeqAt.canLay_of_shaped sd) (room_in_shaped sd hu) ⟨.bl _, H, I, rfl, q⟩
theorem op_ltA (hu : X.A.units + 65 < cLine) : OpR X (compareOp .Lt) (fun x y H Q => ∃ d e, Dp X.K H x d ∧ Dp X.K H y e ∧ PySem.W.alike d e = true ∧ d ≠ .none ∧ d.depth ≤ 40 ∧ Q (.bl (PySem.W.dataLt d e)) H) := by
  intro pins s σ H x y v u Q I rx ry h
  obtain ⟨d, e, hd, he, ha, hn, hdep, q⟩ := h
  obtain ⟨as, r1⟩ := Dp.reads I d x v hd rx
  obtain ⟨bs, r2⟩ := Dp.reads I e y u he ry
  exact PySem.W.rcLt_alike d e X.A s v u as bs r1 r2 ha hn (by omega) X.prog X.w _ _ ⟨.bl _, H, I, rfl, q⟩
set_option maxHeartbeats 4000000 in
theorem op_cmp (hu : X.A.units + 65 < cLine) (op : CmpOp) : OpR X (compareOp op) (rCmp X.K op) := by
  intro pins s σ H x y v u Q I rx ry h
  obtain ⟨G, wx, wy, b, g, bx, bY, hb, q⟩ := h
  unfold cmpop at hb
  cases op with
  | Eq =>
    simp only at hb
    split at hb
    · rename_i hm
      cases hb
      rcases Bool.or_eq_true_iff.mp hm with hm | hm
      · obtain ⟨h1, h2⟩ := scal_eq hm bx bY
        exact op_eq pins s σ H x y v u Q I rx ry ⟨h1, by rw [h2]; exact q⟩
      · simp only [Bool.and_eq_true] at hm
        exact op_eqD (by omega) pins s σ H x y v u Q I rx ry ⟨_, _, (bx.dv g).dp hm.1, (bY.dv g).dp hm.2, shp_shaped hm.1, shp_shaped hm.2, q⟩
    · cases hb
  | NotEq =>
    simp only at hb
    split at hb
    · rename_i hm
      cases hb
      rcases Bool.or_eq_true_iff.mp hm with hm | hm
      · obtain ⟨h1, h2⟩ := scal_eq hm bx bY
        exact op_ne pins s σ H x y v u Q I rx ry ⟨h1, by rw [h2]; exact q⟩
      · simp only [Bool.and_eq_true] at hm
        exact op_neD (by omega) pins s σ H x y v u Q I rx ry ⟨_, _, (bx.dv g).dp hm.1, (bY.dv g).dp hm.2, shp_shaped hm.1, shp_shaped hm.2, q⟩
    · cases hb
  | Lt =>
    simp only at hb
    split at hb
    · cases hb; rw [bx.int] at rx; rw [bY.int] at ry
      exact op_lt pins s σ H _ _ v u Q I rx ry ⟨_, _, rfl, rfl, q⟩
    · split at hb
      · rename_i hm
        simp only [Bool.and_eq_true] at hm
        cases hb
        exact op_ltA hu pins s σ H x y v u Q I rx ry ⟨_, _, (bx.dv g).dp hm.1.2, (bY.dv g).dp hm.2, hm.1.1, (fun z => by cases z), (okD_lay 40 _ hm.1.2).2, q⟩
      · cases hb
    · cases hb
  | LtE =>
    simp only at hb
    split at hb
    · cases hb; rw [bx.int] at rx; rw [bY.int] at ry
      exact op_le pins s σ H _ _ v u Q I rx ry ⟨_, _, rfl, rfl, q⟩
    · cases hb
  | Gt =>
    simp only at hb
    split at hb
    · cases hb; rw [bx.int] at rx; rw [bY.int] at ry
      exact op_gt pins s σ H _ _ v u Q I rx ry ⟨_, _, rfl, rfl, q⟩
    · cases hb
  | GtE =>
    simp only at hb
    split at hb
    · cases hb; rw [bx.int] at rx; rw [bY.int] at ry
      exact op_ge pins s σ H _ _ v u Q I rx ry ⟨_, _, rfl, rfl, q⟩
    · cases hb
  | Is =>
    simp only at hb
    split at hb
    · cases hb
      rw [bY.none] at ry
      refine op_isN pins s σ H _ _ v u Q I rx ry ⟨rfl, ?_⟩
      rw [dv_non (bx.dv g)]
      cases wx <;> exact q
    · split at hb
      · cases hb; rw [bx.bool] at rx; rw [bY.bool] at ry
        exact op_isBl pins s σ H _ _ v u Q I rx ry ⟨_, _, rfl, rfl, q⟩
      · cases hb
    · cases hb
  | IsNot =>
    simp only at hb
    split at hb
    · cases hb
      rw [bY.none] at ry
      refine op_notN pins s σ H _ _ v u Q I rx ry ⟨rfl, ?_⟩
      rw [dv_non (bx.dv g)]
      cases wx <;> exact q
    · split at hb
      · cases hb; rw [bx.bool] at rx; rw [bY.bool] at ry
        exact op_notBl pins s σ H _ _ v u Q I rx ry ⟨_, _, rfl, rfl, q⟩
      · cases hb
    · cases hb
  | In =>
    simp only at hb
    split at hb
    · split at hb
      · rename_i hm
        simp only [Bool.and_eq_true] at hm
        cases hb
        exact op_inD hu pins s σ H _ _ v u Q I rx ry ⟨_, _, (bx.dv g).dp hm.1, (bY.dv g).dp hm.2, shp_shaped hm.1, shp_shaped hm.2, q⟩
      · cases hb
    · split at hb
      · rename_i hm
        simp only [Bool.and_eq_true] at hm
        cases hb
        exact op_inT hu pins s σ H _ _ v u Q I rx ry ⟨_, _, (bx.dv g).dp hm.1, (bY.dv g).dp hm.2, shp_shaped hm.1, shp_shaped hm.2, q⟩
      · cases hb
    · cases hb
  | NotIn =>
    simp only at hb
    split at hb
    · split at hb
      · rename_i hm
        simp only [Bool.and_eq_true] at hm
        cases hb
        exact op_notInD hu pins s σ H _ _ v u Q I rx ry ⟨_, _, (bx.dv g).dp hm.1, (bY.dv g).dp hm.2, shp_shaped hm.1, shp_shaped hm.2, q⟩
      · cases hb
    · split at hb
      · rename_i hm
        simp only [Bool.and_eq_true] at hm
        cases hb
        exact op_notInT hu pins s σ H _ _ v u Q I rx ry ⟨_, _, (bx.dv g).dp hm.1, (bY.dv g).dp hm.2, shp_shaped hm.1, shp_shaped hm.2, q⟩
      · cases hb
    · cases hb
/-! ### subscripts, slices -/
def rIdx (K : PySem.W.Frag) : R2 := fun x y H Q => ∃ G wx wy w, Same G H ∧ Bv K G H x wx ∧ Bv K G H y wy ∧ idxop wx wy = some w ∧ ∀ v, Dv K G v w → Q v H
theorem atI_all {K : PySem.W.Frag} {G : Hp} {vs : List V} {xs : List W} {i : Int} {w : W} (d : DvAll K G vs xs) (h : atI xs i = some w) : ∃ v, atI vs i = some v ∧ Dv K G v w := by
  unfold atI at h ⊢
  rw [d.length]
  cases q : ixN xs.length i with
  | none => rw [q] at h; cases h
  | some j =>
    rw [q] at h
    obtain ⟨v, h1, h2⟩ := d.get' (show xs[j]? = some w from h)
    exact ⟨v, h1, h2⟩
theorem ix_idx : IxR X (rIdx X.K) := by
  intro value slice pins s σ H x y v u Q I rx ry h hsl
  obtain ⟨G, wx, wy, w, g, bx, bY, hb, q⟩ := h
  unfold idxop at hb
  split at hb
  · obtain ⟨a, vs, rfl, s1, d1⟩ := bx.list g
    rw [bY.int] at ry
    obtain ⟨z, h1, h2⟩ := atI_all d1 hb
    exact ix_list value slice pins s σ H _ _ v u Q I rx ry ⟨a, vs, _, z, rfl, rfl, s1.sq, h1, q z h2⟩ hsl
  · obtain ⟨a, vs, rfl, s1, _, d1⟩ := bx.tuple g
    rw [bY.int] at ry
    obtain ⟨z, h1, h2⟩ := atI_all d1 hb
    exact ix_tup value slice pins s σ H _ _ v u Q I rx ry ⟨a, vs, _, z, rfl, rfl, s1, h1, q z h2⟩ hsl
  · cases hb
def rSli (K : PySem.W.Frag) : V → Option Int → Option Int → Hp → VK → Prop := fun x lo hi H Q => ∃ G wx rv, Same G H ∧ Bv K G H x wx ∧ sliop wx lo hi = some rv ∧ ∀ v H', OP K G H rv v H' → Q v H'
theorem sl_sli : SlR X (rSli X.K) := by
  intro pins s σ H x v vl vu lo hi sl Q I rx hs pl pu h
  obtain ⟨G, wx, rv, g, bx, hb, q⟩ := h
  unfold sliop at hb
  split at hb
  · cases hb
    obtain ⟨a, vs, rfl, s1, d1⟩ := bx.list g
    refine sl_list pins s σ H _ v vl vu lo hi sl Q I rx hs pl pu ⟨a, vs, rfl, s1.sq, fun p hp => q _ _ ⟨p, _, rfl, hp, rfl, ?_⟩⟩
    unfold cutV cutW
    rw [d1.length]
    exact (d1.drop _).take _
  · rename_i ys
    cases hb
    obtain ⟨a, vs, rfl, s1, s1', d1⟩ := bx.tuple g
    have e : DvAll X.K G (cutV vs lo hi) (cutW ys lo hi) := by
      unfold cutV cutW
      rw [d1.length]
      exact (d1.drop _).take _
    refine sl_tupA pins s σ H _ v vl vu lo hi sl Q I rx hs pl pu ⟨a, vs, rfl, s1, fun z => ?_, fun _ p hp => ?_⟩
    · refine q _ _ (.inl ⟨rfl, ?_⟩)
      have e2 : cutV vs lo hi = vs := by
        unfold cutV
        rw [z.1, z.2]; simp
      rw [e2] at e
      exact .tup s1' e
    · have gp : G p = none := by
        cases z : G p with
        | none => rfl
        | some o => have := g _ _ z; rw [hp] at this; cases this
      exact q _ _ (.inr ⟨p, _, rfl, hp, rfl, .tup (SqT.of upd_same) (e.mono (same_upd gp _))⟩)
  · cases hb
theorem dv_app {K : PySem.W.Frag} {G : Hp} : ∀ {v v' : List V} {w w' : List W}, DvAll K G v w → DvAll K G v' w' → DvAll K G (v ++ v') (w ++ w')
  | _, _, _, _, .nil, h => h
  | _, _, _, _, .cons a b, h => .cons a (dv_app b h)
theorem dv_rv {K : PySem.W.Frag} {G : Hp} : ∀ {v : List V} {w : List W}, DvAll K G v w → DvAll K G v.reverse w.reverse
  | _, _, .nil => .nil
  | _, _, .cons a b => by
    rw [List.reverse_cons, List.reverse_cons]
    exact dv_app (dv_rv b) (.cons a .nil)
theorem dv_rev {K : PySem.W.Frag} {G : Hp} {vs : List V} {xs : List W} {k : Option Nat} (d : DvAll K G vs xs) : DvAll K G (revL vs k) (revL xs k) := by
  unfold revL
  rw [d.length]
  exact dv_rv (d.take _)
theorem rev_bv {K : PySem.W.Frag} {G H : Hp} {v : V} {wx : W} {k : Option Nat} {rv : RV} {Q : VK} (g : Same G H) (bx : Bv K G H v wx) (hb : revop wx k = some rv) (q : ∀ v H', OP K G H rv v H' → Q v H') :
    ∃ a xs, v = .ref a ∧ ((SqL K H a xs ∧ ∀ p, H p = none → Q (.ref p) (upd H p (.lst (revL xs k)))) ∨ SqT K H a xs ∧ ∀ p, H p = none → Q (.ref p) (upd H p (.tup (revL xs k)))) := by
  unfold revop at hb
  split at hb
  · cases hb
    obtain ⟨a, vs, rfl, s1, d1⟩ := bx.list g
    exact ⟨a, vs, rfl, .inl ⟨s1.sq, fun p hp => q _ _ ⟨p, _, rfl, hp, rfl, dv_rev d1⟩⟩⟩
  · cases hb
    obtain ⟨a, vs, rfl, s1, s1', d1⟩ := bx.tuple g
    refine ⟨a, vs, rfl, .inr ⟨s1, fun p hp => ?_⟩⟩
    have gp : G p = none := by
      cases z : G p with
      | none => rfl
      | some o => have := g _ _ z; rw [hp] at this; cases this
    exact q _ _ (.inr ⟨p, _, rfl, hp, rfl, .tup (SqT.of upd_same) ((dv_rev d1).mono (same_upd gp _))⟩)
  · cases hb
end
/-! ### built-ins -/
def BvAll (K : PySem.W.Frag) (G H : Hp) : List V → List W → Prop
  | [], [] => True
  | v :: vs, w :: ws => Bv K G H v w ∧ BvAll K G H vs ws
  | _, _ => False
theorem BvAll.one {K : PySem.W.Frag} {G H : Hp} {vs : List V} {w : W} (h : BvAll K G H vs [w]) : ∃ v, vs = [v] ∧ Bv K G H v w := by
  cases vs with
  | nil => exact h.elim
  | cons v r =>
    cases r with
    | nil => exact ⟨v, rfl, h.1⟩
    | cons _ _ => exact h.2.elim
theorem BvAll.two {K : PySem.W.Frag} {G H : Hp} {vs : List V} {w w' : W} (h : BvAll K G H vs [w, w']) : ∃ v v', vs = [v, v'] ∧ Bv K G H v w ∧ Bv K G H v' w' := by
  cases vs with
  | nil => exact h.elim
  | cons v r =>
    obtain ⟨v', rfl, h2⟩ := BvAll.one h.2
    exact ⟨v, v', rfl, h.1, h2⟩
theorem allI_map {K : PySem.W.Frag} {G : Hp} : ∀ {xs : List W} {ns : List Int} {vs : List V}, allI xs = some ns → DvAll K G vs xs → vs = ns.map V.int
  | [], ns, vs, h, d => by cases d; cases h; rfl
  | .int i :: r, ns, vs, h, d => by
    unfold allI at h
    cases q : allI r with
    | none => rw [q] at h; cases h
    | some ms =>
      rw [q] at h
      cases h
      cases d with
      | cons a b =>
        cases a
        rw [allI_map q b]; rfl
  | .none :: r, _, _, h, _ => by simp [allI] at h
  | .bool _ :: r, _, _, h, _ => by simp [allI] at h
  | .str _ :: r, _, _, h, _ => by simp [allI] at h
  | .list _ :: r, _, _, h, _ => by simp [allI] at h
  | .tuple _ :: r, _, _, h, _ => by simp [allI] at h
  | .dict _ :: r, _, _, h, _ => by simp [allI] at h
theorem allB_map {K : PySem.W.Frag} {G : Hp} : ∀ {xs : List W} {ns : List Bool} {vs : List V}, allB xs = some ns → DvAll K G vs xs → vs = ns.map V.bl
  | [], ns, vs, h, d => by cases d; cases h; rfl
  | .bool i :: r, ns, vs, h, d => by
    unfold allB at h
    cases q : allB r with
    | none => rw [q] at h; cases h
    | some ms =>
      rw [q] at h
      cases h
      cases d with
      | cons a b =>
        cases a
        rw [allB_map q b]; rfl
  | .none :: r, _, _, h, _ => by simp [allB] at h
  | .int _ :: r, _, _, h, _ => by simp [allB] at h
  | .str _ :: r, _, _, h, _ => by simp [allB] at h
  | .list _ :: r, _, _, h, _ => by simp [allB] at h
  | .tuple _ :: r, _, _, h, _ => by simp [allB] at h
  | .dict _ :: r, _, _, h, _ => by simp [allB] at h
theorem maxI_ge : ∀ (ns : List Int) (m : Int), m ∈ ns → (∀ y ∈ ns, y ≤ m) → m = maxI ns
  | [], m, h, _ => by cases h
  | [x], m, h, _ => by
    have h : m = x := by simpa using h
    rw [h]; rfl
  | x :: y :: r, m, h, g => by
    have ih := maxI_ge (y :: r)
    show m = (if maxI (y :: r) > x then maxI (y :: r) else x)
    rcases List.mem_cons.mp h with rfl | h
    · have : ¬ maxI (y :: r) > m := by
        intro z
        have : ∀ l : List Int, l ≠ [] → maxI l ∈ l := by
          intro l
          induction l with
          | nil => intro h; exact absurd rfl h
          | cons a t iht =>
            intro _
            cases t with
            | nil => simp [maxI]
            | cons b t =>
              show (if maxI (b :: t) > a then maxI (b :: t) else a) ∈ _
              split
              · exact List.mem_cons_of_mem _ (iht (by simp))
              · exact List.mem_cons_self
        have := g _ (List.mem_cons_of_mem _ (this (y :: r) (by simp)))
        omega
      rw [if_neg this]
    · have e := ih m h fun z hz => g z (List.mem_cons_of_mem _ hz)
      have := g x List.mem_cons_self
      rw [← e]
      split
      · rfl
      · omega
theorem minI_le : ∀ (ns : List Int) (m : Int), m ∈ ns → (∀ y ∈ ns, m ≤ y) → m = minI ns
  | [], m, h, _ => by cases h
  | [x], m, h, _ => by
    have h : m = x := by simpa using h
    rw [h]; rfl
  | x :: y :: r, m, h, g => by
    have ih := minI_le (y :: r)
    show m = (if minI (y :: r) < x then minI (y :: r) else x)
    rcases List.mem_cons.mp h with rfl | h
    · have : ¬ minI (y :: r) < m := by
        intro z
        have : ∀ l : List Int, l ≠ [] → minI l ∈ l := by
          intro l
          induction l with
          | nil => intro h; exact absurd rfl h
          | cons a t iht =>
            intro _
            cases t with
            | nil => simp [minI]
            | cons b t =>
              show (if minI (b :: t) < a then minI (b :: t) else a) ∈ _
              split
              · exact List.mem_cons_of_mem _ (iht (by simp))
              · exact List.mem_cons_self
        have := g _ (List.mem_cons_of_mem _ (this (y :: r) (by simp)))
        omega
      rw [if_neg this]
    · have e := ih m h fun z hz => g z (List.mem_cons_of_mem _ hz)
      have := g x List.mem_cons_self
      rw [← e]
      split
      · rfl
      · omega
def rBlt (K : PySem.W.Frag) (f : String) : List V → Hp → VK → Prop := fun vs H Q => ∃ G ws rv, Same G H ∧ BvAll K G H vs ws ∧ bltop f ws = some rv ∧ ∀ v H', OP K G H rv v H' → Q v H'
def bltV : String → Option Value
  | "len" => some (.builtin "len") | "min" => some (.builtin "min") | "max" => some (.builtin "max") | "sum" => some (.builtin "sum") | "any" => some (.builtin "any") | "all" => some (.builtin "all")
  | "tuple" => some (.type "tuple") | "list" => some (.type "list") | "sorted" => some (.builtin "sorted")
  | _ => none
section
variable {X : Cx}
theorem seq_len {K : PySem.W.Frag} {G H : Hp} {v : V} {w : W} {xs : List W} (b : Bv K G H v w) (g : Same G H) (h : seqOf w = some xs) : ∃ a vs, v = .ref a ∧ (SqL K H a vs ∨ SqT K H a vs) ∧ DvAll K G vs xs := by
  unfold seqOf at h
  split at h
  · cases h
    obtain ⟨a, vs, rfl, s1, d1⟩ := b.list g
    exact ⟨a, vs, rfl, .inl s1.sq, d1⟩
  · cases h
    obtain ⟨a, vs, rfl, s1, _, d1⟩ := b.tuple g
    exact ⟨a, vs, rfl, .inr s1, d1⟩
  · cases h
theorem cr_sumT (hc : X.calm = true) : CallR X (.builtin "sum") (fun vs H Q => ∃ (a : Addr) (ns : List Int), vs = [V.ref a] ∧ SqT X.K H a (ns.map V.int) ∧ Q (.int ns.sum) H) := by
  intro pins s σ H vs us Q I r h
  obtain ⟨a, ns, rfl, hs, q⟩ := h
  obtain ⟨its, rv, hl, _⟩ := I.tuple hs
  rw [Vals.ref1 r]
  have hi := rv.ints
  obtain ⟨xs, e⟩ := hi.allInts.items
  have hn : numsOf (intItems xs).toList = ns := by rw [← e]; exact hi.numsOf
  rw [nums_intItems] at hn
  rw [e] at hl
  refine PySem.W.ktm_sumG (I.ok.hd hc) hl fun h' tk t' hk => ?_
  rw [preSum_eq, List.take_of_length_le (by simp), hn]
  exact ⟨.int _, H, I.kept hk, ⟨_, rfl⟩, q⟩
theorem cr_maxP (hu : X.A.units + 65 < cLine) (hc : X.calm = true) : CallR X (.builtin "max") (fun vs H Q => ∃ (a : Addr) (i j : Int), vs = [V.ref a] ∧ SqT X.K H a [.int i, .int j] ∧ Q (.int (if j > i then j else i)) H) := by
  intro pins s σ H vs us Q I r h
  obtain ⟨a, i, j, rfl, hs, q⟩ := h
  obtain ⟨its, rv, hl, _⟩ := I.tuple hs
  rw [Vals.ref1 r]
  cases rv with
  | cons r1 rr =>
    cases rr with
    | cons r2 rr =>
      cases rr
      obtain ⟨t1, rfl⟩ := r1
      obtain ⟨t2, rfl⟩ := r2
      refine PySem.W.max_tuple_data (x := .int i) (xs := [.int j]) (as := [] ++ ([] ++ [])) (I.ok.hd hc) hl (.cons (.int i t1) (.cons (.int j t2) .nil)) ⟨fun x hx y hy => ?_, fun x hx => ?_⟩ ?_ fun n v h' tk bs hv hr hk => ?_
      · simp only [List.mem_cons, List.not_mem_nil, or_false] at hx hy
        rcases hx with rfl | rfl <;> rcases hy with rfl | rfl <;> rfl
      · simp only [List.mem_cons, List.not_mem_nil, or_false] at hx
        rcases hx with rfl | rfl <;> intro z <;> cases z
      · have : PyData.depthAll [PyData.int i, .int j] ≤ 3 := by simp [PyData.depthAll, PyData.depth]
        omega
      · have e : PySem.W.maxD (.int i) [.int j] = .int (if j > i then j else i) := by
          have := PySem.W.maxD_ints i [j]
          rw [List.map_cons, List.map_nil] at this
          rw [this]
          simp only [List.foldl_cons, List.foldl_nil]
          congr 1
          split <;> omega
        rw [e] at hr
        obtain ⟨t, rfl, _⟩ := reads_int_inv hr
        exact ⟨.int _, H, I.kept hk, ⟨t, rfl⟩, q⟩
theorem each_dv {K : PySem.W.Frag} {G : Hp} : ∀ {xs : List V} {ws : List W} {us : List Value}, DvAll K G xs ws → Vals xs us → PySem.W.EachIs (fun u w => ∃ x : V, RelV x u ∧ Dv K G x w) us ws
  | _, _, _, .nil, .nil => .nil
  | _, _, _, .cons a b, .cons r1 r2 => .cons ⟨_, r1, a⟩ (each_dv b r2)
theorem each_dvS {K : PySem.W.Frag} {G : Hp} : ∀ {xs : List V} {ws : List W} {us : List Value}, DvAll K G xs ws → Vals xs us → ws.all shp = true → PySem.W.EachIs (fun u w => shp w = true ∧ ∃ x : V, RelV x u ∧ Dv K G x w) us ws
  | _, _, _, .nil, .nil, _ => .nil
  | _, _, _, .cons d ds, .cons r rs, h => by
    rw [List.all_cons, Bool.and_eq_true] at h
    exact .cons ⟨h.1, _, r, d⟩ (each_dvS ds rs h.2)
theorem dv_each {K : PySem.W.Frag} {G : Hp} : ∀ {us : List Value} {ws : List W}, PySem.W.EachIs (fun u w => ∃ x : V, RelV x u ∧ Dv K G x w) us ws → ∃ xs : List V, DvAll K G xs ws ∧ Vals xs us
  | _, _, .nil => ⟨[], .nil, .nil⟩
  | _, _, .cons ⟨x, r, d⟩ t => by
    obtain ⟨xs, h1, h2⟩ := dv_each t
    exact ⟨x :: xs, .cons d h1, .cons r h2⟩
theorem sortable_of {ws : List W} (h : (ws.all consT || ws.all plainS) = true) : PySem.W.Sortable ws := by
  rcases Bool.or_eq_true_iff.mp h with h | h
  · refine .inl fun d hd => ?_
    have := List.all_eq_true.mp h d hd
    unfold consT at this
    split at this
    · exact ⟨_, _, rfl⟩
    · cases this
  · refine .inr fun d hd => ?_
    have := List.all_eq_true.mp h d hd
    unfold plainS at this
    split at this
    · cases this
    · cases this
    · rename_i h1 h2
      exact ⟨h2, fun xs e => h1 xs e⟩
def rSortA (K : PySem.W.Frag) : List V → Hp → VK → Prop := fun vs H Q => ∃ (G : Hp) (a : Addr) (xs : List V) (ws : List W), vs = [.ref a] ∧ Same G H ∧ (SqL K H a xs ∨ SqT K H a xs) ∧ DvAll K G xs ws ∧ sortOk ws = true ∧ ∀ ys p, DvAll K G ys (sortW ws) → H p = none → Q (.ref p) (upd H p (.lst ys))
theorem cr_sortA (hu : X.A.units + 65 < cLine) : CallR X (.builtin "sorted") (rSortA X.K) := by
  intro pins s σ H vs us Q I r h
  obtain ⟨G, a, xs, ws, rfl, g, hs, hd, hok, q⟩ := h
  rw [Vals.ref1 r]
  unfold sortOk at hok
  simp only [Bool.and_eq_true] at hok
  obtain ⟨⟨h1, h2⟩, h3⟩ := hok
  have hal : PySem.W.AllAlike ws := fun d hd d' hd' => List.all_eq_true.mp (List.all_eq_true.mp h1 d hd) d' hd'
  have hk := sortable_of h2
  have main : ∀ its : List Value, Vals xs its → xs.length ≤ sizeLine → ((∀ (κ : KeyKind), PySem.W.SortsAt X.prog X.w X.A.in1.in1 { s with heap := PySem.W.sortingHeap (PySem.W.copyHeap s.heap its) (s.heap.objs.size + 1) its } κ its → EP X pins σ Q (.ref (s.heap.objs.size + 1)) { s with heap := sortedAll s.heap its (PySem.W.sortVals κ false its its).toArray } →
      wpAny (model X.prog X.w) X.A (call (.builtin "sorted") [.ref a]) (EP X pins σ Q) X.xe s)) → wpAny (model X.prog X.w) X.A (call (.builtin "sorted") [.ref a]) (EP X pins σ Q) X.xe s := by
    intro its rv hz go
    have ei := each_dv hd rv
    have er : PySem.W.EachIs (fun v d => ∃ as, Reads s.heap v d as) its ws := (each_dvS hd rv h3).mono fun u w ⟨sw, x, rx, dx⟩ => Dp.reads I w x u ((dx.mono g).dp sw) rx
    have er' : PySem.W.EachIs (fun v d => ∃ as, Reads (PySem.W.sortingHeap (PySem.W.copyHeap s.heap its) (s.heap.objs.size + 1) its) v d as) its ws := er.mono fun _ _ ⟨as, r⟩ => ⟨as, PyProof.Rows.Reads.keeps (fun _ _ => PySem.W.sorting_copy_old) r⟩
    have hlen : its.length = ws.length := by rw [← rv.length]; exact hd.length
    refine go _ (PySem.W.SortsAt.data (s := { s with heap := PySem.W.sortingHeap (PySem.W.copyHeap s.heap its) (s.heap.objs.size + 1) its }) er' hal hk fun d hd => ?_) ?_
    · have := (okD_lay 40 d (List.all_eq_true.mp h3 d hd)).2
      show X.A.units + 2 + d.depth < cLine
      omega
    · have ev := PySem.W.sortVals_data (enc := id) (bs := ws) false ei (by simpa using er') (by simpa using hal)
      rw [List.map_id] at ev
      obtain ⟨ys, dy, vy⟩ := dv_each ev
      obtain ⟨ep, he'⟩ := PyProof.Rows.sortedAll_at s.heap its (PySem.W.sortVals (PySem.W.dataKind (PySem.W.sortingHeap (PySem.W.copyHeap s.heap its) (s.heap.objs.size + 1) its) ws) false its its).toArray
      have hyl : ys.length ≤ sizeLine := by
        rw [dy.length]
        show (ws.mergeSort (PySem.W.dataLe false id)).length ≤ sizeLine
        rw [List.length_mergeSort, ← hd.length]
        exact hz
      exact ⟨.ref _, upd H (s.heap.objs.size + 1) (.lst ys), I.laid (t' := s.toks) (fun _ _ => PyProof.Rows.sortedAll_old) (Nat.le_succ _) ⟨hyl, _, ep, by simpa using vy, he'⟩, rfl, q ys _ dy (I.hok.fresh (Nat.le_succ _))⟩
  rcases hs with hs | hs
  · obtain ⟨its, rv, hl, hz⟩ := I.list hs
    exact main its rv hz fun κ S h => PySem.W.sorted_vals hl.isList S (by rw [← rv.length]; exact hz) h
  · obtain ⟨its, rv, hl, hz⟩ := I.tuple hs
    exact main its rv hz fun κ S h => sorted_tupV hl S (by rw [← rv.length]; exact hz) h
set_option maxHeartbeats 4000000 in
theorem cr_blt (hu : X.A.units + 65 < cLine) (hc : X.calm = true) (f : String) (c : Value) (hv : bltV f = some c) : CallR X c (rBlt X.K f) := by
  intro pins s σ H xs us Q I r h
  obtain ⟨G, ws, rv, g, ba, hb, q⟩ := h
  unfold bltop at hb
  split at hb
  · cases hv
    obtain ⟨v, rfl, b⟩ := ba.one
    obtain ⟨ys, h1, h2⟩ := Option.map_eq_some_iff.mp hb
    subst h2
    obtain ⟨a, vs, rfl, s1, d1⟩ := seq_len b g h1
    refine call_len_seq pins s σ H _ us Q I r ⟨a, vs, rfl, s1, q _ _ (.inl ⟨rfl, ?_⟩)⟩
    rw [d1.length]; exact .int _
  · cases hv
    cases hb
    obtain ⟨v, v', rfl, b, b'⟩ := ba.two
    rw [b.int, b'.int] at r
    exact call_min2 hc pins s σ H _ us Q I r ⟨_, _, rfl, q _ _ (.inl ⟨rfl, .int _⟩)⟩
  · cases hv
    cases hb
    obtain ⟨v, v', rfl, b, b'⟩ := ba.two
    rw [b.int, b'.int] at r
    exact call_max2 hc pins s σ H _ us Q I r ⟨_, _, rfl, q _ _ (.inl ⟨rfl, .int _⟩)⟩
  · cases hv
    obtain ⟨v, rfl, b⟩ := ba.one
    obtain ⟨ys, h1, h2⟩ := Option.map_eq_some_iff.mp hb
    subst h2
    unfold seqOf at h1
    split at h1
    · cases h1
      obtain ⟨a, vs, rfl, s1, d1⟩ := b.list g
      refine call_tuple_of pins s σ H _ us Q I r ⟨a, vs, rfl, .inl ⟨s1.sq, fun p hp => q _ _ (.inr ⟨p, _, rfl, hp, rfl, .tup (SqT.of upd_same) (d1.mono (same_upd ?_ _))⟩)⟩⟩
      cases z : G p with
      | none => rfl
      | some o => have := g _ _ z; rw [hp] at this; cases this
    · cases h1
      obtain ⟨a, vs, rfl, s1, s1', d1⟩ := b.tuple g
      exact call_tuple_of pins s σ H _ us Q I r ⟨a, vs, rfl, .inr ⟨s1, q _ _ (.inl ⟨rfl, .tup s1' d1⟩)⟩⟩
    · cases h1
  · cases hv
    obtain ⟨v, rfl, b⟩ := ba.one
    obtain ⟨ys, h1, h2⟩ := Option.map_eq_some_iff.mp hb
    subst h2
    obtain ⟨a, vs, rfl, s1, d1⟩ := seq_len b g h1
    exact call_list_of pins s σ H _ us Q I r ⟨a, vs, rfl, s1, fun p hp => q _ _ ⟨p, _, rfl, hp, rfl, d1⟩⟩
  · cases hv
    obtain ⟨v, rfl, b⟩ := ba.one
    obtain ⟨ys, h1, h2⟩ := Option.map_eq_some_iff.mp hb
    subst h2
    obtain ⟨a, vs, rfl, s1, d1⟩ := b.list g
    rw [allI_map h1 d1] at s1
    exact cr_sum hc pins s σ H _ us Q I r ⟨a, ys, rfl, s1.sq, q _ _ (.inl ⟨rfl, .int _⟩)⟩
  · cases hv
    obtain ⟨v, rfl, b⟩ := ba.one
    obtain ⟨ys, h1, h2⟩ := Option.map_eq_some_iff.mp hb
    subst h2
    obtain ⟨a, vs, rfl, s1, _, d1⟩ := b.tuple g
    rw [allI_map h1 d1] at s1
    exact cr_sumT hc pins s σ H _ us Q I r ⟨a, ys, rfl, s1, q _ _ (.inl ⟨rfl, .int _⟩)⟩
  · cases hv
    obtain ⟨v, rfl, b⟩ := ba.one
    obtain ⟨ys, h1, h2⟩ := Option.map_eq_some_iff.mp hb
    subst h2
    obtain ⟨a, vs, rfl, s1, d1⟩ := b.list g
    rw [allB_map h1 d1] at s1
    exact cr_any hc pins s σ H _ us Q I r ⟨a, ys, rfl, s1.sq, q _ _ (.inl ⟨rfl, .bl _⟩)⟩
  · cases hv
    obtain ⟨v, rfl, b⟩ := ba.one
    obtain ⟨ys, h1, h2⟩ := Option.map_eq_some_iff.mp hb
    subst h2
    obtain ⟨a, vs, rfl, s1, d1⟩ := b.list g
    rw [allB_map h1 d1] at s1
    exact cr_all hc pins s σ H _ us Q I r ⟨a, ys, rfl, s1.sq, q _ _ (.inl ⟨rfl, .bl _⟩)⟩
  · cases hv
    obtain ⟨v, rfl, b⟩ := ba.one
    split at hb
    · rename_i hk
      cases hb
      obtain ⟨a, vs, rfl, s1, d1⟩ := b.list g
      exact cr_sortA hu pins s σ H _ us Q I r ⟨G, a, vs, _, rfl, g, .inl s1.sq, d1, hk, fun ys p dy hp => q _ _ ⟨p, _, rfl, hp, rfl, dy⟩⟩
    · cases hb
  · cases hv
    obtain ⟨v, rfl, b⟩ := ba.one
    split at hb
    · rename_i hk
      cases hb
      obtain ⟨a, vs, rfl, s1, _, d1⟩ := b.tuple g
      exact cr_sortA hu pins s σ H _ us Q I r ⟨G, a, vs, _, rfl, g, .inr s1, d1, hk, fun ys p dy hp => q _ _ ⟨p, _, rfl, hp, rfl, dy⟩⟩
    · cases hb
  · cases hv
    cases hb
    obtain ⟨v, rfl, b⟩ := ba.one
    obtain ⟨a, vs, rfl, s1, _, d1⟩ := b.tuple g
    cases d1 with
    | cons e1 d2 =>
      cases d2 with
      | cons e2 d3 =>
        cases d3
        cases e1
        cases e2
        exact cr_maxP hu hc pins s σ H _ us Q I r ⟨a, _, _, rfl, s1, q _ _ (.inl ⟨rfl, .int _⟩)⟩
  · cases hv
    obtain ⟨v, rfl, b⟩ := ba.one
    obtain ⟨ys, h1, h2⟩ := Option.bind_eq_some_iff.mp hb
    split at h2
    · cases h2
    · rename_i hne
      cases h2
      obtain ⟨a, vs, rfl, s1, d1⟩ := b.list g
      rw [allI_map h1 d1] at s1
      refine cr_max hc pins s σ H _ us Q I r ⟨a, ys, rfl, s1.sq, ?_, fun m hm hg => ?_⟩
      · cases ys with
        | nil => exact absurd rfl hne
        | cons _ _ => simp
      · rw [maxI_ge ys m hm hg]; exact q _ _ (.inl ⟨rfl, .int _⟩)
  · cases hv
    obtain ⟨v, rfl, b⟩ := ba.one
    obtain ⟨ys, h1, h2⟩ := Option.bind_eq_some_iff.mp hb
    split at h2
    · cases h2
    · rename_i hne
      cases h2
      obtain ⟨a, vs, rfl, s1, d1⟩ := b.list g
      rw [allI_map h1 d1] at s1
      refine cr_min hc pins s σ H _ us Q I r ⟨a, ys, rfl, s1.sq, ?_, fun m hm hg => ?_⟩
      · cases ys with
        | nil => exact absurd rfl hne
        | cons _ _ => simp
      · rw [minI_le ys m hm hg]; exact q _ _ (.inl ⟨rfl, .int _⟩)
  · cases hb
/-! ### isinstance -/
def tyOf : W → Option String
  | .none => some "NoneType" | .bool _ => some "bool" | .int _ => some "int" | .str _ => some "str" | .list _ => some "list" | .tuple _ => some "tuple" | .dict _ => none
theorem ty_x {K : PySem.W.Frag} {H : Hp} {v : V} {w : W} {T : String} (d : Dv K H v w) (h : tyOf w = some T) : TyX K H v (.type T) := by
  cases d with
  | non => cases h; exact .base .non
  | bl b => cases h; exact .base (.bl b)
  | int b => cases h; exact .base (.int b)
  | str b => cases h; exact .base (.str b)
  | lst q r =>
    cases h
    rcases q with (q | ⟨o, q⟩) | ⟨its, n, q, _⟩
    · exact .base (.lst q)
    · exact .base (.frz q)
    · exact .kList q rfl
  | tup q r =>
    cases h
    rcases q with (q | ⟨o, q⟩) | ⟨o, its, n, q, c, _⟩
    · exact .base (.tup q)
    · exact .fTuple q
    · exact .kTuple q c
  | ins q r => cases h
def isiT (a T : String) : Bool := a == T || (a == "bool" && T == "int")
theorem isi_tab (K : PySem.W.Frag) : ∀ a ∈ ["NoneType", "bool", "int", "str", "list", "tuple"], ∀ T ∈ ["int", "bool", "str", "tuple", "list"], PySem.W.kitOne K (.type a) (.type T) = some (isiT a T) := by
  intro a ha T hT
  simp only [List.mem_cons, List.not_mem_nil, or_false] at ha hT
  rcases ha with rfl | rfl | rfl | rfl | rfl | rfl <;> rcases hT with rfl | rfl | rfl | rfl | rfl <;> rfl
theorem isi_ok {K : PySem.W.Frag} {x : W} {T : String} {b : Bool} (h : isiop x T = some b) : ∃ a, tyOf x = some a ∧ PySem.W.kitOne K (.type a) (.type T) = some b := by
  unfold isiop at h
  split at h <;> first
    | (cases h; exact ⟨_, rfl, rfl⟩)
    | cases h
def rIsiW (K : PySem.W.Frag) (T : String) : List V → Hp → VK → Prop := fun vs H Q => ∃ G v w b, vs = [v, .ty T] ∧ Same G H ∧ Bv K G H v w ∧ isiop w T = some b ∧ Q (.bl b) H
theorem cr_isi (T : String) : CallR X (.builtin "isinstance") (rIsiW X.K T) := by
  intro pins s σ H xs us Q I r h
  obtain ⟨G, v, w, b, rfl, g, bv, hb, q⟩ := h
  obtain ⟨a, h1, h2⟩ := isi_ok (K := X.K) hb
  exact call_isi pins s σ H _ us Q I r ⟨v, .ty T, .type a, .type T, b, rfl, .ty T, ty_x (bv.dv g) h1, h2, q⟩
/-! ### methods of a list of one's own -/
theorem mt_extendR : MtM X "list.extend" (fun x vs H Q => ∃ l b xs zs, x = .ref l ∧ vs = [.ref b] ∧ H l = some (.lst xs) ∧ RdK X.K H b zs ∧ xs.length + zs.length ≤ sizeLine ∧ Q .non (upd H l (.lst (xs ++ zs)))) := by
  intro pins s σ H x vs v us Q I rx rv h
  obtain ⟨l, b, xs, zs, rfl, rfl, hH, hB, hz, q⟩ := h
  cases rx
  obtain ⟨u, rfl, ru⟩ := rv.one
  cases ru
  obtain ⟨z, its, n, r, hl, e⟩ := I.lstM hH
  obtain ⟨z2, its2, n2, r2, hl2, e2⟩ := lstR I hB
  have hsz : its.toArray.size + its2.toArray.size ≤ sizeLine := by rw [List.size_toArray, List.size_toArray]; omega
  have hlong : ¬ (!its.toArray.isEmpty && Builtin.List.listTooLong (its.toArray.size + its2.toArray.size)) = true := by
    rw [notLongL hsz, Bool.and_false]
    exact Bool.false_ne_true
  refine call_meets F.slot_list_extend ⟨_, e, rfl⟩ F.entry_list_extend (F.args_list_extend_2 _ _)
    (AutoSeq1.list_extend_list_list_0 l its.toArray n b its2.toArray n2 hlong (by rw [List.size_toArray]; omega) (by omega)) ⟨e, e2, ?_⟩
  refine ⟨.non, _, I.lset (its' := its ++ its2) hH e (by simp) (r.append r2) ?_, rfl, q⟩
  rw [List.length_append]
  omega
end
end D

namespace D
open PySem L2 PyProof.Rows

/-! ## operands that are pending -/
def optm : List Opd → List V → Tm
  | .w x :: os, v :: vs => (.val x, v) :: optm os vs
  | .r _ :: os, _ :: vs => optm os vs
  | _, _ => []
def OpsR (σ : L2.St) : List Opd → List V → Prop
  | [], [] => True
  | .w _ :: os, _ :: vs => OpsR σ os vs
  | .r i :: os, v :: vs => σ[i]? = some (some v) ∧ OpsR σ os vs
  | _, _ => False
def lent : List Opd → List V → List (Option Addr)
  | .w _ :: os, _ :: vs => none :: lent os vs
  | .r _ :: os, .ref a :: vs => some a :: lent os vs
  | .r _ :: os, _ :: vs => none :: lent os vs
  | _, _ => []
section
variable {K : PySem.W.Frag} {N : En} {G H : Hp} {e : SEnv} {σ : L2.St} {tm : Tm}
theorem get_bv {o : Opd} {w : W} {v : V} (r : R K N G H e σ tm) (h : o.get e = some w) (h1 : ∀ x, o = .w x → Dv K G v x) (h2 : ∀ i, o = .r i → σ[i]? = some (some v)) : Bv K G H v w := by
  cases o with
  | w x => cases h; exact .inl (h1 _ rfl)
  | r i =>
    unfold Opd.get at h
    simp only at h
    split at h
    · rename_i io xs q
      cases h
      obtain ⟨u, q1, a, vs, rfl, z1, z2, z3, _⟩ := r.slot i _ q
      rw [h2 i rfl] at q1; cases q1
      exact .inr ⟨a, vs, xs, rfl, rfl, z2, z3⟩
    · cases h
theorem ops_bv : ∀ {os : List Opd} {ws : List W} {vs : List V} {tm : Tm}, R K N G H e σ (optm os vs ++ tm) → OpsR σ os vs → getAll e os = some ws → BvAll K G H vs ws
  | [], ws, [], tm, r, o, h => by cases h; trivial
  | [], ws, _ :: _, tm, r, o, h => o.elim
  | .w _ :: _, _, [], _, _, o, _ => o.elim
  | .r _ :: _, _, [], _, _, o, _ => o.elim
  | .w x :: os, ws, v :: vs, tm, r, o, h => by
    unfold getAll at h
    split at h
    · rename_i y ys h1 h2
      cases h
      cases h1
      refine ⟨.inl ?_, ops_bv (tm := tm) (r.drop (List.sublist_cons_self _ _)) o h2⟩
      exact r.tmp (.val x, v) List.mem_cons_self
    · cases h
  | .r i :: os, ws, v :: vs, tm, r, o, h => by
    unfold getAll at h
    split at h
    · rename_i y ys h1 h2
      cases h
      exact ⟨get_bv r h1 (fun x z => by cases z) (fun j z => by cases z; exact o.1), ops_bv (os := os) (vs := vs) (tm := tm) r o.2 h2⟩
    · cases h
theorem optm_sub : ∀ (os : List Opd) (vs : List V) (tm : Tm), tm.Sublist (optm os vs ++ tm) := fun os vs tm => List.sublist_append_right _ _
/-- what a callee sees of an argument -/
theorem slots_at : ∀ {os : List Opd} {ss : List Slot} {vs : List V} {tm : Tm}, R K N G H e σ (optm os vs ++ tm) → OpsR σ os vs → slotsOf e os = some ss →
    ss.length = vs.length ∧ ∀ (j : Nat) s, ss[j]? = some s → ∃ v, vs[j]? = some v ∧ ((∃ w, s = .val w ∧ Dv K G v w) ∨
      ∃ i a us xs io, s = .own true xs ∧ os[j]? = some (.r i) ∧ v = .ref a ∧ OwnAt e σ i a ∧ e[i]? = some (some (.own io xs)) ∧ G a = none ∧ H a = some (.lst us) ∧ DvAll K G us xs ∧ (lent os vs)[j]? = some (some a))
  | [], ss, [], tm, r, o, h => by cases h; exact ⟨rfl, fun j s z => by simp at z⟩
  | [], ss, _ :: _, tm, r, o, h => o.elim
  | .w _ :: _, _, [], _, _, o, _ => o.elim
  | .r _ :: _, _, [], _, _, o, _ => o.elim
  | .w x :: os, ss, v :: vs, tm, r, o, h => by
    unfold slotsOf at h
    obtain ⟨ys, h1, h2⟩ := Option.map_eq_some_iff.mp h
    subst h2
    obtain ⟨l, ih⟩ := slots_at (tm := tm) (r.drop (List.sublist_cons_self _ _)) o h1
    refine ⟨by simp [l], fun j s z => ?_⟩
    cases j with
    | zero =>
      simp at z; subst z
      exact ⟨v, rfl, .inl ⟨x, rfl, r.tmp (.val x, v) List.mem_cons_self⟩⟩
    | succ j =>
      obtain ⟨u, q1, q2⟩ := ih j s (by simpa using z)
      refine ⟨u, by simpa using q1, q2.imp id ?_⟩
      rintro ⟨i, a, us, xs, io, z1, z2, z3, z4, z5, z6, z7, z8, z9⟩
      exact ⟨i, a, us, xs, io, z1, by simpa using z2, z3, z4, z5, z6, z7, z8, by simpa [lent] using z9⟩
  | .r i :: os, ss, v :: vs, tm, r, o, h => by
    unfold slotsOf at h
    split at h
    · rename_i io xs he
      obtain ⟨ys, h1, h2⟩ := Option.map_eq_some_iff.mp h
      subst h2
      obtain ⟨l, ih⟩ := slots_at (os := os) (vs := vs) (tm := tm) r o.2 h1
      obtain ⟨u, q1, a, us, rfl, y1, y2, y3, _⟩ := r.slot i _ he
      have e1 := o.1
      rw [e1] at q1; cases q1
      refine ⟨by simp [l], fun j s z => ?_⟩
      cases j with
      | zero =>
        simp at z; subst z
        exact ⟨_, rfl, .inr ⟨i, a, us, xs, io, rfl, rfl, rfl, ⟨io, xs, he, e1⟩, he, y1, y2, y3, rfl⟩⟩
      | succ j =>
        obtain ⟨u, q1, q2⟩ := ih j s (by simpa using z)
        refine ⟨u, by simpa using q1, q2.imp id ?_⟩
        rintro ⟨i, a, us, xs, io, z1, z2, z3, z4, z5, z6, z7, z8, z9⟩
        exact ⟨i, a, us, xs, io, z1, by simpa using z2, z3, z4, z5, z6, z7, z8, by simpa [lent] using z9⟩
    · cases h
theorem hasRef_mem : ∀ {os : List Opd} {i j : Nat}, os[j]? = some (.r i) → hasRef i os = true
  | [], _, _, h => by simp at h
  | .w x :: os, i, 0, h => by simp at h
  | .r k :: os, i, 0, h => by simp at h; subst h; simp [hasRef]
  | .w x :: os, i, j + 1, h => by simpa [hasRef] using hasRef_mem (os := os) (j := j) (by simpa using h)
  | .r k :: os, i, j + 1, h => by simp [hasRef, hasRef_mem (os := os) (j := j) (by simpa using h)]
theorem refs_inj : ∀ {os : List Opd} {i j k : Nat}, refsNd os = true → os[j]? = some (.r i) → os[k]? = some (.r i) → j = k
  | [], _, _, _, _, h, _ => by simp at h
  | .w x :: os, i, 0, _, _, h, _ => by simp at h
  | .w x :: os, i, _ + 1, 0, _, _, h => by simp at h
  | .w x :: os, i, j + 1, k + 1, n, h1, h2 => by rw [refs_inj (os := os) (i := i) (j := j) (k := k) n (by simpa using h1) (by simpa using h2)]
  | .r m :: os, i, 0, 0, n, h1, h2 => rfl
  | .r m :: os, i, 0, k + 1, n, h1, h2 => by
    simp at h1; subst h1
    simp only [refsNd, Bool.and_eq_true, Bool.not_eq_true'] at n
    rw [hasRef_mem (os := os) (j := k) (by simpa using h2)] at n
    exact absurd n.1 (by decide)
  | .r m :: os, i, j + 1, 0, n, h1, h2 => by
    simp at h2; subst h2
    simp only [refsNd, Bool.and_eq_true, Bool.not_eq_true'] at n
    rw [hasRef_mem (os := os) (j := j) (by simpa using h1)] at n
    exact absurd n.1 (by decide)
  | .r m :: os, i, j + 1, k + 1, n, h1, h2 => by
    simp only [refsNd, Bool.and_eq_true] at n
    rw [refs_inj (os := os) (i := i) (j := j) (k := k) n.2 (by simpa using h1) (by simpa using h2)]
theorem lent_at : ∀ {os : List Opd} {vs : List V} {a : Addr}, OpsR σ os vs → some a ∈ lent os vs → ∃ (j : Nat) (i : Nat), os[j]? = some (.r i) ∧ vs[j]? = some (.ref a) ∧ σ[i]? = some (some (.ref a)) ∧ (lent os vs)[j]? = some (some a)
  | [], [], a, o, h => by simp [lent] at h
  | [], _ :: _, a, o, h => o.elim
  | .w _ :: _, [], _, o, _ => o.elim
  | .r _ :: _, [], _, o, _ => o.elim
  | .w x :: os, v :: vs, a, o, h => by
    have h : some a ∈ lent os vs := by simpa [lent] using h
    obtain ⟨j, i, h1, h2, h3, h4⟩ := lent_at (os := os) (vs := vs) o h
    exact ⟨j + 1, i, by simpa using h1, by simpa using h2, h3, by simpa [lent] using h4⟩
  | .r k :: os, v :: vs, a, o, h => by
    have tl : some a ∈ lent os vs → ∃ (j : Nat) (i : Nat), (Opd.r k :: os)[j]? = some (.r i) ∧ (v :: vs)[j]? = some (.ref a) ∧ σ[i]? = some (some (.ref a)) ∧ (lent (Opd.r k :: os) (v :: vs))[j]? = some (some a) := fun h => by
      obtain ⟨j, i, h1, h2, h3, h4⟩ := lent_at (os := os) (vs := vs) o.2 h
      exact ⟨j + 1, i, by simpa using h1, by simpa using h2, h3, by cases v <;> simpa [lent] using h4⟩
    cases v with
    | ref b =>
      have h : some a = some b ∨ some a ∈ lent os vs := by simpa [lent] using h
      rcases h with h | h
      · cases h; exact ⟨0, k, rfl, rfl, o.1, rfl⟩
      · exact tl h
    | _ => exact tl (by simpa [lent] using h)
/-- a callee's start -/
theorem R.enter {os : List Opd} {ss : List Slot} {vs : List V} (r : R K N G H e σ (optm os vs ++ tm)) (o : OpsR σ os vs) (hs : slotsOf e os = some ss) (nd : refsNd os = true) (k : Nat) :
    R K ⟨G, H, lent os vs⟩ G H (ss.map some ++ List.replicate k none) (vs.map some ++ List.replicate k none) [] := by
  obtain ⟨l, at_⟩ := slots_at r o hs
  have look : ∀ (j : Nat) s, (ss.map some ++ List.replicate k none)[j]? = some (some s) → ss[j]? = some s := fun j s h => by
    by_cases hj : j < ss.length
    · rw [List.getElem?_append_left (by simpa using hj), List.getElem?_map] at h
      cases q : ss[j]? with
      | none => rw [q] at h; cases h
      | some t => rw [q] at h; cases h; rfl
    · rw [List.getElem?_append_right (by simpa using hj), List.getElem?_replicate] at h
      split at h <;> cases h
  have lookv : ∀ (j : Nat) v, vs[j]? = some v → (vs.map some ++ List.replicate k none)[j]? = some (some v) := fun j v h => by
    have hj : j < vs.length := (List.getElem?_eq_some_iff.mp h).1
    rw [List.getElem?_append_left (by simpa using hj), List.getElem?_map, h]; rfl
  have own : ∀ {j : Nat} {a : Addr}, OwnAt (ss.map some ++ List.replicate k none) (vs.map some ++ List.replicate k none) j a → ∃ i, os[j]? = some (.r i) ∧ OwnAt e σ i a := fun {j a} ⟨io, xs, z1, z2⟩ => by
    obtain ⟨v, q1, q2⟩ := at_ j _ (look j _ z1)
    rw [lookv j v q1] at z2; cases z2
    rcases q2 with ⟨w, z, _⟩ | ⟨i, b, us, ys, jo, z1, z2, z3, z4, _⟩
    · cases z
    · cases z3; exact ⟨i, z2, z4⟩
  refine ⟨r.sub, Same.refl _, fun b o h _ => h, fun b hb => ?_, fun b h1 h2 => absurd h1 h2, by simp [l], fun j s h => ?_, fun p hp => (by cases hp), fun i j a o1 o2 => ?_, fun i a o p hp => (by cases hp), .nil, fun j xs h => ?_, fun p hp => (by cases hp)⟩
  · obtain ⟨j, i, h1, h2, h3, h4⟩ := lent_at o hb
    have hj : j < ss.length := by rw [l]; exact (List.getElem?_eq_some_iff.mp h2).1
    obtain ⟨v, q1, q2⟩ := at_ j _ (List.getElem?_eq_getElem hj)
    rw [h2] at q1; cases q1
    rcases q2 with ⟨w, z, d⟩ | ⟨i', a, us, xs, io, z1, z2, z3, z4, z5, z6, z7, _⟩
    · -- the operand is a reference, so its slot is a list
      exfalso
      have : ∀ {os : List Opd} {ss : List Slot} {j i : Nat} {w : W}, slotsOf e os = some ss → os[j]? = some (.r i) → ss[j]? = some (.val w) → False := by
        intro os
        induction os with
        | nil => intro ss j i w _ h; simp at h
        | cons o os ih =>
          intro ss j i w h1 h2 h3
          cases o with
          | w x =>
            unfold slotsOf at h1
            obtain ⟨ys, q, rfl⟩ := Option.map_eq_some_iff.mp h1
            cases j with
            | zero => simp at h2
            | succ j => exact ih q (by simpa using h2) (by simpa using h3)
          | r k =>
            unfold slotsOf at h1
            split at h1
            · obtain ⟨ys, q, rfl⟩ := Option.map_eq_some_iff.mp h1
              cases j with
              | zero => simp at h3
              | succ j => exact ih q (by simpa using h2) (by simpa using h3)
            · cases h1
      exact this hs h1 (by rw [List.getElem?_eq_getElem hj, z])
    · cases z3; rw [z7]; simp
  · obtain ⟨v, q1, q2⟩ := at_ j s (look j s h)
    refine ⟨v, lookv j v q1, ?_⟩
    rcases q2 with ⟨w, rfl, d⟩ | ⟨i, a, us, xs, io, rfl, z2, rfl, z4, z5, z6, z7, z8, z9⟩
    · exact d
    · exact ⟨a, us, rfl, z6, z7, z8, fun _ => List.mem_of_getElem? z9, fun z => by cases z⟩
  · obtain ⟨i', h1, h2⟩ := own o1
    obtain ⟨j', h3, h4⟩ := own o2
    have := r.nd1 _ _ _ h2 h4
    subst this
    exact refs_inj nd h1 h3
  · obtain ⟨v, q1, q2⟩ := at_ j _ (look j _ h)
    rcases q2 with ⟨w, z, d⟩ | ⟨i, a, us, ys, io, z, z2, rfl, z4, z5, z6, z7, z8, z9⟩
    · cases z
    · exact ⟨a, z9, lookv j _ q1⟩
/-- what putOuts leaves -/
theorem put_at : ∀ {os : List Opd} {ss : List Slot} {e0 e e' e2 : SEnv} {outs : List (List W)}, refsNd os = true → slotsOf e0 os = some ss → outsOf ss e' = some outs → putOuts e os outs = some e2 →
    e2.length = e.length ∧ ∀ (i : Nat) s, e2[i]? = some (some s) → (e[i]? = some (some s) ∧ ∀ j : Nat, os[j]? ≠ some (.r i)) ∨
      ∃ (j : Nat) (io : Bool) (xs xs' : List W), os[j]? = some (.r i) ∧ e[i]? = some (some (.own io xs)) ∧ s = .own io xs' ∧ e'[j]? = some (some (.own true xs'))
  | [], ss, e0, e, e', e2, outs, nd, h1, h2, h3 => by
    cases h1
    cases h2
    cases h3
    exact ⟨rfl, fun i s h => .inl ⟨h, fun j => by simp⟩⟩
  | .w x :: os, ss, e0, e, e', e2, outs, nd, h1, h2, h3 => by
    unfold slotsOf at h1
    obtain ⟨ys, q1, rfl⟩ := Option.map_eq_some_iff.mp h1
    cases e' with
    | nil => simp [outsOf] at h2
    | cons s e' =>
      have h2 : outsOf ys e' = some outs := h2
      have h3 : putOuts e os outs = some e2 := by cases outs <;> exact h3
      obtain ⟨l, ih⟩ := put_at (os := os) nd q1 h2 h3
      refine ⟨l, fun i s h => ?_⟩
      rcases ih i s h with ⟨z1, z2⟩ | ⟨j, io, xs, xs', z1, z2, z3, z4⟩
      · refine .inl ⟨z1, fun j => ?_⟩
        cases j with
        | zero => simp
        | succ j => simpa using z2 j
      · exact .inr ⟨j + 1, io, xs, xs', by simpa using z1, z2, z3, by simpa using z4⟩
  | .r k :: os, ss, e0, e, e', e2, outs, nd, h1, h2, h3 => by
    unfold slotsOf at h1
    split at h1
    · obtain ⟨ys, q1, rfl⟩ := Option.map_eq_some_iff.mp h1
      cases e' with
      | nil => simp [outsOf] at h2
      | cons t e' =>
       cases t with
       | none => simp [outsOf] at h2
       | some t =>
       cases t with
       | val w => simp [outsOf] at h2
       | own b zs =>
       cases b with
       | false => simp [outsOf] at h2
       | true =>
        have h2 : (outsOf ys e').map (zs :: ·) = some outs := h2
        obtain ⟨outs', q2, rfl⟩ := Option.map_eq_some_iff.mp h2
        unfold putOuts at h3
        split at h3
        · rename_i jo ws he
          have hk : k < e.length := (List.getElem?_eq_some_iff.mp he).1
          simp only [refsNd, Bool.and_eq_true, Bool.not_eq_true'] at nd
          obtain ⟨l, ih⟩ := put_at (os := os) nd.2 q1 q2 h3
          refine ⟨by rw [l, List.length_set], fun i s h => ?_⟩
          rcases ih i s h with ⟨y1, y2⟩ | ⟨j, io, xs, xs', y1, y2, y3, y4⟩
          · by_cases hi : k = i
            · subst hi
              rw [List.getElem?_set_self hk] at y1
              cases y1
              exact .inr ⟨0, jo, ws, _, rfl, he, rfl, rfl⟩
            · rw [List.getElem?_set_ne hi] at y1
              refine .inl ⟨y1, fun j => ?_⟩
              cases j with
              | zero => simp; exact hi
              | succ j => simpa using y2 j
          · have hi : k ≠ i := fun z => by
              subst z
              rw [hasRef_mem y1] at nd
              exact absurd nd.1 (by decide)
            rw [List.getElem?_set_ne hi] at y2
            exact .inr ⟨j + 1, io, xs, xs', by simpa using y1, y2, y3, by simpa using y4⟩
        · cases h3
    · cases h1
/-- back from a callee: what it gives (rt) joins what was pending -/
theorem R.leave {os : List Opd} {ss : List Slot} {vs : List V} {G' H' : Hp} {e' e2 : SEnv} {σ' : L2.St} {rt : Tm} {outs : List (List W)} (r : R K N G H e σ (optm os vs ++ tm)) (o : OpsR σ os vs) (hs : slotsOf e os = some ss) (nd : refsNd os = true)
    (r' : R K ⟨G, H, lent os vs⟩ G' H' e' σ' rt) (ho : outsOf ss e' = some outs) (hp : putOuts e os outs = some e2) : R K N G' H' e2 σ (rt ++ tm) := by
  obtain ⟨l2, at2⟩ := put_at nd hs ho hp
  obtain ⟨l, at_⟩ := slots_at r o hs
  have rr := r.drop (optm_sub os vs tm)
  -- what is lent is a list of one's own
  have le : ∀ {a : Addr}, some a ∈ lent os vs → ∃ (j : Nat) (i : Nat), os[j]? = some (.r i) ∧ OwnAt e σ i a ∧ (lent os vs)[j]? = some (some a) := fun {a} h => by
    obtain ⟨j, i, h1, h2, h3, h4⟩ := lent_at o h
    refine ⟨j, i, h1, ?_, h4⟩
    have hj : j < ss.length := by rw [l]; exact (List.getElem?_eq_some_iff.mp h2).1
    obtain ⟨v, q1, q2⟩ := at_ j _ (List.getElem?_eq_getElem hj)
    rw [h2] at q1; cases q1
    rcases q2 with ⟨w, z, d⟩ | ⟨i', a', us, xs, io, z1, z2, z3, z4, z5, z6, z7, _⟩
    · exfalso
      have : ∀ {os : List Opd} {ss : List Slot} {j i : Nat} {w : W}, slotsOf e os = some ss → os[j]? = some (.r i) → ss[j]? = some (.val w) → False := by
        intro os
        induction os with
        | nil => intro ss j i w _ h; simp at h
        | cons o os ih =>
          intro ss j i w h1 h2 h3
          cases o with
          | w x =>
            unfold slotsOf at h1
            obtain ⟨ys, q, rfl⟩ := Option.map_eq_some_iff.mp h1
            cases j with
            | zero => simp at h2
            | succ j => exact ih q (by simpa using h2) (by simpa using h3)
          | r k =>
            unfold slotsOf at h1
            split at h1
            · obtain ⟨ys, q, rfl⟩ := Option.map_eq_some_iff.mp h1
              cases j with
              | zero => simp at h3
              | succ j => exact ih q (by simpa using h2) (by simpa using h3)
            · cases h1
      exact this hs h1 (by rw [List.getElem?_eq_getElem hj, z])
    · cases z3
      rw [h1] at z2; cases z2
      exact z4
  have un : ∀ {i : Nat} {a : Addr}, OwnAt e2 σ i a → OwnAt e σ i a := fun {i a} ⟨io, xs, z1, z2⟩ => by
    rcases at2 i _ z1 with ⟨y1, _⟩ | ⟨j, jo, ys, ys', y1, y2, y3, y4⟩
    · exact ⟨io, xs, y1, z2⟩
    · exact ⟨jo, ys, y2, z2⟩
  -- one's own list that is not lent stays
  have stay : ∀ {s : Slot} {v : V}, SlotR K N G H s v → (∀ a, ownA (s, v) = some a → some a ∉ lent os vs) → SlotR K N G' H' s v := fun {s v} h hn => by
    refine h.mono r'.base fun a z => ?_
    cases s with
    | val w => cases z
    | own io xs =>
      obtain ⟨b, us, rfl, y1, y2, _⟩ := h
      cases z
      refine ⟨?_, (r'.keep _ _ y2 (hn _ rfl)).trans y2.symm⟩
      cases q : G' a with
      | none => rfl
      | some ob =>
        have z : H a = none := r'.gnew a y1 (by rw [q]; simp)
        rw [y2] at z; cases z
  have newp : ∀ p ∈ rt, ∀ a, ownA p = some a → H a = none := fun p hp a ha => by
    obtain ⟨s, v⟩ := p
    cases s with
    | val w => cases ha
    | own io xs =>
      cases io with
      | true => exact absurd rfl (r'.tmo _ hp xs)
      | false =>
        obtain ⟨b, us, rfl, _, _, _, _, z⟩ := r'.tmp _ hp
        cases ha
        exact z rfl
  refine ⟨r'.sub, rr.base.trans r'.base, fun b ob h hb => ?_, fun b hb => ?_, fun b h1 h2 => ?_, l2.trans rr.len, fun i s h => ?_, fun p hp => ?_, fun i j a o1 o2 => rr.nd1 i j a (un o1) (un o2), fun i a o1 p hp => ?_, ?_, fun j xs h => ?_, fun p hp => ?_⟩
  · refine r'.keep b ob (rr.keep b ob h hb) fun z => ?_
    obtain ⟨j, i, _, ⟨io, xs, q1, q2⟩, _⟩ := le z
    obtain ⟨v, q3, a, us, rfl, y1, y2, y3, y4, y5⟩ := rr.slot i _ q1
    rw [q2] at q3; cases q3
    cases io with
    | true => exact hb (y4 rfl)
    | false => rw [y5 rfl] at h; cases h
  · by_cases z : some b ∈ lent os vs
    · exact r'.iob b z
    · cases q : H b with
      | none => exact absurd q (rr.iob b hb)
      | some ob => rw [r'.keep b ob q z]; simp
  · cases q : G b with
    | none => exact rr.h0 (r'.gnew b q h2)
    | some ob => exact rr.gnew b h1 (by rw [q]; simp)
  · rcases at2 i s h with ⟨y1, y2⟩ | ⟨j, io, xs, xs', y1, y2, rfl, y4⟩
    · obtain ⟨v, z1, z2⟩ := rr.slot i s y1
      refine ⟨v, z1, stay z2 fun a ha hl => ?_⟩
      obtain ⟨j, i', q1, q2, _⟩ := le hl
      cases s with
      | val w => cases ha
      | own io xs =>
        cases v with
        | ref b =>
          cases ha
          have := rr.nd1 i i' a ⟨io, xs, y1, z1⟩ q2
          subst this
          exact y2 j q1
        | _ => cases ha
    · obtain ⟨v, z1, a, us, rfl, q1, q2, q3, q4, q5⟩ := rr.slot i _ y2
      refine ⟨_, z1, ?_⟩
      obtain ⟨b, p1, p2⟩ := r'.iop j xs' y4
      obtain ⟨v', p3, b', us', rfl, p4, p5, p6, _⟩ := r'.slot j _ y4
      rw [p2] at p3; cases p3
      -- b is a
      have hj : j < ss.length := by
        have : j < (lent os vs).length := (List.getElem?_eq_some_iff.mp p1).1
        have ll : ∀ (os : List Opd) (vs : List V), (lent os vs).length ≤ vs.length := by
          intro os
          induction os with
          | nil => intro vs; cases vs <;> simp [lent]
          | cons o os ih =>
            intro vs
            cases vs with
            | nil => cases o <;> simp [lent]
            | cons v vs =>
              have := ih vs
              cases o with
              | w x => simp [lent]; exact this
              | r k => cases v <;> simp [lent] <;> exact this
        have := ll os vs
        omega
      obtain ⟨v2, w1, w2⟩ := at_ j _ (List.getElem?_eq_getElem hj)
      have ba : b = a := by
        obtain ⟨j2, i2, f1, f2, f3⟩ := le (List.mem_of_getElem? p1)
        rcases w2 with ⟨w, z, d⟩ | ⟨i', a', us, xs, io, z1', z2', z3', z4', z5', z6', z7', z8', z9'⟩
        · exfalso
          have : ∀ {os : List Opd} {ss : List Slot} {j i : Nat} {w : W}, slotsOf e os = some ss → os[j]? = some (.r i) → ss[j]? = some (.val w) → False := by
            intro os
            induction os with
            | nil => intro ss j i w _ h; simp at h
            | cons o os ih =>
              intro ss j i w h1 h2 h3
              cases o with
              | w x =>
                unfold slotsOf at h1
                obtain ⟨ys, q, rfl⟩ := Option.map_eq_some_iff.mp h1
                cases j with
                | zero => simp at h2
                | succ j => exact ih q (by simpa using h2) (by simpa using h3)
              | r k =>
                unfold slotsOf at h1
                split at h1
                · obtain ⟨ys, q, rfl⟩ := Option.map_eq_some_iff.mp h1
                  cases j with
                  | zero => simp at h3
                  | succ j => exact ih q (by simpa using h2) (by simpa using h3)
                · cases h1
          exact this hs y1 (by rw [List.getElem?_eq_getElem hj, z])
        · rw [y1] at z2'; cases z2'
          rw [p1] at z9'; cases z9'
          obtain ⟨_, _, _, g2⟩ := z4'
          rw [z1] at g2; cases g2; rfl
      subst ba
      exact ⟨_, us', rfl, p4, p5, p6, q4, q5⟩
  · rcases List.mem_append.mp hp with hp | hp
    · obtain ⟨s, v⟩ := p
      have q := r'.tmp _ hp
      cases s with
      | val w => exact q
      | own io xs =>
        cases io with
        | true => exact absurd rfl (r'.tmo _ hp xs)
        | false =>
          obtain ⟨b, us, rfl, y1, y2, y3, y4, y5⟩ := q
          exact ⟨b, us, rfl, y1, y2, y3, (fun z => by cases z), fun _ => rr.h0 (y5 rfl)⟩
    · refine stay (rr.tmp p hp) fun a ha hl => ?_
      obtain ⟨j, i, q1, q2, _⟩ := le hl
      exact rr.nd2 i a q2 p hp ha
  · rcases List.mem_append.mp hp with hp | hp
    · intro z
      have q := newp p hp a z
      obtain ⟨_, us, q2⟩ := rr.own (un o1)
      rw [q] at q2; cases q2
    · exact rr.nd2 i a (un o1) p hp
  · rw [List.pairwise_append]
    refine ⟨r'.nd3, rr.nd3, fun p hp q hq a h1 h2 => ?_⟩
    have z := newp p hp a h1
    obtain ⟨s, v⟩ := q
    cases s with
    | val w => cases h2
    | own io xs =>
      obtain ⟨b, us, rfl, _, y2, _⟩ := rr.tmp _ hq
      cases h2
      rw [z] at y2; cases y2
  · rcases at2 j _ h with ⟨y1, _⟩ | ⟨k, io, ys, ys', y1, y2, y3, _⟩
    · exact rr.iop j xs y1
    · cases y3; exact rr.iop j ys y2
  · rcases List.mem_append.mp hp with hp | hp
    · exact r'.tmo p hp
    · exact rr.tmo p hp
end
end D

namespace D
open PySem L2 PyProof.Rows

theorem R.perm {K : PySem.W.Frag} {N : En} {G H : Hp} {e : SEnv} {σ : L2.St} {tm tm' : Tm} (r : R K N G H e σ tm) (h : tm.Perm tm') : R K N G H e σ tm' :=
  ⟨r.sub, r.base, r.keep, r.iob, r.gnew, r.len, r.slot, fun p hp => r.tmp p (h.mem_iff.mpr hp), r.nd1, fun i a o p hp => r.nd2 i a o p (h.mem_iff.mpr hp),
    (h.pairwise_iff fun {x y} q a h1 h2 => q a h2 h1).mp r.nd3, r.iop, fun p hp => r.tmo p (h.mem_iff.mpr hp)⟩
theorem R.frzS {K : PySem.W.Frag} {N : En} {G H : Hp} {e : SEnv} {σ : L2.St} {tm : Tm} {x : Slot} {v : V} (r : R K N G H e σ ((x, v) :: tm)) : ∃ G', Same G G' ∧ R K N G' H e σ ((.val x.toW, v) :: tm) := by
  cases x with
  | val w => exact ⟨G, Same.refl _, r⟩
  | own io xs =>
    cases io with
    | true => exact absurd rfl (r.tmo _ List.mem_cons_self xs)
    | false => exact r.frz
theorem R.frzAll {K : PySem.W.Frag} {N : En} {H : Hp} {e : SEnv} {σ : L2.St} : ∀ {xs : List Slot} {us : List V} {G : Hp} {tm : Tm}, R K N G H e σ (xs.zip us ++ tm) → us.length = xs.length → ∃ G', Same G G' ∧ R K N G' H e σ tm ∧ DvAll K G' us (xs.map Slot.toW)
  | [], [], G, tm, r, _ => ⟨G, Same.refl _, r, .nil⟩
  | [], _ :: _, _, _, _, h => by cases h
  | _ :: _, [], _, _, _, h => by cases h
  | x :: xs, u :: us, G, tm, r, h => by
    obtain ⟨G1, g1, r1⟩ := R.frzS (x := x) (v := u) (tm := xs.zip us ++ tm) r
    have r1 : R K N G1 H e σ (xs.zip us ++ ((.val x.toW, u) :: tm)) := r1.perm List.perm_middle.symm
    obtain ⟨G2, g2, r2, d⟩ := R.frzAll (xs := xs) (us := us) r1 (by simpa using h)
    exact ⟨G2, g1.trans g2, r2.tail, .cons (r2.tmp _ List.mem_cons_self) d⟩
theorem R.gup {K : PySem.W.Frag} {N : En} {G H : Hp} {e : SEnv} {σ : L2.St} {tm : Tm} (r : R K N G H e σ tm) {t : Addr} {us : List V} (h : H t = some (.tup us)) (gt : G t = none) (h0 : N.H0 t = none) : R K N (upd G t (.tup us)) H e σ tm := by
  have g := same_upd gt (.tup us)
  have ow : ∀ {s : Slot} {v : V}, SlotR K N G H s v → SlotR K N (upd G t (.tup us)) H s v := fun {s v} q => by
    refine q.mono g fun a z => ⟨?_, rfl⟩
    cases s with
    | val w => cases z
    | own io xs =>
      obtain ⟨b, vs, rfl, q1, q2, _⟩ := q
      cases z
      have : a ≠ t := fun z => by rw [z, h] at q2; cases q2
      rw [upd_ne this]; exact q1
  refine ⟨fun b o q => ?_, r.base.trans g, r.keep, r.iob, fun b h1 h2 => ?_, r.len, fun i s q => ?_, fun p hp => ow (r.tmp p hp), r.nd1, r.nd2, r.nd3, r.iop, r.tmo⟩
  · by_cases hb : b = t
    · subst hb; rw [upd_same] at q; rw [h]; exact q
    · rw [upd_ne hb] at q; exact r.sub _ _ q
  · by_cases hb : b = t
    · subst hb; exact h0
    · rw [upd_ne hb] at h2; exact r.gnew b h1 h2
  · obtain ⟨v, q1, q2⟩ := r.slot i s q
    exact ⟨v, q1, ow q2⟩

/-! ## readings -/
abbrev KX := Str → SEnv → L2.St → Hp → Prop
section
variable (K : PySem.W.Frag) (N : En) (Γ : Gam) (kx : KX)
def Out {α : Type} (σ : L2.St) (tm : Tm) (r : Res α) (post : α → SEnv → Prop) : Prop := match r with
  | .ok a e' => post a e'
  | .exc c e' => ∀ H' G', R K N G' H' e' σ tm → kx c e' σ H'
  | .bad => False
def PostE (σ : L2.St) (tm : Tm) (Q : VK) (rv : RV) (e' : SEnv) : Prop := match rv with
  | .s x => ∀ v H' G', R K N G' H' e' σ ((x, v) :: tm) → Q v H'
  | .t xs => ∀ t us H' G', H' t = some (.tup us) → G' t = none → N.H0 t = none → us.length = xs.length → R K N G' H' e' σ (xs.zip us ++ tm) → Q (.ref t) H'
def PostV (σ : L2.St) (tm : Tm) (Q : VK) (rv : RV) (e' : SEnv) : Prop := ∀ v H' G', R K N G' H' e' σ ((.val rv.toW, v) :: tm) → Q v H'
def tE (x : E) : TE := fun σ H Q => ∃ G e tm, R K N G H e σ tm ∧ Out K N kx σ tm (evE Γ x e) (PostE K N σ tm Q)
def tV (x : E) : TE := fun σ H Q => ∃ G e tm, R K N G H e σ tm ∧ Out K N kx σ tm (evE Γ x e) (PostV K N σ tm Q)
def tT (x : E) : TT := fun σ H Q => ∃ G e tm, R K N G H e σ tm ∧ Out K N kx σ tm (evT Γ x e) (fun b e' => ∀ H' G', R K N G' H' e' σ tm → Q b H')
def tO (a : A) : TE := fun σ H Q => ∃ G e tm, R K N G H e σ tm ∧ Out K N kx σ tm (evA Γ a e) (fun o e' => ∀ v H' G', R K N G' H' e' σ (optm [o] [v] ++ tm) → OpsR σ [o] [v] → Q v H')
def tAs (as : List A) : TA := fun σ H Q => ∃ G e tm, R K N G H e σ tm ∧ Out K N kx σ tm (evAs Γ as e) (fun os e' => ∀ vs H' G', R K N G' H' e' σ (optm os vs ++ tm) → OpsR σ os vs → Q vs H')
def tEs (as : List E) : TA := fun σ H Q => ∃ G e tm, R K N G H e σ tm ∧ Out K N kx σ tm (evEs Γ as e) (fun xs e' => ∀ us H' G', us.length = xs.length → R K N G' H' e' σ (xs.zip us ++ tm) → Q us H')
def tOp' (a : Option E) : TO := fun σ H Q => ∃ G e tm, R K N G H e σ tm ∧ Out K N kx σ tm (evO Γ a e) (fun o e' => ∀ H' G', R K N G' H' e' σ tm → Q o H')
end
section
variable {K : PySem.W.Frag} {N : En} {Γ : Gam} {kx : KX}
theorem Out.bind {α β : Type} {σ : L2.St} {tm : Tm} {r : Res α} {f : α → SEnv → Res β} {post : β → SEnv → Prop} (h : Out K N kx σ tm (r.bind f) post) : Out K N kx σ tm r (fun a e' => Out K N kx σ tm (f a e') post) := by
  cases r with
  | ok a e => exact h
  | exc c e => exact h
  | bad => exact h
theorem Out.mono {α : Type} {σ : L2.St} {tm : Tm} {r : Res α} {p q : α → SEnv → Prop} (h : Out K N kx σ tm r p) (f : ∀ a e, p a e → q a e) : Out K N kx σ tm r q := by
  cases r with
  | ok a e => exact f a e h
  | exc c e => exact h
  | bad => exact h
/-- fewer things are pending for an exception -/
theorem Out.more {α : Type} {σ : L2.St} {tm tm' : Tm} {r : Res α} {p : α → SEnv → Prop} (h : Out K N kx σ tm r p) (s : tm.Sublist tm') : Out K N kx σ tm' r p := by
  cases r with
  | ok a e => exact h
  | exc c e => exact fun H' G' r => h H' G' (r.drop s)
  | bad => exact h
theorem tE_of_tV {x : E} {σ : L2.St} {H : Hp} {Q : VK} (h : tV K N Γ kx x σ H Q) : tE K N Γ kx x σ H Q := by
  obtain ⟨G, e, tm, r, o⟩ := h
  refine ⟨G, e, tm, r, o.mono fun rv e' p => ?_⟩
  cases rv with
  | s x =>
    intro v H' G' r'
    obtain ⟨G2, _, r2⟩ := r'.frzS
    exact p v H' G2 r2
  | t xs =>
    intro t us H' G' h1 h2 h3 h4 r'
    obtain ⟨G2, g2, r2, d⟩ := r'.frzAll h4
    cases q : G2 t with
    | none => exact p (.ref t) H' _ ((r2.gup h1 q h3).push (.tup (SqT.of upd_same) (d.mono (same_upd q _))))
    | some o =>
      have z := r2.sub _ _ q
      rw [h1] at z; cases z
      exact p (.ref t) H' G2 (r2.push (.tup (SqT.of q) d))
theorem toV {X : Cx} {ex : Expr} {x : E} (h : PE X ex (tE K N Γ kx x)) : PE X ex (tV K N Γ kx x) := ⟨fun pins s σ H Q I q => h.run pins s σ H Q I (tE_of_tV q)⟩

/-! ## from the machine's text -/
structure Cf where
  N : List Str
  mu : List Nat
  fs : List (Str × List Nat)
  gl : List (Str × W)
  xs : List Str
  cs : List Str := []
  ms : List (Str × Str) := []
  aa : List (Str × Str) := []
def visB (sc : Scope) (x : Str) : Bool := match sc.names.lookup x with
  | some .local => true | some .cell => true | some .free => true | _ => false
def locB (sc : Scope) (x : Str) : Bool := match sc.names.lookup x with
  | some .local => true | some .cell => true | _ => false
def gloB (sc : Scope) (x : Str) : Bool := sc.names.lookup x == some .globalImplicit
def slotOf (cf : Cf) (x : Str) : Option Nat := cf.N.findIdx? (· == x)
def okName (x : Str) : Bool := !(x == ("__debug__" : Str)) && !(x == ("__classdict__" : Str)) && !(x == ("__name__" : Str))
def bltNames : List String := ["len", "min", "max", "tuple", "list", "sum", "any", "all", "sorted"]
def typNames : List String := ["int", "bool", "str", "tuple", "list"]
def mapO {α β : Type} (f : α → Option β) : List α → Option (List β)
  | [] => some []
  | a :: r => match f a, mapO f r with
    | some b, some bs => some (b :: bs)
    | _, _ => none
def isSlice : Expr → Bool
  | .Slice .. => true
  | _ => false
def isIf : Expr → Bool
  | .IfExp .. => true
  | _ => false
/-- a mutable name, by its place -/
def refOf (cf : Cf) (sc : Scope) : Expr → Option Nat
  | .Name x _ => if visB sc x && okName x then match slotOf cf x with
      | some i => if cf.mu.contains i then some i else none
      | none => none
    else none
  | _ => none
/-- a name, by its place -/
def nmOf (cf : Cf) (sc : Scope) : Expr → Option Nat
  | .Name x _ => if visB sc x && okName x then slotOf cf x else none
  | _ => none
def relSc (scope sc : Scope) : Scope := relS scope sc
def blkOkB (N : List Str) (sc scope : Scope) (own : List (Str × Nat)) : Bool :=
  scope.kind == .function && scope.names.all (fun y => scope.names.lookup y.1 == some y.2) && own.all (fun p => N[p.2]? == some p.1)
    && scope.names.all (fun y => !(y.2 == .free) || (sc.names.lookup y.1 == some .cell || sc.names.lookup y.1 == some .free))
    && scope.names.all (fun y => !(y.2 == .local || y.2 == .cell) || ((own.map (·.1)).contains y.1 || !N.contains y.1))
/-- the names of a target -/
def tgNames : Expr → Option (List Str)
  | .Name x _ => some [x]
  | .Tuple es _ _ => mapO (fun | .Name x _ => some x | _ => none) es
  | _ => none
def cTg (cf : Cf) (sc : Scope) : Expr → Option Tg
  | .Name x _ => if locB sc x then (slotOf cf x).map .one else none
  | .Tuple es _ _ => (mapO (fun | .Name x _ => if locB sc x then slotOf cf x else none | _ => none) es).bind fun is => if is.Nodup then some (.many is) else none
  | _ => none
def ownOf (cf : Cf) (tg : Expr) : Option (List (Str × Nat)) := (tgNames tg).bind fun xs => mapO (fun x => (slotOf cf x).map fun i => (x, i)) xs
/-- the k of x[k::-1] -/
def cK : Option Expr → Option (Option Nat)
  | none => some none
  | some (.Constant (.int i) _ _) => if 0 ≤ i then some (some i.toNat) else none
  | some _ => none
/-- the a of set(a) -/
def setArg (sc : Scope) : List Expr → Option Expr
  | [.Call (.Name s _) [a] [] _] => if s == ("set" : Str) && gloB sc s then some a else none
  | _ => none
def cE : Nat → Cf → Scope → Expr → Option E
  | 0, _, _, _ => none
  | n + 1, cf, sc, ex =>
    let cA (a : Expr) : Option A := match refOf cf sc a with
      | some i => some (.r i)
      | none => (cE n cf sc a).map .v
    let cO (a : Option Expr) : Option (Option E) := match a with
      | none => some none
      | some a => (cE n cf sc a).map some
    let cIt (tg iter : Expr) : Option It := match iter with
      | .Call (.Name f _) args [] _ =>
        if gloB sc f && f == ("range" : Str) then (if args.length == 1 || args.length == 2 then (mapO (cE n cf sc) args).map .rng else none)
        else match tg, args with
          | .Tuple .., [a] => if gloB sc f && f == ("enumerate" : Str) then (cA a).map .enum else (cA iter).map .seq
          | .Tuple .., [a, b] => if gloB sc f && f == ("zip" : Str) then (match cA a, cA b with | some a, some b => some (.zip a b) | _, _ => none) else (cA iter).map .seq
          | _, _ => (cA iter).map .seq
      | .Set .. => none
      | _ => (cA iter).map .seq
    match ex with
    | .Name x _ => if !okName x then none else if visB sc x then (slotOf cf x).map .var else if gloB sc x then (cf.gl.lookup x).map .con else none
    | .Constant .none _ _ => some (.con .none)
    | .Constant (.bool b) _ _ => some (.con (.bool b))
    | .Constant (.int i) _ _ => some (.con (.int i))
    | .Constant (.str x) _ _ => some (.con (.str x))
    | .BinOp a op b _ => match cA a, cA b with
      | some a, some b => some (.bin op a b)
      | _, _ => none
    | .UnaryOp .USub a _ => (cE n cf sc a).map .neg
    | .UnaryOp .Not a _ => if isIf a then none else (cE n cf sc a).map .not
    | .Compare a [op] [b] _ => if behindInMarks op b then none else match cA a, cA b with
      | some a, some b => some (.cmp op a b)
      | _, _ => none
    | .Compare a [o1, o2] [b, c] _ => if lastMarks [o1, o2] [b, c] then none else match cE n cf sc a, cE n cf sc b, cE n cf sc c with
      | some a, some b, some c => some (.chn o1 o2 a b c)
      | _, _, _ => none
    | .BoolOp _ [a] _ => if isIf a then none else cE n cf sc a
    | .BoolOp .And (a :: b :: r) pos => if isIf a then none else match cE n cf sc a, cE n cf sc (.BoolOp .And (b :: r) pos) with
      | some a, some b => some (.and a b)
      | _, _ => none
    | .BoolOp .Or (a :: b :: r) pos => if isIf a then none else match cE n cf sc a, cE n cf sc (.BoolOp .Or (b :: r) pos) with
      | some a, some b => some (.or a b)
      | _, _ => none
    | .IfExp t a b _ => if isIf t then none else match cE n cf sc t, cE n cf sc a, cE n cf sc b with
      | some t, some a, some b => some (.ife t a b)
      | _, _, _ => none
    | .Tuple es _ _ => (mapO (cE n cf sc) es).map .tup
    | .List es _ => (mapO (cE n cf sc) es).map .lst
    | .Subscript a (.Slice lo hi none _) _ => match cA a, cO lo, cO hi with
      | some a, some lo, some hi => some (.sli a lo hi)
      | _, _, _ => none
    | .Subscript a (.Slice lo none (some (.UnaryOp .USub (.Constant (.int 1) _ _) _)) _) _ => match cA a, cK lo with
      | some a, some k => some (.rev a k)
      | _, _ => none
    | .Subscript a i _ => if isSlice i then none else match cA a, cE n cf sc i with
      | some a, some i => some (.idx a i)
      | _, _ => none
    | .Call (.Name f _) args [] _ =>
      if !(gloB sc f && okName f) then none
      else if f == ("len" : Str) && (setArg sc args).isSome then (setArg sc args).bind fun a => (cE n cf sc a).map .lset
      else if f == ("isinstance" : Str) then match args with
        | [a, .Name T _] => match typNames.find? (fun (t : String) => (t : Str) == T) with
          | some t => if gloB sc T then (cA a).map fun a => .isi a t else none
          | none => none
        | _ => none
      else match bltNames.find? (fun (t : String) => (t : Str) == f) with
        | some t => if args.isEmpty then none else (mapO cA args).map (.blt t)
        | none => match cf.fs.lookup f with
          | some io => if args.isEmpty then none else
            (mapO (fun (p : Nat × Expr) => if io.contains p.1 then (refOf cf sc p.2).map A.r else (cE n cf sc p.2).map A.v) ((List.range args.length).zip args)).map (.call f)
          | none => if !cf.cs.contains f then none else if args.isEmpty then none else (mapO cA args).map (.new f)
    | .Attribute o f _ => match nmOf cf sc o, cf.aa.lookup f with
      | some i, some c => some (.att (.var i) c f)
      | _, _ => none
    | .Call (.Attribute o m ap) args [] cp => if ap.endLine == cp.line then match refOf cf sc o with
      | some i =>
        if m == ("append" : Str) then match args with
          | [a] => (cE n cf sc a).map (.app i)
          | _ => none
        else if m == ("extend" : Str) then match args with
          | [a] => (cA a).map (.ext i)
          | _ => none
        else if m == ("pop" : Str) then match args with
          | [] => some (.pop i none)
          | [a] => (cE n cf sc a).map fun k => .pop i (some k)
          | _ => none
        else none
      | none => if m == ("index" : Str) then match nmOf cf sc o, args with
          | some i, [a] => (cE n cf sc a).map (.lix i)
          | _, _ => none
        else match nmOf cf sc o, cf.ms.lookup m with
          | some i, some c => if args.isEmpty || decide (20 < args.length) then none else (mapO cA args).map (.mth c m (.v (.var i)))
          | _, _ => none
      else none
    | .ListComp elt gens scope _ => match gens with
      | [g] => if g.is_async == 0 then match ownOf cf g.target, cIt g.target g.iter with
        | some own, some it => if blkOkB cf.N sc scope own && !g.ifs.any isIf then match cTg cf scope g.target, cE n cf (relSc scope sc) elt, mapO (cE n cf (relSc scope sc)) g.ifs with
            | some t, some y, some fs => if fs.length ≤ 1 then some (.lc y t it fs (own.map (·.2))) else none
            | _, _, _ => none
          else none
        | _, _ => none
        else none
      | _ => none
    | _ => none
end
end D

namespace D
open PySem L2 PyProof.Rows
section
variable {X : Cx} {N : En} {Γ : Gam} {kx : KX} {ex exa exb exc ext : Expr} {a b c : A} {xa xb xc xt : E} {pos : Pos} {i : Nat}

theorem s_var {x : Str} (hN : X.N[i]? = some x) (hv : Vis X.env.scope x) (hd : (x == ("__debug__" : Str)) = false) (hcd : (x == ("__classdict__" : Str)) = false) : PE X (.Name x pos) (tE X.K N Γ kx (.var i)) := by
  refine ⟨fun pins s σ H Q I h => ?_⟩
  obtain ⟨G, e, tm, r, o⟩ := h
  have go : ∀ v, σ[i]? = some (some v) → Q v H → wpAny (model X.prog X.w) X.A (eval (.Name x pos) X.env) (EP X pins σ Q) X.xe s := fun v h1 h2 => (pe_var hN hv hd hcd).run pins s σ H Q I ⟨v, h1, h2⟩
  unfold evE at o
  split at o
  · rename_i w he
    obtain ⟨v, h1, h2⟩ := r.slot i _ he
    exact go v h1 (o v H G (r.push h2))
  · rename_i xs he
    obtain ⟨G', v, h1, _, r'⟩ := r.frzSlot he
    exact go v h1 (o v H G' r')
  · exact o.elim
theorem s_mov {x : Str} (hN : X.N[i]? = some x) (hv : Vis X.env.scope x) (hd : (x == ("__debug__" : Str)) = false) (hcd : (x == ("__classdict__" : Str)) = false) : PE X (.Name x pos) (tE X.K N Γ kx (.mov i)) := by
  refine ⟨fun pins s σ H Q I h => ?_⟩
  obtain ⟨G, e, tm, r, o⟩ := h
  unfold evE at o
  split at o
  · rename_i xs he
    obtain ⟨v, h1, r'⟩ := r.take he
    exact (pe_var hN hv hd hcd).run pins s σ H Q I ⟨v, h1, o v H G r'⟩
  · exact o.elim
theorem s_ref {x : Str} (hN : X.N[i]? = some x) (hv : Vis X.env.scope x) (hd : (x == ("__debug__" : Str)) = false) (hcd : (x == ("__classdict__" : Str)) = false) : PE X (.Name x pos) (tO X.K N Γ kx (.r i)) := by
  refine ⟨fun pins s σ H Q I h => ?_⟩
  obtain ⟨G, e, tm, r, o⟩ := h
  unfold evA at o
  split at o
  · rename_i io xs he
    obtain ⟨v, h1, h2⟩ := r.slot i _ he
    exact (pe_var hN hv hd hcd).run pins s σ H Q I ⟨v, h1, o v H G r ⟨h1, trivial⟩⟩
  · rename_i w he
    obtain ⟨v, h1, h2⟩ := r.slot i _ he
    exact (pe_var hN hv hd hcd).run pins s σ H Q I ⟨v, h1, o v H G (r.push h2) trivial⟩
  · exact o.elim
theorem s_v (h : PE X ex (tE X.K N Γ kx xa)) : PE X ex (tO X.K N Γ kx (.v xa)) := by
  refine ⟨fun pins s σ H Q I q => ?_⟩
  refine (toV h).run pins s σ H Q I ?_
  obtain ⟨G, e, tm, r, o⟩ := q
  unfold evA at o
  exact ⟨G, e, tm, r, o.bind.mono fun rv e' p v H' G' r' => p v H' G' r' trivial⟩
theorem s_con {v : V} {w : W} (h : PE X ex (tC v)) (d : ∀ G, Dv X.K G v w) : PE X ex (tE X.K N Γ kx (.con w)) := by
  refine ⟨fun pins s σ H Q I q => h.run pins s σ H Q I ?_⟩
  obtain ⟨G, e, tm, r, o⟩ := q
  unfold evE at o
  exact o v H G (r.push (d G))
theorem R.fin {K : PySem.W.Frag} {N : En} {G H H' : Hp} {e : SEnv} {σ : L2.St} {tm tm' : Tm} {rv : RV} {v : V} {Q : VK} (r : R K N G H e σ tm') (s : tm.Sublist tm') (h : OP K G H rv v H') (p : PostE K N σ tm Q rv e) : Q v H' := by
  cases rv with
  | s x =>
    obtain ⟨G', _, r'⟩ := r.post h
    exact p v H' G' (r'.drop (s.cons₂ _))
  | t xs => exact h.elim
theorem two_bv {K : PySem.W.Frag} {G H : Hp} {e : SEnv} {σ : L2.St} {tm : Tm} {o1 o2 : Opd} {v y : V} {wx wy : W} (r : R K N G H e σ (optm [o2] [y] ++ (optm [o1] [v] ++ tm))) (q1 : OpsR σ [o1] [v]) (q2 : OpsR σ [o2] [y])
    (h1 : o1.get e = some wx) (h2 : o2.get e = some wy) : Bv K G H v wx ∧ Bv K G H y wy := by
  refine ⟨get_bv r h1 (fun x z => ?_) (fun i z => by subst z; exact q1.1), get_bv r h2 (fun x z => ?_) (fun i z => by subst z; exact q2.1)⟩
  · subst z
    exact r.tmp (.val x, v) (List.mem_append_right _ List.mem_cons_self)
  · subst z
    exact r.tmp (.val x, y) List.mem_cons_self
theorem s_bin {op : Operator} (ha : PE X exa (tO X.K N Γ kx a)) (hb : PE X exb (tO X.K N Γ kx b)) : PE X (.BinOp exa op exb pos) (tE X.K N Γ kx (.bin op a b)) := by
  refine ⟨fun pins s σ H Q I h => (pe_op (op_bin op) ha hb).run pins s σ H Q I ?_⟩
  obtain ⟨G, e, tm, r, o⟩ := h
  unfold evE at o
  refine ⟨G, e, tm, r, o.bind.mono fun o1 e1 p1 v H1 G1 r1 q1 => ?_⟩
  refine ⟨G1, e1, _, r1, (p1.bind.more (optm_sub _ _ tm)).mono fun o2 e2 p2 y H2 G2 r2 q2 => ?_⟩
  split at p2
  · rename_i wx wy h1 h2
    obtain ⟨b1, b2⟩ := two_bv r2 q1 q2 h1 h2
    unfold optR at p2
    split at p2
    · rename_i rv hb
      exact ⟨G2, wx, wy, rv, r2.sub, b1, b2, hb, fun v H' op => r2.fin ((optm_sub _ _ tm).trans (optm_sub _ _ _)) op p2⟩
    · exact p2.elim
  · exact p2.elim
theorem c_cmp {op : CmpOp} {σ : L2.St} {H : Hp} {Q : Bool → Hp → Prop} {G : Hp} {e : SEnv} {tm : Tm} (r : R X.K N G H e σ tm)
    (o : Out X.K N kx σ tm ((evA Γ a e).bind fun x e => (evA Γ b e).bind fun y e => match x.get e, y.get e with
      | some x, some y => optR (cmpop op x y) e
      | _, _ => .bad) (fun b e' => ∀ H' G', R X.K N G' H' e' σ tm → Q b H')) : tOp (rCmp X.K op) (tO X.K N Γ kx a) (tO X.K N Γ kx b) σ H (fun v H' => ∃ k, v = .bl k ∧ Q k H') := by
  refine ⟨G, e, tm, r, o.bind.mono fun o1 e1 p1 v H1 G1 r1 q1 => ?_⟩
  refine ⟨G1, e1, _, r1, (p1.bind.more (optm_sub _ _ tm)).mono fun o2 e2 p2 y H2 G2 r2 q2 => ?_⟩
  split at p2
  · rename_i wx wy h1 h2
    obtain ⟨b1, b2⟩ := two_bv r2 q1 q2 h1 h2
    unfold optR at p2
    split at p2
    · rename_i k hb
      exact ⟨G2, wx, wy, k, r2.sub, b1, b2, hb, k, rfl, p2 H2 G2 (r2.drop ((optm_sub _ _ tm).trans (optm_sub _ _ _)))⟩
    · exact p2.elim
  · exact p2.elim
theorem s_cmp {op : CmpOp} (hu : X.A.units + 65 < cLine) (ha : PE X exa (tO X.K N Γ kx a)) (hb : PE X exb (tO X.K N Γ kx b)) (hm : behindInMarks op exb = false) : PE X (.Compare exa [op] [exb] pos) (tE X.K N Γ kx (.cmp op a b)) := by
  refine ⟨fun pins s σ H Q I h => (pe_cmpR (op_cmp hu op) ha hb hm).run pins s σ H Q I ?_⟩
  obtain ⟨G, e, tm, r, o⟩ := h
  unfold evE at o
  refine ⟨G, e, tm, r, o.bind.mono fun o1 e1 p1 v H1 G1 r1 q1 => ?_⟩
  refine ⟨G1, e1, _, r1, (p1.bind.more (optm_sub _ _ tm)).mono fun o2 e2 p2 y H2 G2 r2 q2 => ?_⟩
  split at p2
  · rename_i wx wy h1 h2
    obtain ⟨b1, b2⟩ := two_bv r2 q1 q2 h1 h2
    cases hk : cmpop op wx wy with
    | none => rw [hk] at p2; exact p2.elim
    | some k =>
      rw [hk] at p2
      exact ⟨G2, wx, wy, k, r2.sub, b1, b2, hk, p2 _ H2 G2 ((r2.drop ((optm_sub _ _ tm).trans (optm_sub _ _ _))).push (.bl k))⟩
  · exact p2.elim
theorem p_cmp {op : CmpOp} (hu : X.A.units + 65 < cLine) (ha : PE X exa (tO X.K N Γ kx a)) (hb : PE X exb (tO X.K N Γ kx b)) (hm : behindInMarks op exb = false) : PT X (.Compare exa [op] [exb] pos) (tT X.K N Γ kx (.cmp op a b)) := by
  refine ⟨fun pins s σ H Q I h => (pt_cmpR (op_cmp hu op) ha hb hm).run pins s σ H Q I ?_⟩
  obtain ⟨G, e, tm, r, o⟩ := h
  refine c_cmp r ?_
  unfold evT evE at o
  cases h1 : evA Γ a e with
  | bad => rw [h1] at o; exact o.elim
  | exc c e1 => rw [h1] at o; exact o
  | ok o1 e1 =>
    rw [h1] at o
    simp only [Res.bind] at o ⊢
    cases h2 : evA Γ b e1 with
    | bad => rw [h2] at o; exact o.elim
    | exc c e1 => rw [h2] at o; exact o
    | ok o2 e2 =>
      rw [h2] at o
      simp only [Res.bind] at o ⊢
      cases g1 : o1.get e2 with
      | none => rw [g1] at o; exact o.elim
      | some wx =>
        cases g2 : o2.get e2 with
        | none => rw [g1, g2] at o; exact o.elim
        | some wy =>
          rw [g1, g2] at o
          simp only at o ⊢
          cases hk : cmpop op wx wy with
          | none => rw [hk] at o; exact o.elim
          | some k => rw [hk] at o; exact o
theorem s_chn {o1 o2 : CmpOp} (hu : X.A.units + 65 < cLine) (ha : PE X exa (tE X.K N Γ kx xa)) (hb : PE X exb (tE X.K N Γ kx xb)) (hc : PE X exc (tE X.K N Γ kx xc)) (hm : lastMarks [o1, o2] [exb, exc] = false) :
    PE X (.Compare exa [o1, o2] [exb, exc] pos) (tE X.K N Γ kx (.chn o1 o2 xa xb xc)) ∧ PT X (.Compare exa [o1, o2] [exb, exc] pos) (tT X.K N Γ kx (.chn o1 o2 xa xb xc)) := by
  have key : ∀ (σ : L2.St) (H G : Hp) (e : SEnv) (tm : Tm) (Q : Bool → Hp → Prop), R X.K N G H e σ tm → Out X.K N kx σ tm (evE Γ (.chn o1 o2 xa xb xc) e) (fun rv e' => ∃ k, rv = .s (.val (.bool k)) ∧ ∀ H' G', R X.K N G' H' e' σ tm → Q k H') →
      tChain (rCmp X.K o1) (rCmp X.K o2) (tV X.K N Γ kx xa) (tV X.K N Γ kx xb) (tV X.K N Γ kx xc) σ H (fun v H' => ∃ k, v = .bl k ∧ Q k H') := by
    intro σ H G e tm Q r o
    unfold evE at o
    refine ⟨G, e, tm, r, o.bind.mono fun rv e1 p1 v H1 G1 r1 => ?_⟩
    refine ⟨G1, e1, _, r1, (p1.bind.more (List.sublist_cons_self _ _)).mono fun rw e2 p2 y H2 G2 r2 => ?_⟩
    have bx : Bv X.K G2 H2 v rv.toW := .inl (r2.tmp (.val rv.toW, v) (List.mem_cons_of_mem _ List.mem_cons_self))
    have bY : Bv X.K G2 H2 y rw.toW := .inl (r2.tmp (.val rw.toW, y) List.mem_cons_self)
    split at p2
    · rename_i hk
      refine ⟨G2, _, _, true, r2.sub, bx, bY, hk, true, rfl, ?_⟩
      rw [if_pos rfl]
      refine ⟨G2, e2, _, r2, (p2.bind.more ((List.sublist_cons_self _ _).trans (List.sublist_cons_self _ _))).mono fun rz e3 p3 z H3 G3 r3 => ?_⟩
      have bY : Bv X.K G3 H3 y rw.toW := .inl (r3.tmp (.val rw.toW, y) (List.mem_cons_of_mem _ List.mem_cons_self))
      have bz : Bv X.K G3 H3 z rz.toW := .inl (r3.tmp (.val rz.toW, z) List.mem_cons_self)
      cases hk2 : cmpop o2 rw.toW rz.toW with
      | none => rw [hk2] at p3; exact p3.elim
      | some k =>
        rw [hk2] at p3
        obtain ⟨k', e', p3⟩ := p3
        cases e'
        exact ⟨G3, _, _, k, r3.sub, bY, bz, hk2, k, rfl, p3 H3 G3 r3.tail.tail.tail⟩
    · rename_i hk
      obtain ⟨k', e', p2⟩ := p2
      cases e'
      refine ⟨G2, _, _, false, r2.sub, bx, bY, hk, false, rfl, ?_⟩
      rw [if_neg Bool.false_ne_true]
      exact ⟨false, rfl, p2 H2 G2 r2.tail.tail⟩
    · exact p2.elim
  have bool : ∀ e, ∀ rv e', evE Γ (.chn o1 o2 xa xb xc) e = .ok rv e' → ∃ k, rv = .s (.val (.bool k)) := by
    intro e rv e' h
    unfold evE at h
    cases h1 : evE Γ xa e with
    | bad => rw [h1] at h; cases h
    | exc c e1 => rw [h1] at h; cases h
    | ok x e1 =>
      rw [h1] at h
      simp only [Res.bind] at h
      cases h2 : evE Γ xb e1 with
      | bad => rw [h2] at h; cases h
      | exc c e1 => rw [h2] at h; cases h
      | ok y e2 =>
        rw [h2] at h
        simp only [Res.bind] at h
        split at h
        · cases h3 : evE Γ xc e2 with
          | bad => rw [h3] at h; cases h
          | exc c e1 => rw [h3] at h; cases h
          | ok z e3 =>
            rw [h3] at h
            simp only [Res.bind] at h
            cases hk : cmpop o2 y.toW z.toW with
            | none => rw [hk] at h; cases h
            | some k => rw [hk] at h; cases h; exact ⟨k, rfl⟩
        · cases h; exact ⟨false, rfl⟩
        · cases h
  constructor
  · refine ⟨fun pins s σ H Q I h => (pe_chain (op_cmp hu o1) (op_cmp hu o2) (toV ha) (toV hb) (toV hc) hm).run pins s σ H Q I ?_⟩
    obtain ⟨G, e, tm, r, o⟩ := h
    have mono : ∀ {Q Q' : VK}, (∀ v H, Q v H → Q' v H) → tChain (rCmp X.K o1) (rCmp X.K o2) (tV X.K N Γ kx xa) (tV X.K N Γ kx xb) (tV X.K N Γ kx xc) σ H Q → tChain (rCmp X.K o1) (rCmp X.K o2) (tV X.K N Γ kx xa) (tV X.K N Γ kx xb) (tV X.K N Γ kx xc) σ H Q' := by
      intro Q Q' hq h
      obtain ⟨G, e, tm, r, o⟩ := h
      refine ⟨G, e, tm, r, o.mono fun rv e1 p v H1 G1 r1 => ?_⟩
      obtain ⟨G, e, tm, r, o⟩ := p v H1 G1 r1
      refine ⟨G, e, tm, r, o.mono fun rv e1 p v H1 G1 r1 => ?_⟩
      obtain ⟨G, wx, wy, b, g, bx, bY, hb, k, ek, q⟩ := p v H1 G1 r1
      refine ⟨G, wx, wy, b, g, bx, bY, hb, k, ek, ?_⟩
      cases k with
      | true =>
        rw [if_pos rfl] at q ⊢
        obtain ⟨G, e, tm, r, o⟩ := q
        refine ⟨G, e, tm, r, o.mono fun rv e1 p v H1 G1 r1 => ?_⟩
        obtain ⟨G, wx, wy, b, g, bx, bY, hb, q⟩ := p v H1 G1 r1
        exact ⟨G, wx, wy, b, g, bx, bY, hb, hq _ _ q⟩
      | false =>
        rw [if_neg Bool.false_ne_true] at q ⊢
        exact hq _ _ q
    refine mono ?_ (key σ H G e tm (fun k H' => Q (.bl k) H') r ?_)
    · rintro v H ⟨k, rfl, q⟩
      exact q
    · cases hr : evE Γ (.chn o1 o2 xa xb xc) e with
      | bad => rw [hr] at o; exact o.elim
      | exc c e1 => rw [hr] at o; exact o
      | ok rv e1 =>
        rw [hr] at o
        obtain ⟨k, rfl⟩ := bool e rv e1 hr
        exact ⟨k, rfl, fun H' G' r' => o (.bl k) H' G' (r'.push (.bl k))⟩
  · refine ⟨fun pins s σ H Q I h => (pt_chain (op_cmp hu o1) (op_cmp hu o2) (toV ha) (toV hb) (toV hc) hm).run pins s σ H Q I ?_⟩
    obtain ⟨G, e, tm, r, o⟩ := h
    refine key σ H G e tm Q r ?_
    unfold evT at o
    cases hr : evE Γ (.chn o1 o2 xa xb xc) e with
    | bad => rw [hr] at o; exact o.elim
    | exc c e1 => rw [hr] at o; exact o
    | ok rv e1 =>
      rw [hr] at o
      obtain ⟨k, rfl⟩ := bool e rv e1 hr
      exact ⟨k, rfl, o⟩
end
end D

namespace D
open PySem L2 PyProof.Rows
section
variable {X : Cx} {N : En} {Γ : Gam} {kx : KX} {ex exa exb exc ext : Expr} {a b c : A} {xa xb xc xt : E} {pos : Pos} {i : Nat}
theorem out_ok {K : PySem.W.Frag} {α : Type} {σ : L2.St} {tm : Tm} {r : Res α} {p : α → SEnv → Prop} (h : Out K N kx σ tm r p) : (∃ a e, r = .ok a e ∧ p a e) ∨ (∃ c e, r = .exc c e ∧ ∀ H' G', R K N G' H' e σ tm → kx c e σ H') := by
  cases r with
  | ok a e => exact .inl ⟨a, e, rfl, h⟩
  | exc c e => exact .inr ⟨c, e, rfl, h⟩
  | bad => exact h.elim
/-- a test is an expression's value where the machine takes it so -/
theorem p_val (h : PE X ex (tE X.K N Γ kx xa)) (he : ∀ whole, isTrue ex X.env whole = (do let v ← whole; standAt ex.pos; holding [v] (truthy v))) : PT X ex (tT X.K N Γ kx xa) := by
  refine ⟨fun pins s σ H Q I q => (pt_val (toV h) he).run pins s σ H Q I ?_⟩
  obtain ⟨G, e, tm, r, o⟩ := q
  unfold evT at o
  refine ⟨G, e, tm, r, o.bind.mono fun rv e' p v H' G' r' => ?_⟩
  have d := r'.tmp _ List.mem_cons_self
  split at p
  · rename_i b hb
    rw [hb] at d
    cases d
    exact ⟨b, rfl, p H' G' r'.tail⟩
  · exact p.elim
theorem s_neg (ha : PE X exa (tE X.K N Γ kx xa)) : PE X (.UnaryOp .USub exa pos) (tE X.K N Γ kx (.neg xa)) := by
  refine ⟨fun pins s σ H Q I h => (pe_un un_neg (toV ha)).run pins s σ H Q I ?_⟩
  obtain ⟨G, e, tm, r, o⟩ := h
  unfold evE at o
  refine ⟨G, e, tm, r, o.bind.mono fun rv e' p v H' G' r' => ?_⟩
  have d := r'.tmp _ List.mem_cons_self
  split at p
  · rename_i j hb
    rw [hb] at d
    cases d
    exact ⟨j, rfl, p _ H' G' (r'.tail.push (.int _))⟩
  · exact p.elim
theorem s_not (ha : PE X exa (tE X.K N Γ kx xa)) : PE X (.UnaryOp .Not exa pos) (tE X.K N Γ kx (.not xa)) := by
  refine ⟨fun pins s σ H Q I h => (pe_not (toV ha)).run pins s σ H Q I ?_⟩
  obtain ⟨G, e, tm, r, o⟩ := h
  unfold evE at o
  refine ⟨G, e, tm, r, o.bind.mono fun rv e' p v H' G' r' => ?_⟩
  have d := r'.tmp _ List.mem_cons_self
  split at p
  · rename_i j hb
    rw [hb] at d
    cases d
    exact ⟨j, rfl, p _ H' G' (r'.tail.push (.bl _))⟩
  · exact p.elim
/-- an expression's outcome as a test's -/
theorem evT_cases {σ : L2.St} {tm : Tm} {e : SEnv} {p : Bool → SEnv → Prop} {K : PySem.W.Frag} (h : Out K N kx σ tm (evT Γ xa e) p) : Out K N kx σ tm (evE Γ xa e) (fun rv e' => ∃ b, rv.toW = .bool b ∧ p b e') := by
  unfold evT at h
  refine h.bind.mono fun rv e' q => ?_
  split at q
  · rename_i b hb
    exact ⟨b, hb, q⟩
  · exact q.elim
theorem evT_of {σ : L2.St} {tm : Tm} {e : SEnv} {p : Bool → SEnv → Prop} {K : PySem.W.Frag} (h : Out K N kx σ tm (evE Γ xa e) (fun rv e' => ∃ b, rv.toW = .bool b ∧ p b e')) : Out K N kx σ tm (evT Γ xa e) p := by
  unfold evT
  cases hr : evE Γ xa e with
  | bad => rw [hr] at h; exact h.elim
  | exc c e1 => rw [hr] at h; exact h
  | ok rv e1 =>
    rw [hr] at h
    obtain ⟨b, hb, q⟩ := h
    simp only [Res.bind]
    rw [hb]
    exact q
theorem p_not (ha : PT X exa (tT X.K N Γ kx xa)) : PT X (.UnaryOp .Not exa pos) (tT X.K N Γ kx (.not xa)) := by
  refine ⟨fun pins s σ H Q I h => (pt_not ha).run pins s σ H Q I ?_⟩
  obtain ⟨G, e, tm, r, o⟩ := h
  have o := evT_cases o
  unfold evE at o
  refine ⟨G, e, tm, r, evT_of (o.bind.mono fun rv e' p => ?_)⟩
  split at p
  · rename_i j hb
    obtain ⟨b, e1, q⟩ := p
    cases e1
    exact ⟨j, hb, q⟩
  · exact p.elim
theorem s_and {rest : List Expr} (ha : PE X exa (tE X.K N Γ kx xa)) (hb : PE X (.BoolOp .And (exb :: rest) pos) (tE X.K N Γ kx xb)) : PE X (.BoolOp .And (exa :: exb :: rest) pos) (tE X.K N Γ kx (.and xa xb)) := by
  refine ⟨fun pins s σ H Q I h => (pe_and (toV ha) (toV hb)).run pins s σ H Q I ?_⟩
  obtain ⟨G, e, tm, r, o⟩ := h
  unfold evE at o
  refine ⟨G, e, tm, r, o.bind.mono fun rv e' p v H' G' r' => ?_⟩
  have d := r'.tmp _ List.mem_cons_self
  split at p
  · rename_i hb
    rw [hb] at d
    cases d
    refine ⟨true, rfl, ?_⟩
    rw [if_pos rfl]
    exact ⟨G', e', tm, r'.tail, p.bind.mono fun rw e2 q u H2 G2 r2 => q u H2 G2 r2⟩
  · rename_i hb
    rw [hb] at d
    cases d
    refine ⟨false, rfl, ?_⟩
    rw [if_neg Bool.false_ne_true]
    exact p _ H' G' (r'.tail.push (.bl _))
  · exact p.elim
theorem s_or {rest : List Expr} (ha : PE X exa (tE X.K N Γ kx xa)) (hb : PE X (.BoolOp .Or (exb :: rest) pos) (tE X.K N Γ kx xb)) : PE X (.BoolOp .Or (exa :: exb :: rest) pos) (tE X.K N Γ kx (.or xa xb)) := by
  refine ⟨fun pins s σ H Q I h => (pe_or (toV ha) (toV hb)).run pins s σ H Q I ?_⟩
  obtain ⟨G, e, tm, r, o⟩ := h
  unfold evE at o
  refine ⟨G, e, tm, r, o.bind.mono fun rv e' p v H' G' r' => ?_⟩
  have d := r'.tmp _ List.mem_cons_self
  split at p
  · rename_i hb
    rw [hb] at d
    cases d
    refine ⟨true, rfl, ?_⟩
    rw [if_pos rfl]
    exact p _ H' G' (r'.tail.push (.bl _))
  · rename_i hb
    rw [hb] at d
    cases d
    refine ⟨false, rfl, ?_⟩
    rw [if_neg Bool.false_ne_true]
    exact ⟨G', e', tm, r'.tail, p.bind.mono fun rw e2 q u H2 G2 r2 => q u H2 G2 r2⟩
  · exact p.elim
theorem p_and {rest : List Expr} (ha : PT X exa (tT X.K N Γ kx xa)) (hb : PW X (.BoolOp .And (exb :: rest) pos) (tT X.K N Γ kx xb)) : PW X (.BoolOp .And (exa :: exb :: rest) pos) (tT X.K N Γ kx (.and xa xb)) := by
  refine ⟨fun wh pins s σ H Q I h => (pw_and ha hb).run wh pins s σ H Q I ?_⟩
  obtain ⟨G, e, tm, r, o⟩ := h
  have o := evT_cases o
  unfold evE at o
  refine ⟨G, e, tm, r, evT_of (o.bind.mono fun rv e' p => ?_)⟩
  split at p
  · rename_i hb
    refine ⟨true, hb, fun H' G' r' => ?_⟩
    refine iteT ?_
    exact ⟨G', e', tm, r', evT_of (p.bind.mono fun rw e2 q => q)⟩
  · rename_i hb
    refine ⟨false, hb, fun H' G' r' => ?_⟩
    refine iteF ?_
    obtain ⟨b, e1, q⟩ := p
    cases e1
    exact q H' G' r'
  · exact p.elim
theorem p_or {rest : List Expr} (ha : PT X exa (tT X.K N Γ kx xa)) (hb : PW X (.BoolOp .Or (exb :: rest) pos) (tT X.K N Γ kx xb)) : PW X (.BoolOp .Or (exa :: exb :: rest) pos) (tT X.K N Γ kx (.or xa xb)) := by
  refine ⟨fun wh pins s σ H Q I h => (pw_or ha hb).run wh pins s σ H Q I ?_⟩
  obtain ⟨G, e, tm, r, o⟩ := h
  have o := evT_cases o
  unfold evE at o
  refine ⟨G, e, tm, r, evT_of (o.bind.mono fun rv e' p => ?_)⟩
  split at p
  · rename_i hb
    refine ⟨true, hb, fun H' G' r' => ?_⟩
    refine iteT ?_
    obtain ⟨b, e1, q⟩ := p
    cases e1
    exact q H' G' r'
  · rename_i hb
    refine ⟨false, hb, fun H' G' r' => ?_⟩
    refine iteF ?_
    exact ⟨G', e', tm, r', evT_of (p.bind.mono fun rw e2 q => q)⟩
  · exact p.elim
theorem s_ife (ht : PT X ext (tT X.K N Γ kx xt)) (ha : PE X exa (tE X.K N Γ kx xa)) (hb : PE X exb (tE X.K N Γ kx xb)) : PE X (.IfExp ext exa exb pos) (tE X.K N Γ kx (.ife xt xa xb)) := by
  refine ⟨fun pins s σ H Q I h => (pe_ifExp ht ha hb).run pins s σ H Q I ?_⟩
  obtain ⟨G, e, tm, r, o⟩ := h
  unfold evE at o
  refine ⟨G, e, tm, r, evT_of (o.bind.mono fun rv e' p => ?_)⟩
  split at p
  · rename_i hb
    refine ⟨true, hb, fun H' G' r' => ?_⟩
    refine iteT ?_
    exact ⟨G', e', tm, r', p⟩
  · rename_i hb
    refine ⟨false, hb, fun H' G' r' => ?_⟩
    refine iteF ?_
    exact ⟨G', e', tm, r', p⟩
  · exact p.elim
/-! ### several at once -/
theorem sa_nil : PA X [] (tAs X.K N Γ kx []) := by
  refine ⟨fun pos pins s σ H Q I h => pa_nil.run pos pins s σ H Q I ?_⟩
  obtain ⟨G, e, tm, r, o⟩ := h
  unfold evAs at o
  exact o [] H G r trivial
theorem sa_cons {es : List Expr} {as : List A} (ha : PE X ex (tO X.K N Γ kx a)) (hr : PA X es (tAs X.K N Γ kx as)) (hs : starEach (ex :: es) X.env = (false, eval ex X.env) :: starEach es X.env) : PA X (ex :: es) (tAs X.K N Γ kx (a :: as)) := by
  refine ⟨fun pos pins s σ H Q I h => (pa_cons ha hr hs).run pos pins s σ H Q I ?_⟩
  obtain ⟨G, e, tm, r, o⟩ := h
  unfold evAs at o
  refine ⟨G, e, tm, r, o.bind.mono fun o1 e1 p1 v H1 G1 r1 q1 => ?_⟩
  refine ⟨G1, e1, _, r1, (p1.bind.more (optm_sub _ _ tm)).mono fun os e2 p2 vs H2 G2 r2 q2 => ?_⟩
  refine p2 (v :: vs) H2 G2 ?_ ?_
  · have : (optm os vs ++ (optm [o1] [v] ++ tm)).Perm (optm (o1 :: os) (v :: vs) ++ tm) := by
      cases o1 with
      | w x => exact List.perm_middle
      | r i => exact List.Perm.refl _
    exact r2.perm this
  · cases o1 with
    | w x => exact q2
    | r i => exact ⟨q1.1, q2⟩
theorem se_nil : PA X [] (tEs X.K N Γ kx []) := by
  refine ⟨fun pos pins s σ H Q I h => pa_nil.run pos pins s σ H Q I ?_⟩
  obtain ⟨G, e, tm, r, o⟩ := h
  unfold evEs at o
  exact o [] H G rfl r
theorem tE_s {σ : L2.St} {H : Hp} {Q : VK} {K : PySem.W.Frag} {G : Hp} {e : SEnv} {tm : Tm} (r : R K N G H e σ tm)
    (o : Out K N kx σ tm (evE Γ xa e) (fun rv e' => ∀ v H' G', R K N G' H' e' σ (((match rv with | .s x => x | .t xs => .val (.tuple (xs.map Slot.toW))), v) :: tm) → Q v H')) : tE K N Γ kx xa σ H Q := by
  cases hr : evE Γ xa e with
  | bad => rw [hr] at o; exact o.elim
  | exc c e1 => exact ⟨G, e, tm, r, by rw [hr] at o ⊢; exact o⟩
  | ok rv e1 =>
    rw [hr] at o
    cases rv with
    | s x => exact ⟨G, e, tm, r, by rw [hr]; exact o⟩
    | t xs => exact tE_of_tV ⟨G, e, tm, r, by rw [hr]; exact o⟩
theorem se_cons {es : List Expr} {as : List E} (ha : PE X ex (tE X.K N Γ kx xa)) (hr : PA X es (tEs X.K N Γ kx as)) (hs : starEach (ex :: es) X.env = (false, eval ex X.env) :: starEach es X.env) : PA X (ex :: es) (tEs X.K N Γ kx (xa :: as)) := by
  refine ⟨fun pos pins s σ H Q I h => (pa_cons ha hr hs).run pos pins s σ H Q I ?_⟩
  obtain ⟨G, e, tm, r, o⟩ := h
  unfold evEs at o
  refine tE_s r (o.bind.mono fun rv e1 p1 v H1 G1 r1 => ?_)
  refine ⟨G1, e1, _, r1, (p1.bind.more (List.sublist_cons_self _ _)).mono fun xs e2 p2 us H2 G2 hl r2 => ?_⟩
  refine p2 (v :: us) H2 G2 (by simp [hl]) ?_
  exact r2.perm List.perm_middle
theorem s_tup {es : List Expr} {as : List E} {k : Nat} (h : PA X es (tEs X.K N Γ kx as)) : PE X (.Tuple es k pos) (tE X.K N Γ kx (.tup as)) := by
  refine ⟨fun pins s σ H Q I q => (pe_tup h).run pins s σ H Q I ?_⟩
  obtain ⟨G, e, tm, r, o⟩ := q
  unfold evE at o
  refine ⟨G, e, tm, r, o.bind.mono fun xs e1 p us H1 G1 hl r1 => ?_⟩
  split at p
  · rename_i hf
    refine ⟨by rw [hl]; exact of_decide_eq_true hf, fun t ht => ?_⟩
    exact p t us _ G1 upd_same (r1.gn ht) (r1.h0 ht) hl (r1.new ht _)
  · exact p.elim
theorem s_lst {es : List Expr} {as : List E} (h : PA X es (tEs X.K N Γ kx as)) : PE X (.List es pos) (tE X.K N Γ kx (.lst as)) := by
  refine ⟨fun pins s σ H Q I q => (pe_lst h).run pins s σ H Q I ?_⟩
  obtain ⟨G, e, tm, r, o⟩ := q
  unfold evE at o
  refine ⟨G, e, tm, r, o.bind.mono fun xs e1 p us H1 G1 hl r1 => ?_⟩
  split at p
  · rename_i hf
    refine ⟨by rw [hl]; exact of_decide_eq_true hf, fun t ht => ?_⟩
    obtain ⟨G2, g2, r2, d⟩ := r1.frzAll hl
    exact p (.ref t) _ G2 (r2.newL ht d)
  · exact p.elim
theorem s_idx (ha : PE X exa (tO X.K N Γ kx a)) (hb : PE X exb (tE X.K N Γ kx xb)) (hs : PlainIx exb) : PE X (.Subscript exa exb pos) (tE X.K N Γ kx (.idx a xb)) := by
  refine ⟨fun pins s σ H Q I h => (pe_ix ix_idx ha (toV hb) hs).run pins s σ H Q I ?_⟩
  obtain ⟨G, e, tm, r, o⟩ := h
  unfold evE at o
  refine ⟨G, e, tm, r, o.bind.mono fun o1 e1 p1 v H1 G1 r1 q1 => ?_⟩
  refine ⟨G1, e1, _, r1, (p1.bind.more (optm_sub _ _ tm)).mono fun rv e2 p2 y H2 G2 r2 => ?_⟩
  split at p2
  · rename_i wx h1
    have bx : Bv X.K G2 H2 v wx := get_bv r2 h1 (fun x z => by subst z; exact r2.tmp (.val x, v) (List.mem_cons_of_mem _ List.mem_cons_self)) (fun i z => by subst z; exact q1.1)
    have bY : Bv X.K G2 H2 y rv.toW := .inl (r2.tmp _ List.mem_cons_self)
    cases hk : idxop wx rv.toW with
    | none => rw [hk] at p2; exact p2.elim
    | some w =>
      rw [hk] at p2
      exact ⟨G2, wx, _, w, r2.sub, bx, bY, hk, fun u du => p2 u H2 G2 ((r2.tail.drop (optm_sub _ _ tm)).push du)⟩
  · exact p2.elim
theorem atI_natL {α : Type} {xs : List α} {k : Nat} {x : α} (h : xs[k]? = some x) : atI xs (k : Int) = some x := by
  have hl := (List.getElem?_eq_some_iff.mp h).1
  unfold atI ixN
  rw [if_pos (Int.natCast_nonneg k), if_pos (by exact_mod_cast hl)]
  simpa using h
theorem s_pk {k : Nat} (ha : PE X exa (tE X.K N Γ kx xa)) (hb : PE X exb (tC (.int (k : Int)))) (hs : PlainIx exb) : PE X (.Subscript exa exb pos) (tE X.K N Γ kx (.pk xa k)) := by
  refine ⟨fun pins s σ H Q I h => (pe_ix ix_tup ha hb hs).run pins s σ H Q I ?_⟩
  obtain ⟨G, e, tm, r, o⟩ := h
  unfold evE at o
  refine ⟨G, e, tm, r, o.bind.mono fun rv e1 p1 => ?_⟩
  cases rv with
  | s x => exact p1.elim
  | t xs =>
    intro t us H1 G1 h1 h2 h3 h4 r1
    simp only at p1
    cases q : xs[k]? with
    | none => rw [q] at p1; exact p1.elim
    | some x =>
      rw [q] at p1
      obtain ⟨u, hu⟩ : ∃ u, us[k]? = some u := ⟨_, List.getElem?_eq_getElem (by have := (List.getElem?_eq_some_iff.mp q).1; omega)⟩
      have mem : (x, u) ∈ xs.zip us := by
        have : (xs.zip us)[k]? = some (x, u) := List.getElem?_zip_eq_some.mpr ⟨q, hu⟩
        exact List.mem_of_getElem? this
      exact ⟨t, us, (k : Int), u, rfl, rfl, SqT.of h1, atI_natL hu, p1 u H1 G1 (r1.drop (show ((x, u) :: tm).Sublist (xs.zip us ++ tm) from (List.singleton_sublist.mpr mem).append (List.Sublist.refl tm)))⟩
theorem so_none : PO X none (tOp' X.K N Γ kx none) := by
  refine ⟨fun pins s σ H Q I h => po_none.run pins s σ H Q I ?_⟩
  obtain ⟨G, e, tm, r, o⟩ := h
  unfold evO at o
  exact o H G r
theorem so_some (ha : PE X exa (tE X.K N Γ kx xa)) : PO X (some exa) (tOp' X.K N Γ kx (some xa)) := by
  refine ⟨fun pins s σ H Q I h => (po_some (toV ha)).run pins s σ H Q I ?_⟩
  obtain ⟨G, e, tm, r, o⟩ := h
  unfold evO at o
  refine ⟨G, e, tm, r, o.bind.mono fun rv e1 p v H1 G1 r1 => ?_⟩
  have d := r1.tmp _ List.mem_cons_self
  split at p
  · rename_i j hj
    rw [hj] at d
    cases d
    exact ⟨j, rfl, p H1 G1 r1.tail⟩
  · exact p.elim
theorem s_sli {lo hi : Option Expr} {xl xh : Option E} {p2 : Pos} (ha : PE X exa (tO X.K N Γ kx a)) (hl : PO X lo (tOp' X.K N Γ kx xl)) (hh : PO X hi (tOp' X.K N Γ kx xh)) : PE X (.Subscript exa (.Slice lo hi none p2) pos) (tE X.K N Γ kx (.sli a xl xh)) := by
  refine ⟨fun pins s σ H Q I h => (pe_slice sl_sli ha hl hh).run pins s σ H Q I ?_⟩
  obtain ⟨G, e, tm, r, o⟩ := h
  unfold evE at o
  refine ⟨G, e, tm, r, o.bind.mono fun o1 e1 p1 v H1 G1 r1 q1 => ?_⟩
  refine ⟨G1, e1, _, r1, (p1.bind.more (optm_sub _ _ tm)).mono fun l e2 p2 H2 G2 r2 => ?_⟩
  refine ⟨G2, e2, _, r2, (p2.bind.more (optm_sub _ _ tm)).mono fun hi e3 p3 H3 G3 r3 => ?_⟩
  split at p3
  · rename_i wx h1
    have bx : Bv X.K G3 H3 v wx := get_bv r3 h1 (fun x z => by subst z; exact r3.tmp (.val x, v) List.mem_cons_self) (fun i z => by subst z; exact q1.1)
    unfold optR at p3
    split at p3
    · rename_i rv hk
      exact ⟨G3, wx, rv, r3.sub, bx, hk, fun u H' op => r3.fin (optm_sub _ _ tm) op p3⟩
    · exact p3.elim
  · exact p3.elim
theorem s_rev {lo : Option Expr} {k : Option Nat} {tl : TO} {j : Nat} {p1 p2 p3 : Pos} (ha : PE X exa (tO X.K N Γ kx a)) (hl : PO X lo tl) (htl : ∀ σ H Q, Q (upI k) H → tl σ H Q) : PE X (.Subscript exa (.Slice lo none (some (.UnaryOp .USub (.Constant (.int 1) j p1) p2)) p3) pos) (tE X.K N Γ kx (.rev a k)) := by
  refine ⟨fun pins s σ H Q I h => (pe_rev ha hl htl).run pins s σ H Q I ?_⟩
  obtain ⟨G, e, tm, r, o⟩ := h
  unfold evE at o
  refine ⟨G, e, tm, r, o.bind.mono fun o1 e1 p3 v H3 G3 r3 q1 => ?_⟩
  split at p3
  · rename_i wx h1
    have bx : Bv X.K G3 H3 v wx := get_bv r3 h1 (fun x z => by subst z; exact r3.tmp (.val x, v) List.mem_cons_self) (fun i z => by subst z; exact q1.1)
    unfold optR at p3
    split at p3
    · rename_i rv hk
      exact rev_bv r3.sub bx hk fun u H' op => r3.fin (optm_sub _ _ tm) op p3
    · exact p3.elim
  · exact p3.elim
theorem s_blt {f : String} {x : Str} {c : Value} {es : List Expr} {as : List A} {p : Pos} (hu : X.A.units + 65 < cLine) (hc : X.calm = true) (hv : bltV f = some c) (hb : bootBuiltins x = some c) (hg : Gl X x) (hm : X.mg x = none) (ha : PA X (ex :: es) (tAs X.K N Γ kx as)) (hn : x ≠ "__name__") (hdb : (x == ("__debug__" : Str)) = false)
    (he : starEach (ex :: es) X.env = (false, eval ex X.env) :: starEach es X.env) (hpl : ∀ pos, (backTo pos (starEach es X.env)).any (·.1) = false) : PE X (.Call (.Name x p) (ex :: es) [] pos) (tE X.K N Γ kx (.blt f as)) := by
  have key : PE X (.Call (.Name x p) (ex :: es) [] pos) (tCB (rBlt X.K f) (tAs X.K N Γ kx as)) := by
    cases c with
    | builtin id => exact pe_callB (cr_blt hu hc f _ hv) hg hm hb ha hn hdb he (hpl _)
    | type T => exact pe_callTy (cr_blt hu hc f _ hv) hg hm hb ha hn hdb he (hpl _)
    | _ =>
      exfalso
      unfold bltV at hv
      split at hv <;> cases hv
  refine ⟨fun pins s σ H Q I h => key.run pins s σ H Q I ?_⟩
  obtain ⟨G, e, tm, r, o⟩ := h
  unfold evE at o
  refine ⟨G, e, tm, r, o.bind.mono fun os e1 p1 vs H1 G1 r1 q1 => ?_⟩
  split at p1
  · rename_i ws h1
    unfold optR at p1
    split at p1
    · rename_i rv hk
      exact ⟨G1, ws, rv, r1.sub, ops_bv r1 q1 h1, hk, fun u H' op => r1.fin (optm_sub _ _ tm) op p1⟩
    · exact p1.elim
  · exact p1.elim
theorem s_isi {T : String} {y : Str} {p p2 : Pos} (hT : bootBuiltins y = some (.type T)) (hg : Gl X "isinstance") (hm : X.mg "isinstance" = none) (hgT : Gl X y) (hmT : X.mg y = none) (hny : y ≠ "__name__") (hdy : (y == ("__debug__" : Str)) = false)
    (ha : PE X exa (tO X.K N Γ kx a)) (he : starEach (exa :: [.Name y p2]) X.env = (false, eval exa X.env) :: starEach [.Name y p2] X.env) : PE X (.Call (.Name "isinstance" p) [exa, .Name y p2] [] pos) (tE X.K N Γ kx (.isi a T)) := by
  have hTn : PE X (.Name y p2) (tC (.ty T)) := pe_bltn hgT hmT hT rfl hny hdy
  refine ⟨fun pins s σ H Q I h => (pe_callB (cr_isi T) hg hm boot_isinstance (pa_cons ha (pa_cons hTn pa_nil) he) (by decide) (by decide) he rfl).run pins s σ H Q I ?_⟩
  obtain ⟨G, e, tm, r, o⟩ := h
  unfold evE at o
  refine ⟨G, e, tm, r, o.bind.mono fun o1 e1 p1 v H1 G1 r1 q1 => ?_⟩
  split at p1
  · rename_i wx h1
    have bx : Bv X.K G1 H1 v wx := get_bv r1 h1 (fun x z => by subst z; exact r1.tmp (.val x, v) List.mem_cons_self) (fun i z => by subst z; exact q1.1)
    cases hk : isiop wx T with
    | none => rw [hk] at p1; exact p1.elim
    | some k =>
      rw [hk] at p1
      exact ⟨G1, v, wx, k, rfl, r1.sub, bx, hk, p1 _ H1 G1 ((r1.drop (optm_sub _ _ tm)).push (.bl k))⟩
  · exact p1.elim
end
end D

namespace D
open PySem L2 PyProof.Rows
/-! ## a def's promise -/
def RvT (H0 : Hp) (rv : RV) (v : V) (H' G' : Hp) (rt : Tm) : Prop := match rv with
  | .s x => rt = [(x, v)]
  | .t xs => ∃ t us, v = .ref t ∧ H' t = some (.tup us) ∧ G' t = none ∧ H0 t = none ∧ us.length = xs.length ∧ rt = xs.zip us
def spD (K : PySem.W.Frag) (call : List Slot → CRes) (np : Nat) (ca : Str → Addr) : Sp := fun vs H Q E => vs.length = np ∧ ∃ G ss io,
  (∀ k, R K ⟨G, H, io⟩ G H (ss.map some ++ List.replicate k none) (vs.map some ++ List.replicate k none) []) ∧ ss.length = vs.length ∧
  match call ss with
  | .ok rv outs => ∀ v H' G' e' σ' rt, RvT H rv v H' G' rt → R K ⟨G, H, io⟩ G' H' e' σ' rt → outsOf ss e' = some outs → Q v H'
  | .exc c outs => ∀ H' G' e' σ', R K ⟨G, H, io⟩ G' H' e' σ' [] → outsOf ss e' = some outs → E (.ref (ca c)) none H'
  | .bad => False
/-- what is wished of an exception -/
def wxOf (ca : Str → Addr) (kx : KX) : WX := fun cls d σ H => d = none ∧ ∃ c e, cls = .ref (ca c) ∧ kx c e σ H
section
variable {X : Cx} {N : En} {Γ : Gam} {kx : KX} {ex exa exb exc ext : Expr} {a b c : A} {xa xb xc xt : E} {pos : Pos} {i : Nat} {ca : Str → Addr}
theorem s_call {f : Str} {fa : Addr} {fd : FuncData} {ps : List Str} {k : Nat} {es : List Expr} {as : List A} {p : Pos}
    (F : FnOk X.prog X.w X.K X.mg X.base (L2.CX X.prog X.w) k fa fd ps (spD X.K (Γ.call f) ps.length ca)) (hlen : ∀ ss, ss.length ≠ ps.length → Γ.call f ss = .bad) (hr : Room k X.A) (hg : Gl X f) (hm : X.mg f = some (.ref fa)) (hk : PySem.W.keepIn X.K (.ref fa) = true)
    (hb : Binds X.K fd ps []) (tk : Takes X (wxOf ca kx)) (ha : PA X (ex :: es) (tAs X.K N Γ kx as)) (hdb : (f == ("__debug__" : Str)) = false)
    (he : starEach (ex :: es) X.env = (false, eval ex X.env) :: starEach es X.env) (hpl : ∀ pos, (backTo pos (starEach es X.env)).any (·.1) = false) : PE X (.Call (.Name f p) (ex :: es) [] pos) (tE X.K N Γ kx (.call f as)) := by
  refine ⟨fun pins s σ H Q I h => (pe_callS (E := WE (wxOf ca kx)) F hr hg hm hk hb (fun σ => passAt tk σ) ha hdb he (hpl _)).run pins s σ H Q I ?_⟩
  obtain ⟨G, e, tm, r, o⟩ := h
  unfold evE at o
  refine ⟨G, e, tm, r, o.bind.mono fun os e1 p1 vs H1 G1 r1 q1 => ?_⟩
  split at p1
  · rename_i ss hs
    split at p1
    · exact p1.elim
    · rename_i hnd
      have nd : refsNd os = true := by simpa using hnd
      obtain ⟨l, _⟩ := slots_at r1 q1 hs
      have hl : ss.length = ps.length := by
        by_cases z : ss.length = ps.length
        · exact z
        · rw [hlen ss z] at p1; exact p1.elim
      refine ⟨by rw [← l]; exact hl, G1, ss, lent os vs, fun k => r1.enter q1 hs nd k, l, ?_⟩
      split
      · rename_i rv outs hc
        rw [hc] at p1
        simp only at p1
        split at p1
        · rename_i e2 hp
          intro v H' G' e' σ' rt hv r' ho
          have r2 := r1.leave q1 hs nd r' ho hp
          cases rv with
          | s x =>
            have hv : rt = [(x, v)] := hv
            subst hv
            exact p1 v H' G' r2
          | t xs =>
            obtain ⟨t, us, rfl, h1, h2, h3, h4, rfl⟩ := hv
            exact p1 t us H' G' h1 h2 (r1.h0 h3) h4 r2
        · exact p1.elim
      · rename_i c outs hc
        rw [hc] at p1
        simp only at p1
        split at p1
        · rename_i e2 hp
          intro H' G' e' σ' r' ho
          have r2 := r1.leave q1 hs nd r' ho hp
          exact ⟨rfl, c, e2, rfl, p1 H' G' r2⟩
        · exact p1.elim
      · rename_i hc
        rw [hc] at p1
        exact p1.elim
  · exact p1.elim
/-! ### methods of a list of one's own -/
theorem isOwn_at {e : SEnv} {i : Nat} (h : ¬ (!isOwn e i) = true) : ∃ io xs, e[i]? = some (some (.own io xs)) := by
  simp only [Bool.not_eq_true', Bool.not_eq_false] at h
  unfold isOwn at h
  split at h
  · rename_i io xs q
    exact ⟨io, xs, q⟩
  · cases h
theorem s_app {x : Str} {p ap : Pos} (hN : X.N[i]? = some x) (hv : Vis X.env.scope x) (hd : (x == ("__debug__" : Str)) = false) (hcd : (x == ("__classdict__" : Str)) = false)
    (ha : PE X exa (tE X.K N Γ kx xa)) (hline : (ap.endLine == pos.line) = true) (hs : starEach [exa] X.env = [(false, eval exa X.env)]) : PE X (.Call (.Attribute (.Name x p) "append" ap) [exa] [] pos) (tE X.K N Γ kx (.app i xa)) := by
  refine ⟨fun pins s σ H Q I h => (pe_bm PySem.F.plainAttrs_list PySem.F.slot_list_append PySem.F.type_list_append mt_append (pe_var hN hv hd hcd) (pa_cons (toV ha) pa_nil (by rw [hs]; rfl)) rfl (by rw [hs]; rfl) hline (by rw [hs]; rfl) rfl).run pins s σ H Q I ?_⟩
  obtain ⟨G, e, tm, r, o⟩ := h
  unfold evE at o
  split at o
  · exact o.elim
  · rename_i ho
    obtain ⟨io, xs, he⟩ := isOwn_at ho
    obtain ⟨v, h1, a, vs, rfl, q1, q2, q3, q4⟩ := r.slot i _ he
    refine ⟨_, h1, .inl ⟨rfl, vs, .inl (.inl q2)⟩, G, e, tm, r, o.bind.mono fun rv e' p y H' G' r' => ?_⟩
    split at p
    · rename_i jo ys he'
      split at p
      · rename_i hz
        obtain ⟨v', h1', a', vs', rfl, q1', q2', q3', q4'⟩ := r'.slot i _ he'
        rw [h1] at h1'; cases h1'
        have dy := r'.tmp _ List.mem_cons_self
        refine ⟨a, vs', y, rfl, rfl, q2', by rw [q3'.length]; exact hz, ?_⟩
        exact p .non _ G' ((r'.tail.write he' h1 (q3'.append (.cons dy .nil))).push .non)
      · exact p.elim
    · exact p.elim
theorem s_lix {x : Str} {p ap : Pos} (hu : X.A.units + 65 < cLine) (hN : X.N[i]? = some x) (hv : Vis X.env.scope x) (hd : (x == ("__debug__" : Str)) = false) (hcd : (x == ("__classdict__" : Str)) = false)
    (ha : PE X exa (tE X.K N Γ kx xa)) (hline : (ap.endLine == pos.line) = true) (hs : starEach [exa] X.env = [(false, eval exa X.env)]) : PE X (.Call (.Attribute (.Name x p) "index" ap) [exa] [] pos) (tE X.K N Γ kx (.lix i xa)) := by
  refine ⟨fun pins s σ H Q I h => (pe_bm PySem.F.plainAttrs_list PySem.F.slot_list_index PySem.F.type_list_index (mt_indexD hu) (pe_var hN hv hd hcd) (pa_cons (toV ha) pa_nil (by rw [hs]; rfl)) rfl (by rw [hs]; rfl) hline (by rw [hs]; rfl) rfl).run pins s σ H Q I ?_⟩
  obtain ⟨G, e, tm, r, o⟩ := h
  unfold evE at o
  split at o
  · rename_i xs he
    obtain ⟨v, h1, d0⟩ := r.slot i _ he
    have d0 : Dv X.K G v (.list xs) := d0
    obtain ⟨a, vs, rfl, q2, q3⟩ : ∃ a vs, v = .ref a ∧ RdK X.K G a vs ∧ DvAll X.K G vs xs := by
      cases d0 with
      | lst q d => exact ⟨_, _, rfl, q, d⟩
    refine ⟨_, h1, .inl ⟨rfl, vs, (rdk_mono r.sub q2).sq⟩, G, e, _, r.push d0, (o.bind.more (List.sublist_cons_self (.val (.list xs), .ref a) _)).mono fun rv e' p y H' G' r' => ?_⟩
    have dy := r'.tmp _ List.mem_cons_self
    have dl := r'.tmp (.val (.list xs), .ref a) (List.mem_cons_of_mem _ List.mem_cons_self)
    have dy : Dv X.K G' y rv.toW := dy
    have dl : Dv X.K G' (.ref a) (.list xs) := dl
    split at p
    · rename_i hk
      simp only [Bool.and_eq_true] at hk
      split at p
      · rename_i j hj
        obtain ⟨hjl, z1, z2⟩ := List.findIdx?_eq_some_iff_getElem.mp hj
        refine ⟨a, y, rv.toW, xs, j, xs[j], rfl, rfl, (dl.mono r'.sub).dp hk.1, (dy.mono r'.sub).dp hk.2, shp_shaped hk.1, shp_shaped hk.2, List.getElem?_eq_getElem hjl, z1, fun m z' hm hz' => ?_, p _ H' G' (r'.tail.tail.push (.int _))⟩
        obtain ⟨hml, rfl⟩ := List.getElem?_eq_some_iff.mp hz'
        have := z2 m hm
        simpa using this
      · exact p.elim
    · exact p.elim
  · exact o.elim
theorem s_ext {x : Str} {p ap : Pos} (hN : X.N[i]? = some x) (hv : Vis X.env.scope x) (hd : (x == ("__debug__" : Str)) = false) (hcd : (x == ("__classdict__" : Str)) = false)
    (ha : PE X exa (tO X.K N Γ kx a)) (hline : (ap.endLine == pos.line) = true) (hs : starEach [exa] X.env = [(false, eval exa X.env)]) : PE X (.Call (.Attribute (.Name x p) "extend" ap) [exa] [] pos) (tE X.K N Γ kx (.ext i a)) := by
  refine ⟨fun pins s σ H Q I h => (pe_bm PySem.F.plainAttrs_list PySem.F.slot_list_extend PySem.F.type_list_extend mt_extendR (pe_var hN hv hd hcd) (pa_cons ha pa_nil (by rw [hs]; rfl)) rfl (by rw [hs]; rfl) hline (by rw [hs]; rfl) rfl).run pins s σ H Q I ?_⟩
  obtain ⟨G, e, tm, r, o⟩ := h
  unfold evE at o
  split at o
  · exact o.elim
  · rename_i ho
    obtain ⟨io, xs, he⟩ := isOwn_at ho
    obtain ⟨v, h1, a0, vs, rfl, q1, q2, q3, q4⟩ := r.slot i _ he
    refine ⟨_, h1, .inl ⟨rfl, vs, .inl (.inl q2)⟩, G, e, tm, r, o.bind.mono fun o1 e' p y H' G' r' w' => ?_⟩
    split at p
    · rename_i ys jo xs' hg he'
      split at p
      · rename_i hz
        obtain ⟨v', h1', a', vs', rfl, q1', q2', q3', q4'⟩ := r'.slot i _ he'
        rw [h1] at h1'; cases h1'
        have by_ : Bv X.K G' H' y (.list ys) := get_bv r' hg (fun x z => by subst z; exact r'.tmp (.val x, y) List.mem_cons_self) (fun i z => by subst z; exact w'.1)
        obtain ⟨b, us, rfl, s1, d1⟩ := by_.list r'.sub
        refine ⟨a0, b, vs', us, rfl, rfl, q2', s1, by rw [q3'.length, d1.length]; exact hz, ?_⟩
        exact p .non _ G' (((r'.drop (optm_sub _ _ tm)).write he' h1 (q3'.append d1)).push .non)
      · exact p.elim
    · exact p.elim
theorem s_pop0 {x : Str} {p ap : Pos} (hN : X.N[i]? = some x) (hv : Vis X.env.scope x) (hd : (x == ("__debug__" : Str)) = false) (hcd : (x == ("__classdict__" : Str)) = false)
    (hline : (ap.endLine == pos.line) = true) : PE X (.Call (.Attribute (.Name x p) "pop" ap) [] [] pos) (tE X.K N Γ kx (.pop i none)) := by
  refine ⟨fun pins s σ H Q I h => (pe_bm0 PySem.F.plainAttrs_list PySem.F.slot_list_pop PySem.F.type_list_pop mt_pop (pe_var hN hv hd hcd) rfl hline).run pins s σ H Q I ?_⟩
  obtain ⟨G, e, tm, r, o⟩ := h
  unfold evE at o
  split at o
  · rename_i io xs he
    obtain ⟨v, h1, a, vs, rfl, q1, q2, q3, q4⟩ := r.slot i _ he
    split at o
    · rename_i y hy
      refine ⟨_, h1, .inl ⟨rfl, vs, .inl (.inl q2)⟩, ?_⟩
      obtain ⟨u, hu, du⟩ := q3.get' hy
      refine ⟨a, vs, u, rfl, rfl, q2, by rw [q3.length]; exact hu, ?_⟩
      exact o u _ G ((r.write he h1 q3.dropLast).push du)
    · exact o.elim
  · exact o.elim
theorem s_pop1 {x : Str} {p ap : Pos} (hN : X.N[i]? = some x) (hv : Vis X.env.scope x) (hd : (x == ("__debug__" : Str)) = false) (hcd : (x == ("__classdict__" : Str)) = false)
    (ha : PE X exa (tE X.K N Γ kx xa)) (hline : (ap.endLine == pos.line) = true) (hs : starEach [exa] X.env = [(false, eval exa X.env)]) : PE X (.Call (.Attribute (.Name x p) "pop" ap) [exa] [] pos) (tE X.K N Γ kx (.pop i (some xa))) := by
  refine ⟨fun pins s σ H Q I h => (pe_bm PySem.F.plainAttrs_list PySem.F.slot_list_pop PySem.F.type_list_pop mt_popAt (pe_var hN hv hd hcd) (pa_cons (toV ha) pa_nil (by rw [hs]; rfl)) rfl (by rw [hs]; rfl) hline (by rw [hs]; rfl) rfl).run pins s σ H Q I ?_⟩
  obtain ⟨G, e, tm, r, o⟩ := h
  unfold evE at o
  split at o
  · exact o.elim
  · rename_i ho
    obtain ⟨io, xs, he⟩ := isOwn_at ho
    obtain ⟨v, h1, a, vs, rfl, q1, q2, q3, q4⟩ := r.slot i _ he
    refine ⟨_, h1, .inl ⟨rfl, vs, .inl (.inl q2)⟩, G, e, tm, r, o.bind.mono fun rv e' p y H' G' r' => ?_⟩
    have dy := r'.tmp _ List.mem_cons_self
    split at p
    · rename_i j jo ys hj he'
      rw [hj] at dy
      cases dy
      split at p
      · rename_i hz
        split at p
        · rename_i y hy
          obtain ⟨v', h1', a', vs', rfl, q1', q2', q3', q4'⟩ := r'.slot i _ he'
          rw [h1] at h1'; cases h1'
          obtain ⟨u, hu, du⟩ := q3'.get' hy
          have hlen := q3'.length
          refine ⟨a, vs', j, j.toNat, u, rfl, rfl, q2', by omega, by omega, ?_, hu, ?_⟩
          · exact PySem.StrLaws.seqIndex_nonneg hz.1 (by rw [hlen]; exact hz.2.1)
          · exact p u _ G' ((r'.tail.write he' h1 (q3'.erase _)).push du)
        · exact p.elim
      · exact p.elim
    · exact p.elim
end
end D

namespace D
open PySem L2 PyProof.Rows
/-! ## instances that are not changed any more -/
theorem DvAll.fld {K : PySem.W.Frag} {G : Hp} {f : Str} {w : W} : ∀ {fs : List (Str × V)} {ds : List W}, DvAll K G (fs.map (·.2)) ds → attF (fldW (fs.map (·.1)) ds) f = some w → ∃ v, fs.lookup f = some v ∧ Dv K G v w
  | [], _, h, e => by
    cases h
    cases e
  | (g, v) :: fs, _, h, e => by
    cases h with
    | cons d ds =>
      have e : (if f = g then some _ else attF (fldW (fs.map (·.1)) _) f) = some w := e
      rw [List.lookup_cons]
      by_cases q : f = g
      · rw [if_pos q] at e
        cases e
        refine ⟨v, ?_, d⟩
        rw [q]
        simp
      · rw [if_neg q] at e
        obtain ⟨v', h1, h2⟩ := DvAll.fld ds e
        refine ⟨v', ?_, h2⟩
        rw [show (f == g) = false by simpa using q]
        exact h1
theorem DvAll.nofld {K : PySem.W.Frag} {G : Hp} {f : Str} : ∀ {fs : List (Str × V)} {ds : List W}, DvAll K G (fs.map (·.2)) ds → (attF (fldW (fs.map (·.1)) ds) f).isNone = true → fs.lookup f = none
  | [], _, h, e => rfl
  | (g, v) :: fs, _, h, e => by
    cases h with
    | cons d ds =>
      have e : (if f = g then some _ else attF (fldW (fs.map (·.1)) _) f).isNone = true := e
      rw [List.lookup_cons]
      by_cases q : f = g
      · rw [if_pos q] at e
        cases e
      · rw [if_neg q] at e
        rw [show (f == g) = false by simpa using q]
        exact DvAll.nofld ds e
theorem Dv.att {K : PySem.W.Frag} {G : Hp} {v : V} {w w' : W} {c f : Str} (d : Dv K G v w) (h : attW c w f = some w') : ∃ a dx fs u, v = .ref a ∧ G a = some (.ins (He.ga K c) dx fs) ∧ fs.lookup f = some u ∧ Dv K G u w' := by
  cases d with
  | ins q r =>
    rename_i a dx c' fs ds
    have hh : (if c' = c then attF (fldW (fs.map (·.1)) ds) f else none) = some w' := h
    clear h
    split at hh
    · rename_i e
      subst e
      obtain ⟨u, h1, h2⟩ := DvAll.fld r hh
      exact ⟨a, dx, fs, u, rfl, q, h1, h2⟩
    · cases hh
  | _ => cases h
theorem Dv.cls {K : PySem.W.Frag} {G : Hp} {v : V} {w : W} {c m : Str} (d : Dv K G v w) (h : clsB c m w = true) : ∃ a dx fs, v = .ref a ∧ G a = some (.ins (He.ga K c) dx fs) ∧ fs.lookup m = none := by
  cases d with
  | ins q r =>
    rename_i a dx c' fs ds
    have hh : (decide (c' = c) && (attF (fldW (fs.map (·.1)) ds) m).isNone) = true := h
    clear h
    simp only [Bool.and_eq_true, decide_eq_true_eq] at hh
    obtain ⟨rfl, hh⟩ := hh
    exact ⟨a, dx, fs, rfl, q, DvAll.nofld r hh⟩
  | _ => cases h
abbrev E0x : XK := fun _ _ _ => False
/-- the promise of __init__: a new instance becomes what call says -/
def spI (K : PySem.W.Frag) (call : List Slot → CRes) (c : Str) (np : Nat) : Sp := fun vs H Q _ => vs.length = np ∧ ∃ x dx us G ss io H0, vs = .ref x :: us ∧ H = upd (upd H0 dx (.own x)) x (.ins (He.ga K c) dx []) ∧ H0 x = none ∧ H0 dx = none ∧ dx ≠ x ∧
  (∀ k, R K ⟨G, H0, io⟩ G H0 (ss.map some ++ List.replicate k none) (us.map some ++ List.replicate k none) []) ∧ ss.length = us.length ∧ (∀ s ∈ ss, ∃ w, s = .val w) ∧
  match call ss with
  | .ok (.s (.val w)) [] => ∀ H' G', Same H0 H' → Same G G' → Same G' H' → (∀ b, G b = none → G' b ≠ none → H0 b = none) → Dv K G' (.ref x) w → Q .non H'
  | _ => False
section
variable {X : Cx} {N : En} {Γ : Gam} {kx : KX} {ex exa exb exc ext : Expr} {a b c : A} {xa xb xc xt : E} {pos : Pos} {i : Nat} {ca : Str → Addr}
theorem pass_no : Passes (L2.CX X.prog X.w) X E0x := fun pins σ H s e s' I h => by
  obtain ⟨_, _, _, _, _, _, _, _, _, _, _, _, h⟩ := h
  exact h.elim
theorem s_att {x c f : Str} {p : Pos} (hN : X.N[i]? = some x) (hv : Vis X.env.scope x) (hd : (x == ("__debug__" : Str)) = false) (hcd : (x == ("__classdict__" : Str)) = false) (hc : Cls X.K (He.ga X.K c)) (hn : NoAttr X.K (He.ga X.K c) f) :
    PE X (.Attribute (.Name x p) f pos) (tE X.K N Γ kx (.att (.var i) c f)) := by
  refine ⟨fun pins s σ H Q I h => (pe_fld (toV (s_var (N := N) (Γ := Γ) (kx := kx) hN hv hd hcd)) rfl).run pins s σ H Q I ?_⟩
  obtain ⟨G, e, tm, r, o⟩ := h
  unfold evE at o
  refine ⟨G, e, tm, r, o.bind.mono fun rv e' p v H' G' r' => ?_⟩
  have dv : Dv X.K G' v rv.toW := r'.tmp _ List.mem_cons_self
  cases q : attW c rv.toW f with
  | none => rw [q] at p; exact p.elim
  | some w =>
    rw [q] at p
    obtain ⟨a, dx, fs, u, rfl, h1, h2, h3⟩ := dv.att q
    exact ⟨a, _, dx, fs, u, rfl, r'.sub _ _ h1, hc, hn, h2, p u H' G' (r'.tail.push h3)⟩
theorem out_A_w {K : PySem.W.Frag} {σ : L2.St} {tm : Tm} {e : SEnv} {p : Opd → SEnv → Prop} (h : Out K N kx σ tm (evA Γ (.v xa) e) p) : Out K N kx σ tm (evE Γ xa e) (fun rv e' => p (.w rv.toW) e') := by
  unfold evA at h
  exact h.bind
theorem m_tree {x m : Str} {p ap pos : Pos} {e0 : Expr} {es : List Expr} {env : Env} (hl : (ap.endLine == pos.line) = true) (hz : (e0 :: es).length ≤ 20)
    (he : starEach (e0 :: es) env = (false, eval e0 env) :: starEach es env) (hpl : (backTo pos (starEach es env)).any (·.1) = false) :
    eval (.Call (.Attribute (.Name x p) m ap) (e0 :: es) [] pos) env = (do
      let ov ← eval (.Name x p) env
      standAt ap.atName
      let (f, first) ← holding [ov] (getMethod ov m (do return (← importBound (.Name x p) env).getD true))
      callWith pos f first (backTo pos (starEach (e0 :: es) env)) (backToKw pos (keywordEach [] env))) := by
  rw [arm_eval_Call]
  have hb : attributeBase (.Name x p) m env (eval (.Name x p) env) = eval (.Name x p) env := rfl
  rw [hb]
  have hf : methodCallForm ((e0 :: es).length + ([] : List Keyword).length) (backTo pos (starEach (e0 :: es) env)) (backToKw pos (keywordEach [] env)) = true := by
    unfold methodCallForm
    have a1 : (backTo pos (starEach (e0 :: es) env)).all (!·.1) = true := by
      rw [he]
      show (true && (backTo pos (starEach es env)).all (!·.1)) = true
      rw [Bool.true_and, List.all_eq_true]
      intro y hy
      have := List.any_eq_false.mp hpl y hy
      simpa using this
    have a2 : (backToKw pos (keywordEach [] env)).all (·.1.isSome) = true := rfl
    rw [a1, a2]
    have a3 : decide ((e0 :: es).length + ([] : List Keyword).length + (if (backToKw pos (keywordEach [] env)).isEmpty = true then 0 else 1) < 30) = true := by
      have : (backToKw pos (keywordEach [] env)).isEmpty = true := rfl
      rw [this]
      simp only [if_true, List.length_nil, Nat.add_zero, decide_eq_true_eq]
      omega
    rw [a3]
    rfl
  have hp : methodCallPos true (.Name x p) env ap pos = pure pos := by
    unfold methodCallPos
    rw [hl]
    rfl
  unfold methodCall
  rw [hf, hp]
  rfl
theorem s_mth {x c m : Str} {p ap : Pos} {fa : Addr} {fd : FuncData} {ps : List Str} {k : Nat} {e0 : Expr} {es : List Expr} {as : List A}
    (hN : X.N[i]? = some x) (hv : Vis X.env.scope x) (hd : (x == ("__debug__" : Str)) = false) (hcd : (x == ("__classdict__" : Str)) = false) (hc : Cls X.K (He.ga X.K c)) (hm : Meth X.K (He.ga X.K c) m fa)
    (F : FnOk X.prog X.w X.K X.mg X.base (L2.CX X.prog X.w) k fa fd ps (spD X.K (Γ.call (methN c m)) ps.length ca)) (hlen : ∀ ss, ss.length ≠ ps.length → Γ.call (methN c m) ss = .bad) (hr : Room k X.A) (hb : Binds X.K fd ps [])
    (ha : PA X (e0 :: es) (tAs X.K N Γ kx as)) (he : starEach (e0 :: es) X.env = (false, eval e0 X.env) :: starEach es X.env) (hpl : ∀ pos, (backTo pos (starEach es X.env)).any (·.1) = false)
    (hl : (ap.endLine == pos.line) = true) (hz : (e0 :: es).length ≤ 20) :
    PE X (.Call (.Attribute (.Name x p) m ap) (e0 :: es) [] pos) (tE X.K N Γ kx (.mth c m (.v (.var i)) as)) := by
  refine ⟨fun pins s σ H Q I h => (pe_meth (dvs := []) (ds := []) (E := E0x) (toV (s_var (N := N) (Γ := Γ) (kx := kx) hN hv hd hcd)) hc hm F hr hb .nil pass_no ha he (hpl _) (m_tree hl hz he (hpl _))).run pins s σ H Q I ?_⟩
  obtain ⟨G, e, tm, r, o⟩ := h
  unfold evE at o
  refine ⟨G, e, tm, r, (out_A_w o.bind).mono fun rv e' p v H' G' r' => ?_⟩
  have dv : Dv X.K G' v rv.toW := r'.tmp _ List.mem_cons_self
  simp only at p
  split at p
  · exact p.elim
  · rename_i hcl
    have hcl : clsB c m rv.toW = true := by simpa using hcl
    obtain ⟨a, dx, fs, rfl, h1, h2⟩ := dv.cls hcl
    refine ⟨a, dx, fs, rfl, r'.sub _ _ h1, h2, G', e', _, r', (p.bind.more (List.sublist_cons_self (.val rv.toW, .ref a) _)).mono fun os e1 p1 vs H1 G1 r1 q1 => ?_⟩
    split at p1
    · rename_i ss hs
      split at p1
      · exact p1.elim
      · rename_i hnd
        have nd : refsNd os = true := by simpa using hnd
        rw [List.append_nil]
        have r2 : R X.K N G1 H1 e1 σ (optm (.w rv.toW :: os) (.ref a :: vs) ++ tm) := r1.perm (by
          show (optm os vs ++ ((.val rv.toW, .ref a) :: tm)).Perm ((.val rv.toW, .ref a) :: (optm os vs ++ tm))
          exact List.perm_middle)
        have q2 : OpsR σ (.w rv.toW :: os) (.ref a :: vs) := q1
        have hs2 : slotsOf e1 (.w rv.toW :: os) = some (.val rv.toW :: ss) := by
          unfold slotsOf
          rw [hs]
          rfl
        obtain ⟨l, _⟩ := slots_at r2 q2 hs2
        have hl : (Slot.val rv.toW :: ss).length = ps.length := by
          by_cases z : (Slot.val rv.toW :: ss).length = ps.length
          · exact z
          · rw [hlen _ z] at p1; exact p1.elim
        refine ⟨by rw [← l]; exact hl, G1, _, lent (.w rv.toW :: os) (.ref a :: vs), fun k => r2.enter q2 hs2 nd k, l, ?_⟩
        split
        · rename_i rv2 outs hcall
          rw [hcall] at p1
          simp only at p1
          split at p1
          · rename_i e2 hp
            intro v2 H2 G2 e3 σ3 rt hv2 r3 ho
            have r4 := r2.leave q2 hs2 nd r3 ho (show putOuts e1 (.w rv.toW :: os) outs = some e2 from hp)
            cases rv2 with
            | s x =>
              have hv2 : rt = [(x, v2)] := hv2
              subst hv2
              exact p1 v2 H2 G2 r4
            | t xs =>
              obtain ⟨t, us, rfl, h1, h2, h3, h4, rfl⟩ := hv2
              exact p1 t us H2 G2 h1 h2 (r2.h0 h3) h4 r4
          · exact p1.elim
        · rename_i c outs hcall
          rw [hcall] at p1
          exact p1.elim
        · rename_i hcall
          rw [hcall] at p1
          exact p1.elim
    · exact p1.elim
theorem slotsW {e : SEnv} : ∀ {os : List Opd} {ss : List Slot}, allWs os = true → slotsOf e os = some ss → (∀ s ∈ ss, ∃ w, s = .val w) ∧ putOuts e os [] = some e
  | [], _, _, h => by cases h; exact ⟨by simp, rfl⟩
  | .w x :: os, ss, ha, h => by
    unfold slotsOf at h
    obtain ⟨ss', h1, rfl⟩ := Option.map_eq_some_iff.mp h
    obtain ⟨q1, q2⟩ := slotsW (os := os) ha h1
    refine ⟨fun s hs => ?_, q2⟩
    rcases List.mem_cons.mp hs with rfl | hs
    · exact ⟨x, rfl⟩
    · exact q1 s hs
  | .r _ :: _, _, ha, _ => by cases ha
theorem nd_w : ∀ {os : List Opd}, allWs os = true → refsNd os = true
  | [], _ => rfl
  | .w _ :: os, h => nd_w (os := os) h
  | .r _ :: _, h => by cases h
theorem s_new {c : Str} {fa : Addr} {fd : FuncData} {ps : List Str} {k : Nat} {es : List Expr} {as : List A} {p : Pos} (M : Mk X.K (He.ga X.K c) fa)
    (F : FnOk X.prog X.w X.K X.mg X.base (L2.CX X.prog X.w) k fa fd ps (spI X.K (Γ.call c) c ps.length)) (hlen : ∀ ss, ss.length + 1 ≠ ps.length → Γ.call c ss = .bad) (hr : Room (k + 1) X.A) (hg : Gl X c) (hm : X.mg c = some (.ref (He.ga X.K c)))
    (hb : Binds X.K fd ps []) (ha : PA X (ex :: es) (tAs X.K N Γ kx as)) (hdb : (c == ("__debug__" : Str)) = false)
    (he : starEach (ex :: es) X.env = (false, eval ex X.env) :: starEach es X.env) (hpl : ∀ pos, (backTo pos (starEach es X.env)).any (·.1) = false) : PE X (.Call (.Name c p) (ex :: es) [] pos) (tE X.K N Γ kx (.new c as)) := by
  refine ⟨fun pins s σ H Q I h => (pe_make (dvs := []) (ds := []) (E := E0x) M F hr hg hm hb .nil pass_no ha hdb he (hpl _)).run pins s σ H Q I ?_⟩
  obtain ⟨G, e, tm, r, o⟩ := h
  unfold evE at o
  refine ⟨G, e, tm, r, o.bind.mono fun os e1 p1 vs H1 G1 r1 q1 x dx hx hdx hne => ?_⟩
  split at p1
  · rename_i ss hs
    split at p1
    · exact p1.elim
    · rename_i hw
      have hw : allWs os = true := by simpa using hw
      have nd : refsNd os = true := nd_w hw
      obtain ⟨l, _⟩ := slots_at r1 q1 hs
      have hl : ss.length + 1 = ps.length := by
        by_cases z : ss.length + 1 = ps.length
        · exact z
        · rw [hlen ss z] at p1; exact p1.elim
      rw [List.append_nil]
      refine ⟨by rw [List.length_cons, ← l]; exact hl, x, dx, vs, G1, ss, lent os vs, H1, rfl, rfl, hx, hdx, hne, fun k => r1.enter q1 hs nd k, l, (slotsW hw hs).1, ?_⟩
      split
      · rename_i w hcall
        rw [hcall] at p1
        intro H' G' s1 s2 s3 s4 dv
        refine ⟨rfl, p1 (.ref x) H' G' (R.push ?_ dv)⟩
        exact (r1.drop (List.sublist_append_right _ _)).ext s1 s2 s3 s4
      · rename_i hcall
        split at p1
        · rename_i w hc2
          exact (hcall w hc2).elim
        · exact p1.elim
  · exact p1.elim
end
end D

/-! len(set(x)) -/
namespace D
open PySem L2 PyProof.Rows
theorem setArg_of {sc : Scope} {args : List Expr} {a : Expr} (h : setArg sc args = some a) : ∃ p q, args = [.Call (.Name "set" p) [a] [] q] ∧ gloB sc "set" = true := by
  unfold setArg at h
  split at h
  · rename_i s p b q
    split at h
    · rename_i hs
      rw [Bool.and_eq_true] at hs
      have e : s = "set" := by simpa using hs.1
      subst e
      cases h
      exact ⟨p, q, rfl, hs.2⟩
    · cases h
  · cases h
theorem met_eq (ns : List Int) : firstMet (fun i => ns.getD i 0) ns.length = metI ns := by
  have e : (List.range ns.length).map (fun i => ns.getD i 0) = ns := by
    apply List.ext_getElem
    · simp
    · intro j h1 h2
      simp only [List.getElem_map, List.getElem_range]
      rw [List.getD_eq_getElem?_getD, List.getElem?_eq_getElem h2]
      rfl
  unfold firstMet metI
  rw [e]
  rfl
section
variable {X : Cx} {N : En} {Γ : Gam} {kx : KX} {ex : Expr} {x : E} {pos p p2 q : Pos}
theorem s_lset (hc : X.calm = true) (hg : Gl X "len") (hm : X.mg "len" = none) (hg2 : Gl X "set") (hm2 : X.mg "set" = none) (he : PE X ex (tE X.K N Γ kx x)) (na : starEach [ex] X.env = [(false, eval ex X.env)]) :
    PE X (.Call (.Name "len" p) [.Call (.Name "set" p2) [ex] [] q] [] pos) (tE X.K N Γ kx (.lset x)) := by
  refine ⟨fun pins s σ H Q I h => Call_ (ld_blt I hg hm boot_len (callWith_builtin1 (args_cons (Call_ (ld_blt I hg2 hm2 boot_set ?_)) rfl) rfl rfl))⟩
  obtain ⟨G, e, tm, r, o⟩ := h
  unfold evE at o
  have sv := (toV he).run pins s σ H (fun v H1 => ∃ (l : Addr) (ns : List Int), v = .ref l ∧ SqL X.K H1 l (ns.map V.int) ∧ ns.length ≤ 1000 ∧ Q (.int ((metI ns).length : Nat)) H1) I ?_
  · refine callWith_type1 (args_cons (thn sv fun v s1 ⟨y, H1, I1, r1, l, ns, e1, sq, hl, q1⟩ => args_nil ?_) na) na rfl
    subst e1
    cases r1
    obtain ⟨its, rv, pl, _⟩ := I1.list sq
    have hz : its.toArray.size = ns.length := by
      have := rv.length
      simpa using this.symm
    refine call_set_list (I1.ok.hd hc) pl.isList (by simpa using RZ.intsAre_vals rv) (by rw [hz]; unfold scanBound; omega) fun h' tk hS hk => args_nil ?_
    rw [hz, met_eq] at hS
    obtain ⟨ob, es, ep, t, ho, hex, hd, _, _, _, hf, hn⟩ := hS
    have I2 : Inv X pins σ H1 { s1 with heap := h', toks := tk } := I1.kept fun b u z => hk b u (Heap.lt_size z) z
    have hmz : (metI ns).length ≤ ns.length := by
      rw [← met_eq]
      exact firstMet_length_le _ _
    exact call_len_set ho hex hd hf (by rw [hn]; omega) ⟨.int ((metI ns).length : Nat), H1, I2.tok _, ⟨_, by rw [hn]⟩, q1⟩
  · refine ⟨G, e, tm, r, o.bind.mono fun rv e' q v H' G' r' => ?_⟩
    have dv : Dv X.K G' v rv.toW := r'.tmp _ List.mem_cons_self
    cases qw : lsetW rv.toW with
    | none => rw [qw] at q; exact q.elim
    | some z =>
      rw [qw] at q
      generalize rv.toW = w at dv qw
      cases w with
      | list xs =>
        have qw : ((allI xs).bind fun ns => if ns.length ≤ 1000 then some (RV.s (.val (.int ((metI ns).length : Nat)))) else none) = some z := qw
        obtain ⟨ns, a1, a2⟩ := Option.bind_eq_some_iff.mp qw
        split at a2
        · rename_i hl
          cases a2
          cases dv with
          | lst rd da =>
            rename_i a us
            have eu := allI_map a1 da
            subst eu
            exact ⟨a, ns, rfl, (rdk_mono r'.sub rd).sq, hl, q (.int ((metI ns).length : Nat)) H' G' (r'.tail.push (.int _))⟩
        · cases a2
      | _ => cases qw
end
end D

/-! zip of a list and a tuple, either first -/
namespace D
open PySem L2 PyProof.Rows
/-- a tuple, or a list -/
def SqB (t : Bool) (K : PySem.W.Frag) (H : Hp) (a : Addr) (xs : List V) : Prop := match t with
  | true => SqT K H a xs
  | false => SqL K H a xs
def ItB (t : Bool) (h : Heap) (it l : Addr) (i : Nat) : Prop := match t with
  | true => h.IsTupleIter it l i
  | false => h.IsListIter it l i
def HsB (t : Bool) (h : Heap) (l : Addr) (xs : Array Value) : Prop := match t with
  | true => h.IsTuple l xs
  | false => h.IsList l xs
theorem ItB.at {t : Bool} {h h' : Heap} {it l : Addr} {i : Nat} (x : ItB t h it l i) (k : ∀ o, h.get? it = some o → h'.get? it = some o) : ItB t h' it l i := by
  cases t
  · exact Heap.IsListIter.at x k
  · exact Heap.IsTupleIter.at x k
theorem ItB.get {t : Bool} {h : Heap} {it l : Addr} {i : Nat} (x : ItB t h it l i) : ∃ o vs, h.get? it = some o ∧ o.data = .fields vs := by
  cases t
  · obtain ⟨o, e, _, d⟩ := x
    exact ⟨o, _, e, d⟩
  · obtain ⟨o, e, _, d⟩ := x
    exact ⟨o, _, e, d⟩
theorem HsB.at {t : Bool} {h h' : Heap} {l : Addr} {xs : Array Value} (x : HsB t h l xs) (k : ∀ o, h.get? l = some o → h'.get? l = some o) : HsB t h' l xs := by
  cases t
  · exact Heap.IsList.at x k
  · exact Heap.IsTuple.at x k
theorem HsB.lt {t : Bool} {h : Heap} {l : Addr} {xs : Array Value} (x : HsB t h l xs) : l < h.objs.size := by
  cases t
  · obtain ⟨o, e, _⟩ := x
    exact Heap.lt_size e
  · obtain ⟨o, e, _⟩ := x
    exact Heap.lt_size e
theorem draws_tup {prog : Program} {w : World} {A : Around} (hh : A.handled = none) (it l : Addr) (hne : l ≠ it) (items : Array Value) :
    Draws prog w A it [it, l] items.size (fun i v => items[i]? = some v) (fun i h => h.IsTupleIter it l i ∧ h.IsTuple l items) where
  live := fun i h st => by
    obtain ⟨⟨o, ho, _⟩, _⟩ := st
    exact ⟨o, ho⟩
  frame := fun i h h' st hk => by
    refine ⟨st.1.at fun o e => ?_, st.2.at fun o e => ?_⟩
    · exact hk it (List.mem_cons_self) o e
    · exact hk l (List.mem_cons_of_mem _ List.mem_cons_self) o e
  item := fun i s Q E hi st hQ => by
    have hx : items[i]? = some items[i] := Array.getElem?_eq_getElem hi
    refine RZ.nextOf_tuple_item st.1 st.2 hx fun h' a b => hQ _ h' s.toks hx ⟨a, ?_⟩ b
    exact st.2.extBut b.extBut hne
  done := fun s Q E st hE => by
    have hx : items[items.size]? = none := Array.getElem?_eq_none (Nat.le_refl _)
    exact RZ.nextOf_tuple_end hh st.1 st.2 hx hE
theorem draws_b {prog : Program} {w : World} {A : Around} (t : Bool) (hh : A.handled = none) (it l : Addr) (hne : l ≠ it) (items : Array Value) :
    Draws prog w A it [it, l] items.size (fun i v => items[i]? = some v) (fun i h => ItB t h it l i ∧ HsB t h l items) := by
  cases t
  · exact Draws.list hh it l hne items
  · exact draws_tup hh it l hne items
/-! ### zip(..) made -/
def itName : Bool → String
  | true => "tuple_iterator"
  | false => "list_iterator"
def zm1 (t : Bool) (h : Heap) (l1 : Addr) : Heap := h.push { cls := .type (itName t), data := .fields #[.ref l1, .int 0 0] }
def zm2 (t u : Bool) (h : Heap) (l1 l2 : Addr) : Heap := (zm1 t h l1).push { cls := .type (itName u), data := .fields #[.ref l2, .int 0 0] }
def zm3 (t u : Bool) (h : Heap) (l1 l2 : Addr) : Heap := (zm2 t u h l1 l2).push { cls := .type "tuple", data := .seq #[.ref h.objs.size, .ref (zm1 t h l1).objs.size] }
def zm4 (t u : Bool) (h : Heap) (l1 l2 : Addr) : Heap := (zm3 t u h l1 l2).push { cls := .type "tuple", data := .seq #[.none, .none] }
def zm5 (t u : Bool) (h : Heap) (l1 l2 : Addr) : Heap := (zm4 t u h l1 l2).push
  { cls := .type "zip", data := .fields #[.none, .bool false, .bool false, .ref (zm2 t u h l1 l2).objs.size, .ref (zm3 t u h l1 l2).objs.size] }
theorem meets_lt (l1 l2 : Addr) (xs ys : Array Value) : Meets (Builtin.«zip.__new__» ⟨[.type "zip", .ref l1, .ref l2], []⟩) (fun _ R s =>
      s.heap.IsList l1 xs ∧ s.heap.IsTuple l2 ys ∧ R (.ok (.ret (.ref (zm4 false true s.heap l1 l2).objs.size))) { s with heap := zm5 false true s.heap l1 l2 }) :=
  .of_wp fun prog w A R s h => by
    obtain ⟨hp, g, d, tk, os⟩ := s
    obtain ⟨hl1, hl2, h⟩ := h
    have hsub := sub_zip
    have A1 : Heap.IsList (Shared.heap ⟨hp, g, d, tk, os⟩) l1 xs := hl1
    have A2 : Heap.IsTuple (Shared.heap ⟨zm1 false hp l1, g, d, tk, os⟩) l2 ys := Heap.IsTuple.push hl2 _
    unfold zm1 itName at A2
    wp_walk using wpAny_pyIter_list A1, wpAny_pyIter_tuple A2
    exact ⟨_, rfl, h⟩
theorem meets_tl (l1 l2 : Addr) (xs ys : Array Value) : Meets (Builtin.«zip.__new__» ⟨[.type "zip", .ref l1, .ref l2], []⟩) (fun _ R s =>
      s.heap.IsTuple l1 xs ∧ s.heap.IsList l2 ys ∧ R (.ok (.ret (.ref (zm4 true false s.heap l1 l2).objs.size))) { s with heap := zm5 true false s.heap l1 l2 }) :=
  .of_wp fun prog w A R s h => by
    obtain ⟨hp, g, d, tk, os⟩ := s
    obtain ⟨hl1, hl2, h⟩ := h
    have hsub := sub_zip
    have A1 : Heap.IsTuple (Shared.heap ⟨hp, g, d, tk, os⟩) l1 xs := hl1
    have A2 : Heap.IsList (Shared.heap ⟨zm1 true hp l1, g, d, tk, os⟩) l2 ys := Heap.IsList.push hl2 _
    unfold zm1 itName at A2
    wp_walk using wpAny_pyIter_tuple A1, wpAny_pyIter_list A2
    exact ⟨_, rfl, h⟩
/-- what a zip's cells hold at its beginning -/
def Zst (t u : Bool) (h h' : Heap) (l1 l2 : Addr) : Prop :=
  IsZip h' (h.objs.size + 4) (h.objs.size + 2) (h.objs.size + 3) .none ∧ IsPair h' (h.objs.size + 2) (.ref h.objs.size) (.ref (h.objs.size + 1)) ∧ IsPair h' (h.objs.size + 3) .none .none ∧
    ItB t h' h.objs.size l1 0 ∧ ItB u h' (h.objs.size + 1) l2 0 ∧ ∀ c o, h.get? c = some o → h'.get? c = some o
theorem zst_of {h : Heap} {l1 l2 : Addr} (t u : Bool) : Zst t u h (zm5 t u h l1 l2) l1 l2 ∧ (zm4 t u h l1 l2).objs.size = h.objs.size + 4 := by
  have s1 : (zm1 t h l1).objs.size = h.objs.size + 1 := Heap.size_push ..
  have s2 : (zm2 t u h l1 l2).objs.size = h.objs.size + 2 := by
    unfold zm2
    rw [Heap.size_push, s1]
  have s3 : (zm3 t u h l1 l2).objs.size = h.objs.size + 3 := by
    unfold zm3
    rw [Heap.size_push, s2]
  have s4 : (zm4 t u h l1 l2).objs.size = h.objs.size + 4 := by
    unfold zm4
    rw [Heap.size_push, s3]
  have u5 : ∀ c o, (zm4 t u h l1 l2).get? c = some o → (zm5 t u h l1 l2).get? c = some o := fun c o e => Heap.get?_push_of_some _ e
  have u4 : ∀ c o, (zm3 t u h l1 l2).get? c = some o → (zm5 t u h l1 l2).get? c = some o := fun c o e => u5 c o (Heap.get?_push_of_some _ e)
  have u3 : ∀ c o, (zm2 t u h l1 l2).get? c = some o → (zm5 t u h l1 l2).get? c = some o := fun c o e => u4 c o (Heap.get?_push_of_some _ e)
  have u2 : ∀ c o, (zm1 t h l1).get? c = some o → (zm5 t u h l1 l2).get? c = some o := fun c o e => u3 c o (Heap.get?_push_of_some _ e)
  have u1 : ∀ c o, h.get? c = some o → (zm5 t u h l1 l2).get? c = some o := fun c o e => u2 c o (Heap.get?_push_of_some _ e)
  have e5 : (zm5 t u h l1 l2).get? (zm4 t u h l1 l2).objs.size = some _ := Heap.get?_push_size _ rfl
  have e4 : (zm4 t u h l1 l2).get? (zm3 t u h l1 l2).objs.size = some _ := Heap.get?_push_size _ rfl
  have e3 : (zm3 t u h l1 l2).get? (zm2 t u h l1 l2).objs.size = some _ := Heap.get?_push_size _ rfl
  have e2 : (zm2 t u h l1 l2).get? (zm1 t h l1).objs.size = some _ := Heap.get?_push_size _ rfl
  have e1 : (zm1 t h l1).get? h.objs.size = some _ := Heap.get?_push_size _ rfl
  have e4 := u5 _ _ e4
  have e3 := u4 _ _ e3
  have e2 := u3 _ _ e2
  have e1 := u2 _ _ e1
  rw [s4, s2, s3] at e5
  rw [s3] at e4
  rw [s2, s1] at e3
  rw [s1] at e2
  refine ⟨⟨e5, e3, e4, ?_, ?_, u1⟩, s4⟩
  · cases t <;> exact ⟨_, e1, rfl, rfl⟩
  · cases u <;> exact ⟨_, e2, rfl, rfl⟩
theorem call_zipB {prog : Program} {w : World} {A : Around} {E : Value → Shared → Prop} {s : Shared} {l1 l2 : Addr} {xs ys : Array Value} {Q : Value → Shared → Prop} {t : Bool} (h1 : HsB t s.heap l1 xs) (h2 : HsB (!t) s.heap l2 ys)
    (h : ∀ h', Zst t (!t) s.heap h' l1 l2 → Q (.ref (s.heap.objs.size + 4)) { s with heap := h' }) : wpAny (model prog w) A (call (.type "zip") [.ref l1, .ref l2]) Q E s := by
  cases t with
  | false =>
    obtain ⟨z, sz⟩ := zst_of (h := s.heap) (l1 := l1) (l2 := l2) false true
    refine callType_new F.called_zip (by decide) (F.typeCall_zip_2 _ _) (F.newCall_zip_2 _ _)
      (fun obj => F.args_object_init_3 obj _ _) F.entry_zip_new (meets_lt l1 l2 xs ys) ⟨h1, h2, ?_⟩
    show _ ∧ _
    have z5 := z.1
    rw [sz]
    exact ⟨⟨_, z5, rfl⟩, h _ z⟩
  | true =>
    obtain ⟨z, sz⟩ := zst_of (h := s.heap) (l1 := l1) (l2 := l2) true false
    refine callType_new F.called_zip (by decide) (F.typeCall_zip_2 _ _) (F.newCall_zip_2 _ _)
      (fun obj => F.args_object_init_3 obj _ _) F.entry_zip_new (meets_tl l1 l2 xs ys) ⟨h1, h2, ?_⟩
    show _ ∧ _
    have z5 := z.1
    rw [sz]
    exact ⟨⟨_, z5, rfl⟩, h _ z⟩
/-! ### its turns -/
def ItzB (t u : Bool) (K : PySem.W.Frag) (a b : Addr) : L2.It :=
  ⟨fun i H => ∃ xs ys x y, SqB t K H a xs ∧ SqB u K H b ys ∧ xs[i]? = some x ∧ ys[i]? = some y,
    fun i H v H' => ∃ T x y, v = .ref T ∧ H T = none ∧ H' = upd H T (.tup [x, y]) ∧ (∀ xs, SqB t K H a xs → xs[i]? = some x) ∧ ∀ ys, SqB u K H b ys → ys[i]? = some y,
    fun i H => ∃ xs ys, SqB t K H a xs ∧ SqB u K H b ys ∧ i ≤ xs.length ∧ i ≤ ys.length ∧ (xs.length = i ∨ ys.length = i)⟩
section
variable {X : Cx} {pins : List (Addr × Obj)} {σ : L2.St} {H : Hp} {s : Shared}
theorem SqB.vals {t : Bool} {a : Addr} {xs : List V} (I : Inv X pins σ H s) (q : SqB t X.K H a xs) : ∃ its : List Value, Vals xs its ∧ HsB t s.heap a its.toArray := by
  cases t
  · obtain ⟨its, rv, p, _⟩ := I.list q
    exact ⟨its, rv, p.isList⟩
  · obtain ⟨its, rv, p, _⟩ := I.tuple q
    exact ⟨its, rv, p⟩
theorem SqB.inj {t : Bool} {a : Addr} {xs ys : List V} (I : Inv X pins σ H s) (q : SqB t X.K H a xs) (q' : SqB t X.K H a ys) : xs = ys := by
  cases t
  · exact I.list_inj q q'
  · exact I.tuple_inj q q'
end
theorem sep_of {z TI TO i1 i2 a b : Addr} (D : ZipApart z TI TO i1 i2 a b) : ZipSep2 z TI TO i1 i2 [i1, a] [i2, b] := by
  obtain ⟨c1, c2, c3, c4, c5, c6, c7, c8, c9, c10, c11, c12, c13, c14, c15, c16, c17, c18⟩ := D
  refine ⟨c1, c2, c5, c6, by simp, ?_, ?_, c7, by simp, ?_, ?_, ?_, ?_⟩
  · simp only [List.mem_cons, List.not_mem_nil, or_false, not_or]
    exact ⟨c3.symm, c11.symm⟩
  · simp only [List.mem_cons, List.not_mem_nil, or_false, not_or]
    exact ⟨c8, c12.symm⟩
  · simp only [List.mem_cons, List.not_mem_nil, or_false, not_or]
    exact ⟨c4.symm, c15.symm⟩
  · simp only [List.mem_cons, List.not_mem_nil, or_false, not_or]
    exact ⟨c9, c16.symm⟩
  · simp only [List.mem_cons, List.not_mem_nil, or_false, not_or]
    exact ⟨c10, c17.symm⟩
  · simp only [List.mem_cons, List.not_mem_nil, or_false, not_or]
    exact ⟨c10.symm, c14.symm⟩
def ZtB (t u : Bool) (z TI TO i1 i2 a b : Addr) (i : Nat) (h : Heap) : Prop := IsZip h z TI TO .none ∧ IsPair h TI (.ref i1) (.ref i2) ∧ (∃ x y, IsPair h TO x y) ∧ ItB t h i1 a i ∧ ItB u h i2 b i
theorem turn_zipB {P : Program} {w : World} {K : PySem.W.Frag} {elts : List Expr} {kk : Nat} {tpos : Pos} {t u : Bool} {a b z TI TO i1 i2 : Addr} (D : ZipApart z TI TO i1 i2 a b) :
    Turn P w K (.Tuple elts kk tpos) (ItzB t u K a b) [z, TI, TO, i1, i2] z (ZtB t u z TI TO i1 i2 a b) where
  mem := List.mem_cons_self
  obj := fun i h st c hc => by
    obtain ⟨hz, hTI, ⟨x, y, hTO⟩, h1, h2⟩ := st
    obtain ⟨o1, v1, e1, d1⟩ := h1.get
    obtain ⟨o2, v2, e2, d2⟩ := h2.get
    simp only [List.mem_cons, List.not_mem_nil, or_false] at hc
    rcases hc with rfl | rfl | rfl | rfl | rfl
    · exact ⟨_, hz, nofun⟩
    · exact ⟨_, hTI, nofun⟩
    · exact ⟨_, hTO, nofun⟩
    · refine ⟨o1, e1, fun v q => ?_⟩
      rw [d1] at q
      cases q
    · refine ⟨o2, e2, fun v q => ?_⟩
      rw [d2] at q
      cases q
  keep := fun i h h' st k => by
    obtain ⟨hz, hTI, ⟨x, y, hTO⟩, h1, h2⟩ := st
    refine ⟨k z (by simp) _ hz, k TI (by simp) _ hTI, ⟨x, y, k TO (by simp) _ hTO⟩, ?_, ?_⟩
    · exact h1.at fun o q => k i1 (by simp) o q
    · exact h2.at fun o q => k i2 (by simp) o q
  item := by
    intro X hP hw hK hc i pins s σ H E I hf st hg
    subst hP hw hK
    obtain ⟨hz, hTI, ⟨x0, y0, hTO⟩, h1, h2⟩ := st
    obtain ⟨xs, ys, x, y, qx, qy, hx, hy⟩ := hg
    obtain ⟨its, rv, p⟩ := qx.vals I
    obtain ⟨its2, rv2, p2⟩ := qy.vals I
    obtain ⟨m, hu, ru⟩ := rv.get hx
    obtain ⟨m2, hu2, ru2⟩ := rv2.get hy
    have hh : X.A.in1.handled = none := I.ok.hd hc
    have hzl : z < s.heap.objs.size := Heap.lt_size hz
    have j1 : i < its.toArray.size := by
      have := (List.getElem?_eq_some_iff.mp hu).1
      simpa using this
    have j2 : i < its2.toArray.size := by
      have := (List.getElem?_eq_some_iff.mp hu2).1
      simpa using this
    refine wpAny_pyNext_zipD2_item (sep_of D) (draws_b t hh i1 a D.l1i1 its.toArray) (draws_b u hh i2 b D.l2i2 its2.toArray) hz hTI hTO ⟨h1, p⟩ ⟨h2, p2⟩ j1 j2 fun y1 y2 h' tk g1 g2 z' TO' w1 w2 hT hsz hk => ?_
    have g1 : some m = some y1 := by
      rw [← hu, ← g1]
      simp
    have g2 : some m2 = some y2 := by
      rw [← hu2, ← g2]
      simp
    cases g1
    cases g2
    refine ⟨_, rfl, wpAny_letOwnedTupleGo_zip (s := { s with heap := h', toks := tk }) z' fun h'' z'' sb => ?_⟩
    have hT2 : h''.get? s.heap.objs.size = some { cls := .type "tuple", data := .seq #[m, m2] } := by
      rw [sb.2 _ (Nat.ne_of_gt hzl)]
      exact hT
    have new : ObjOk X.prog X.w (upd H s.heap.objs.size (.tup [x, y])) h'' s.heap.objs.size (.tup [x, y]) := by
      refine ⟨?_, [m, m2], .cons ru (.cons ru2 .nil), ⟨_, hT2, rfl, _, rfl⟩⟩
      show 2 ≤ sizeLine
      decide
    have kept : ∀ c o, c ∉ [z, TI, TO, i1, i2] → s.heap.get? c = some o → h''.get? c = some o := fun c o hb q => by
      simp only [List.mem_cons, List.not_mem_nil, or_false, not_or] at hb
      rw [sb.2 c hb.1]
      exact hk c o hb.1 hb.2.2.1 hb.2.2.2.1 hb.2.2.2.2 q
    have I1 : Inv X pins σ (upd H s.heap.objs.size (.tup [x, y])) { s with heap := h'', toks := tk } := I.turnedNew kept hf (Nat.le_refl _) new
    refine ⟨.ref s.heap.objs.size, _, I1, rfl, ⟨_, x, y, rfl, I.hok.fresh (Nat.le_refl _), rfl, fun l hl => ?_, fun l hl => ?_⟩, ⟨z'', ?_, ⟨m, m2, ?_⟩, ?_, ?_⟩, fun c hcm => ?_⟩
    · rw [SqB.inj I hl qx]
      exact hx
    · rw [SqB.inj I hl qy]
      exact hy
    · have := hk _ _ D.TIz D.TITO D.TIi1 D.TIi2 hTI
      exact (sb.2 _ D.TIz).trans this
    · exact (sb.2 _ D.TOz).trans TO'
    · exact w1.1.at fun o q => (sb.2 _ D.i1z).trans q
    · exact w2.1.at fun o q => (sb.2 _ D.i2z).trans q
    · obtain ⟨o1, v1, e1, _⟩ := h1.get
      obtain ⟨o2, v2, e2, _⟩ := h2.get
      have hlt : c < s.heap.objs.size := by
        simp only [List.mem_cons, List.not_mem_nil, or_false] at hcm
        rcases hcm with rfl | rfl | rfl | rfl | rfl
        · exact hzl
        · exact Heap.lt_size hTI
        · exact Heap.lt_size hTO
        · exact Heap.lt_size e1
        · exact Heap.lt_size e2
      rw [upd_ne (Nat.ne_of_lt hlt)]
      exact (hf c hcm).1
  done := by
    intro X hP hw hK hc i pins s σ H E I hf st hg
    subst hP hw hK
    obtain ⟨hz, hTI, ⟨x0, y0, hTO⟩, h1, h2⟩ := st
    obtain ⟨xs, ys, qx, qy, j1, j2, hend⟩ := hg
    obtain ⟨its, rv, p⟩ := qx.vals I
    obtain ⟨its2, rv2, p2⟩ := qy.vals I
    have l1 : its.toArray.size = xs.length := by rw [List.size_toArray, rv.length]
    have l2 : its2.toArray.size = ys.length := by rw [List.size_toArray, rv2.length]
    have hh : X.A.in1.handled = none := I.ok.hd hc
    refine wpAny_pyNext_zipD2_end (sep_of D) (draws_b t hh i1 a D.l1i1 its.toArray) (draws_b u hh i2 b D.l2i2 its2.toArray) hz hTI hTO ⟨h1, p⟩ ⟨h2, p2⟩ (by omega) (by omega) (by omega) fun h' tk hk => ⟨rfl, ?_⟩
    refine I.turnedL (ch := [z, TI, TO, i1, i2]) (fun c o hb q => ?_) hf
    simp only [List.mem_cons, List.not_mem_nil, or_false, not_or] at hb
    exact hk c o hb.1 hb.2.2.1 hb.2.2.2.1 hb.2.2.2.2 q
  self := fun A i s Q E st h => wpAny_pyIter_zip st.1 h
def iZipB (K : PySem.W.Frag) (ta : TA) : TI := fun σ H R => ta σ H fun vs H1 => ∃ a b xs ys t, vs = [.ref a, .ref b] ∧ SqB t K H1 a xs ∧ SqB (!t) K H1 b ys ∧ R (ItzB t (!t) K a b) H1
/-- either both alike, or one of each -/
def iZipC (K : PySem.W.Frag) (ta : TA) : TI := fun σ H R => ta σ H fun vs H1 => ∃ a b xs ys, vs = [.ref a, .ref b] ∧ ((SqL K H1 a xs ∧ SqL K H1 b ys ∧ R (Itz K a b) H1) ∨ (SqT K H1 a xs ∧ SqT K H1 b ys ∧ R (RZ.ItzT K a b) H1) ∨
  ∃ t, SqB t K H1 a xs ∧ SqB (!t) K H1 b ys ∧ R (ItzB t (!t) K a b) H1)
theorem pi_zipC {X : Cx} {e e2 : Expr} {ta : TA} {p pos tpos : Pos} {elts : List Expr} {kk : Nat} (hg : Gl X "zip") (hm : X.mg "zip" = none) (ha : PA X [e, e2] ta)
    (hs : starEach [e, e2] X.env = (false, eval e X.env) :: starEach [e2] X.env) (hpl : (backTo pos (starEach [e2] X.env)).any (·.1) = false) :
    PI X (.Tuple elts kk tpos) (.Call (.Name "zip" p) [e, e2] [] pos) (iZipC X.K ta) := by
  refine ⟨fun pins s σ H R I h => ?_⟩
  refine Call_ (ld_blt I hg hm PyProof.Rows.boot_zip (PyProof.Rows.callWith_type1 (thn (ha.run pos pins s σ H _ I h) fun us s1 hh => ?_) hs hpl))
  obtain ⟨vs, H1, I1, r1, a, b, xs, ys, rfl, q1⟩ := hh
  cases r1 with
  | cons r rr =>
    cases rr with
    | cons r' rr =>
      cases rr
      cases r
      cases r'
      obtain ⟨fp, hfp⟩ : ∃ fp, fp = [s1.heap.objs.size + 4, s1.heap.objs.size + 2, s1.heap.objs.size + 3, s1.heap.objs.size, s1.heap.objs.size + 1] := ⟨_, rfl⟩
      have fresh5 : ∀ c ∈ fp, FpOk X pins H1 c := fun c hcm => by
        have hle : s1.heap.objs.size ≤ c := by
          rw [hfp] at hcm
          simp only [List.mem_cons, List.not_mem_nil, or_false] at hcm
          omega
        exact I1.fpOk hle (I1.hok.fresh hle)
      rcases q1 with ⟨qx, qy, q⟩ | ⟨qx, qy, q⟩ | ⟨t, qx, qy, q⟩
      · obtain ⟨its, rv, p1, _⟩ := I1.list qx
        obtain ⟨its2, rv2, p2, _⟩ := I1.list qy
        refine call_zip_2 p1.isList p2.isList fun h' hz hTI hTO h1 h2 hsz hk => ?_
        subst hfp
        exact wpAny_pyIter_zip hz ⟨_, _, _, _, H1, rfl, I1.kept (t' := s1.toks) hk, turn_zip (PySem.W.ktu_apart _ a b p1.lt p2.lt), ⟨hz, hTI, ⟨_, _, hTO⟩, h1, h2⟩, fresh5, q⟩
      · obtain ⟨its, rv, p1, _⟩ := I1.tuple qx
        obtain ⟨its2, rv2, p2, _⟩ := I1.tuple qy
        have b1 : HsB true s1.heap a its.toArray := p1
        have b2 : HsB true s1.heap b its2.toArray := p2
        refine RZ.call_zipT b1 b2 fun h' hz hTI hTO h1 h2 hsz hk => ?_
        subst hfp
        exact wpAny_pyIter_zip hz ⟨_, _, _, _, H1, rfl, I1.kept (t' := s1.toks) hk, RZ.turn_zipT (PySem.W.ktu_apart _ a b b1.lt b2.lt), ⟨hz, hTI, ⟨_, _, hTO⟩, h1, h2⟩, fresh5, q⟩
      · obtain ⟨its, rv, p1⟩ := qx.vals I1
        obtain ⟨its2, rv2, p2⟩ := qy.vals I1
        refine call_zipB p1 p2 fun h' hz => ?_
        subst hfp
        exact wpAny_pyIter_zip hz.1 ⟨_, _, _, _, H1, rfl, I1.kept (t' := s1.toks) hz.2.2.2.2.2, turn_zipB (PySem.W.ktu_apart _ a b p1.lt p2.lt), ⟨hz.1, hz.2.1, ⟨_, _, hz.2.2.1⟩, hz.2.2.2.1, hz.2.2.2.2.1⟩, fresh5, q⟩
end D

namespace D
open PySem L2 PyProof.Rows
/-! ## what is walked -/
def Wk (K : PySem.W.Frag) (N : En) (J : L2.It) (os : List Opd) (vs : List V) (ws items : List W) : Prop := ∀ G H e σ tm, R K N G H e σ (optm os vs ++ tm) → OpsR σ os vs → getAll e os = some ws →
  J.stop items.length H ∧ ∀ (i : Nat) w, items[i]? = some w → J.go i H ∧ ∀ y H', J.yld i H y H' → ∃ G', Same G G' ∧ R K N G' H' e σ ((.val w, y) :: (optm os vs ++ tm))
def tI (K : PySem.W.Frag) (N : En) (Γ : Gam) (kx : KX) (it : It) : TI := fun σ H Rr => ∃ G e tm, R K N G H e σ tm ∧ Out K N kx σ tm (evIt Γ it e) (fun p e' => ∀ J vs H' G',
  R K N G' H' e' σ (optm p.1 vs ++ tm) → OpsR σ p.1 vs → getAll e' p.1 = some p.2.1 → Wk K N J p.1 vs p.2.1 p.2.2 → Rr J H')
section
variable {X : Cx} {N : En} {Γ : Gam} {kx : KX} {ex exa exb tg : Expr} {a b : A} {xa xb : E} {pos p tpos : Pos} {elts : List Expr} {kk : Nat}
theorem pi_seq {l : Expr} {tl : TE} (hl : PE X l tl) : PI X tg l (fun σ H Rr => tl σ H fun x H1 => ∃ a, x = .ref a ∧ (((∃ xs, SqL X.K H1 a xs) ∧ Rr (Itl X.K a) H1) ∨ ((∃ xs, SqT X.K H1 a xs) ∧ Rr (Itt X.K a) H1))) := by
  refine ⟨fun pins s σ H Rr I h => ?_⟩
  refine thn (hl.run pins s σ H _ I h) fun v s1 ⟨x, H1, I1, r1, q1⟩ => ?_
  obtain ⟨a, e, q⟩ := q1
  subst e
  cases r1
  rcases q with ⟨⟨xs, hq⟩, q⟩ | ⟨⟨xs, hq⟩, q⟩
  · obtain ⟨its, rv, p, hz⟩ := I1.list hq
    refine wpAny_pyIter_list p.isList ?_
    refine ⟨s1.heap.objs.size, [s1.heap.objs.size], _, _, H1, rfl, I1.kept (t' := s1.toks) fun b o e => Heap.get?_push_of_some _ e, turn_list a _, ⟨_, Heap.get?_push_size _ rfl, rfl, rfl⟩, fun b hb => ?_, q⟩
    have e : b = s1.heap.objs.size := by simpa using hb
    subst e
    exact I1.fpOk (Nat.le_refl _) (I1.hok.fresh (Nat.le_refl _))
  · obtain ⟨its, rv, p, hz⟩ := I1.tuple hq
    refine wpAny_pyIter_tuple (show s1.heap.IsTuple a its.toArray from p) ?_
    refine ⟨s1.heap.objs.size, [s1.heap.objs.size], _, _, H1, rfl, I1.kept (t' := s1.toks) fun b o e => Heap.get?_push_of_some _ e, turn_tuple a _, ⟨_, Heap.get?_push_size _ rfl, rfl, rfl⟩, fun b hb => ?_, q⟩
    have e : b = s1.heap.objs.size := by simpa using hb
    subst e
    exact I1.fpOk (Nat.le_refl _) (I1.hok.fresh (Nat.le_refl _))
/-- the operand of a walk, as it stands -/
theorem one_bv {K : PySem.W.Frag} {G H : Hp} {e : SEnv} {σ : L2.St} {tm : Tm} {o : Opd} {v : V} {w : W} (r : R K N G H e σ (optm [o] [v] ++ tm)) (q : OpsR σ [o] [v]) (h : o.get e = some w) : Bv K G H v w :=
  get_bv r h (fun x z => by subst z; exact r.tmp (.val x, v) List.mem_cons_self) (fun i z => by subst z; exact q.1)
theorem getAll1 {e : SEnv} {o : Opd} {w : W} (h : o.get e = some w) : getAll e [o] = some [w] := by unfold getAll getAll; rw [h]
theorem of_getAll1 {e : SEnv} {o : Opd} {w : W} (h : getAll e [o] = some [w]) : o.get e = some w := by
  unfold getAll getAll at h
  cases q : o.get e with
  | none => rw [q] at h; cases h
  | some y => rw [q] at h; cases h; rfl
theorem wk_list {K : PySem.W.Frag} {o : Opd} {ad : Addr} {xs : List W} : Wk K N (Itl K ad) [o] [.ref ad] [.list xs] xs := by
  intro G H e σ tm r q h
  obtain ⟨a', vs, e', s1, d⟩ := (one_bv r q (of_getAll1 h)).list r.sub
  cases e'
  refine ⟨⟨vs, s1.sq, by rw [d.length]; exact Nat.le_refl _⟩, fun i w hw => ?_⟩
  obtain ⟨v, hv, dv⟩ := d.get' hw
  refine ⟨⟨vs, v, s1.sq, hv⟩, fun y H' hy => ?_⟩
  obtain ⟨rfl, hy⟩ := hy
  have := hy vs s1.sq
  rw [hv] at this; cases this
  exact ⟨G, Same.refl _, r.push dv⟩
theorem wk_tuple {K : PySem.W.Frag} {o : Opd} {ad : Addr} {xs : List W} : Wk K N (Itt K ad) [o] [.ref ad] [.tuple xs] xs := by
  intro G H e σ tm r q h
  obtain ⟨a', vs, e', s1, _, d⟩ := (one_bv r q (of_getAll1 h)).tuple r.sub
  cases e'
  refine ⟨⟨vs, s1, by rw [d.length]; exact Nat.le_refl _⟩, fun i w hw => ?_⟩
  obtain ⟨v, hv, dv⟩ := d.get' hw
  refine ⟨⟨vs, v, s1, hv⟩, fun y H' hy => ?_⟩
  obtain ⟨rfl, hy⟩ := hy
  have := hy vs s1
  rw [hv] at this; cases this
  exact ⟨G, Same.refl _, r.push dv⟩
theorem i_seq (ha : PE X ex (tO X.K N Γ kx a)) : PI X tg ex (tI X.K N Γ kx (.seq a)) := by
  refine ⟨fun pins s σ H Rr I h => (pi_seq ha).run pins s σ H Rr I ?_⟩
  obtain ⟨G, e, tm, r, o⟩ := h
  unfold evIt at o
  refine ⟨G, e, tm, r, o.bind.mono fun o1 e1 p1 v H1 G1 r1 q1 => ?_⟩
  split at p1
  · rename_i x hx
    have bx := one_bv r1 q1 hx
    split at p1
    · rename_i xs hs
      unfold seqOf at hs
      split at hs
      · cases hs
        obtain ⟨a', vs, rfl, s1, d⟩ := bx.list r1.sub
        exact ⟨a', rfl, .inl ⟨⟨vs, s1.sq⟩, p1 _ [.ref a'] H1 G1 r1 q1 (getAll1 hx) wk_list⟩⟩
      · cases hs
        obtain ⟨a', vs, rfl, s1, _, d⟩ := bx.tuple r1.sub
        exact ⟨a', rfl, .inr ⟨⟨vs, s1⟩, p1 _ [.ref a'] H1 G1 r1 q1 (getAll1 hx) wk_tuple⟩⟩
      · cases hs
    · exact p1.elim
  · exact p1.elim
theorem wk_range {K : PySem.W.Frag} {lo : Int} {n : Nat} : Wk K N (Itr lo n) [] [] [] ((List.range n).map fun k => .int (lo + (k : Nat))) := by
  intro G H e σ tm r q h
  refine ⟨by show n ≤ _; simp, fun i w hw => ?_⟩
  have hi : i < n := by
    have := (List.getElem?_eq_some_iff.mp hw).1
    simpa using this
  refine ⟨hi, fun y H' hy => ?_⟩
  obtain ⟨rfl, rfl⟩ := hy
  have : w = .int (lo + (i : Nat)) := by
    rw [List.getElem?_map, List.getElem?_range hi] at hw
    exact (Option.some.inj hw).symm
  subst this
  exact ⟨G, Same.refl _, r.push (.int _)⟩
theorem slot_int {K : PySem.W.Frag} {G H : Hp} {x : Slot} {v : V} {i : Int} (h : SlotR K N G H x v) (e : x.toW = .int i) : v = .int i := by
  cases x with
  | val w => cases e; cases h; rfl
  | own io xs => cases e
theorem Out.monoE {K : PySem.W.Frag} {α : Type} {σ : L2.St} {tm : Tm} {r : Res α} {p q : α → SEnv → Prop} (h : Out K N kx σ tm r p) (f : ∀ a e, r = .ok a e → p a e → q a e) : Out K N kx σ tm r q := by
  cases r with
  | ok a e => exact f a e rfl h
  | exc c e => exact h
  | bad => exact h
theorem evEs_len : ∀ {as : List E} {e e' : SEnv} {xs : List Slot}, evEs Γ as e = .ok xs e' → xs.length = as.length
  | [], e, e', xs, h => by unfold evEs at h; cases h; rfl
  | x :: as, e, e', xs, h => by
    unfold evEs at h
    cases h1 : evE Γ x e with
    | bad => rw [h1] at h; cases h
    | exc c e1 => rw [h1] at h; cases h
    | ok r e1 =>
      rw [h1] at h
      simp only [Res.bind] at h
      cases h2 : evEs Γ as e1 with
      | bad => rw [h2] at h; cases h
      | exc c e1 => rw [h2] at h; cases h
      | ok ys e2 =>
        rw [h2] at h
        simp only [Res.bind] at h
        cases h
        rw [List.length_cons, List.length_cons, evEs_len h2]
theorem i_rng1 (hg : Gl X "range") (hm : X.mg "range" = none) (ha : PA X [ex] (tEs X.K N Γ kx [xa])) (hs : starEach [ex] X.env = [(false, eval ex X.env)]) : PI X tg (.Call (.Name "range" p) [ex] [] pos) (tI X.K N Γ kx (.rng [xa])) := by
  refine ⟨fun pins s σ H Rr I h => (pi_range1 hg hm ha hs).run pins s σ H Rr I ?_⟩
  obtain ⟨G, e, tm, r, o⟩ := h
  unfold evIt at o
  refine ⟨G, e, tm, r, Out.monoE o.bind fun xs e1 hev p1 us H1 G1 hl r1 => ?_⟩
  have hlen := evEs_len hev
  match xs, us, hl, hlen with
  | [x], [u], _, _ =>
    split at p1
    · rename_i ys hy
      unfold rngOf at hy
      split at hy
      · rename_i j hj
        split at hy
        · rename_i hb
          simp only [Bool.and_eq_true, decide_eq_true_eq] at hb
          cases hy
          simp only [List.map_cons, List.map_nil, List.cons.injEq, and_true] at hj
          have q := r1.tmp (x, u) List.mem_cons_self
          have := slot_int q hj
          subst this
          refine ⟨j, rfl, hb.1, hb.2, p1 _ [] H1 G1 r1.tail trivial rfl ?_⟩
          have e : ((List.range j.toNat).map fun k => (PyData.int (k : Nat) : W)) = (List.range j.toNat).map fun k => .int (0 + (k : Nat)) := by
            congr 1; funext k; rw [Int.zero_add]
          rw [e]
          exact wk_range
        · cases hy
      · rename_i i j hj
        simp at hj
      · cases hy
    · exact p1.elim
theorem i_rng2 (hg : Gl X "range") (hm : X.mg "range" = none) (ha : PA X [exa, exb] (tEs X.K N Γ kx [xa, xb])) (hs : starEach [exa, exb] X.env = [(false, eval exa X.env), (false, eval exb X.env)]) (hs2 : starEach [exb] X.env = [(false, eval exb X.env)]) : PI X tg (.Call (.Name "range" p) [exa, exb] [] pos) (tI X.K N Γ kx (.rng [xa, xb])) := by
  refine ⟨fun pins s σ H Rr I h => (pi_range2 hg hm ha hs hs2).run pins s σ H Rr I ?_⟩
  obtain ⟨G, e, tm, r, o⟩ := h
  unfold evIt at o
  refine ⟨G, e, tm, r, Out.monoE o.bind fun xs e1 hev p1 us H1 G1 hl r1 => ?_⟩
  have hlen := evEs_len hev
  match xs, us, hl, hlen with
  | [x, y], [u, v], _, _ =>
    split at p1
    · rename_i ys hy
      unfold rngOf at hy
      split at hy
      · rename_i j hj
        simp at hj
      · rename_i i j hj
        split at hy
        · rename_i hb
          simp only [Bool.and_eq_true, decide_eq_true_eq] at hb
          cases hy
          simp only [List.map_cons, List.map_nil, List.cons.injEq, and_true] at hj
          have e1 := slot_int (r1.tmp (x, u) List.mem_cons_self) hj.1
          have e2 := slot_int (r1.tmp (y, v) (List.mem_cons_of_mem _ List.mem_cons_self)) hj.2
          subst e1 e2
          exact ⟨i, j, rfl, ⟨hb.1.1.1, hb.1.1.2, hb.1.2, hb.2⟩, p1 _ [] H1 G1 r1.tail.tail trivial rfl wk_range⟩
        · cases hy
      · cases hy
    · exact p1.elim
/-! ### enumerate of a tuple -/
end
open PySem.AutoSeq1 (wpAny_loadPart') in
theorem meets_enumerate_newT (l : Addr) (items : Array Value) (n : Nat) (dct : Option Addr) (sl : Array (Option Value)) :
    Meets (Builtin.«enumerate.__new__» ⟨[.type "enumerate", .ref l], []⟩) (fun _ R s => s.heap.get? l = some { cls := .type "tuple", dict := dct, data := .seq items n, slots := sl } ∧
      R (.ok (.ret (.ref (s.heap.push { cls := .type "tuple_iterator", data := .fields #[.ref l, .int 0 0] }).objs.size)))
        { s with heap := (s.heap.push { cls := .type "tuple_iterator", data := .fields #[.ref l, .int 0 0] }).push { cls := .type "enumerate", data := .fields #[.none, .bool false, .ref s.heap.objs.size, rawInt 0, .none, .none] } }) :=
  .of_wp fun prog w A R s h => by
    obtain ⟨hp, g, d, tk, os⟩ := s; obtain ⟨hl, h⟩ := h
    have hsub := sub_enumerate
    have hL : Heap.IsTuple (Shared.heap ⟨hp, g, d, tk, os⟩) l items := ⟨_, hl, rfl, n, rfl⟩
    wp_walk using wpAny_loadPart' hl
    refine wpAny_stack_any fun st => wpAny_pure ?_
    split
    · rename_i c _ _ _ _ _
      cases (c == Value.type "enumerate")
      · wp_walk using wpAny_loadPart' hl, wpAny_pyIter_tuple hL
        exact ⟨_, rfl, h⟩
      · wp_walk using wpAny_loadPart' hl, wpAny_pyIter_tuple hL
        exact ⟨_, rfl, h⟩
    · wp_walk using wpAny_loadPart' hl, wpAny_pyIter_tuple hL
      exact ⟨_, rfl, h⟩
theorem call_enumerate_tuple {prog : Program} {w : World} {A : Around} {E : Value → Shared → Prop} {s : Shared} {l : Addr} {items : Array Value} {Q : Value → Shared → Prop} (hL : s.heap.IsTuple l items)
    (h : ∀ h', IsEnum h' (s.heap.objs.size + 1) s.heap.objs.size 0 .none → h'.IsTupleIter s.heap.objs.size l 0 → h'.objs.size = s.heap.objs.size + 2 →
      (∀ b o, s.heap.get? b = some o → h'.get? b = some o) → Q (.ref (s.heap.objs.size + 1)) { s with heap := h' }) :
    wpAny (model prog w) A (call (.type "enumerate") [.ref l]) Q E s := by
  obtain ⟨⟨c, dct, dt, sl⟩, hl, hc, n, hd⟩ := hL
  replace hc : c = .type "tuple" := hc
  replace hd : dt = .seq items n := hd
  subst hc hd
  refine callType_new F.called_enumerate (by decide) (F.typeCall_enumerate_1 _) (F.newCall_enumerate_1 _) (fun obj => F.args_object_init_2 obj _) F.entry_enumerate_new
    (meets_enumerate_newT l items n dct sl) ⟨hl, ?_⟩
  have hz : (s.heap.push { cls := .type "tuple_iterator", data := .fields #[.ref l, .int 0 0] }).objs.size = s.heap.objs.size + 1 := Heap.size_push ..
  show _ ∧ _
  rw [hz]
  have he : IsEnum ((s.heap.push { cls := .type "tuple_iterator", data := .fields #[.ref l, .int 0 0] }).push
      { cls := .type "enumerate", data := .fields #[.none, .bool false, .ref s.heap.objs.size, rawInt 0, .none, .none] }) (s.heap.objs.size + 1) s.heap.objs.size 0 .none := by
    have := Heap.get?_push_size (s.heap.push { cls := .type "tuple_iterator", data := .fields #[.ref l, .int 0 0] })
      (o := { cls := .type "enumerate", data := .fields #[.none, .bool false, .ref s.heap.objs.size, rawInt 0, .none, .none] }) rfl
    rw [hz] at this; exact this
  refine ⟨⟨_, he, rfl⟩, h _ he ⟨_, Heap.get?_push_of_some _ (Heap.get?_push_size _ rfl), rfl, rfl⟩ (by rw [Heap.size_push, hz]) fun b o x => Heap.get?_push_of_some _ (Heap.get?_push_of_some _ x)⟩
/-- the tuple at a, each item in a new pair -/
def IteT (K : PySem.W.Frag) (a : Addr) : L2.It :=
  ⟨fun i H => ∃ (xs : List V) (x : V), SqT K H a xs ∧ xs[i]? = some x, fun i H v H' => ∃ T x, v = .ref T ∧ H T = none ∧ H' = upd H T (.tup [.int (i : Nat), x]) ∧ ∀ xs, SqT K H a xs → xs[i]? = some x, fun i H => ∃ xs : List V, SqT K H a xs ∧ xs.length ≤ i⟩
theorem turn_enumT {P : Program} {w : World} {K : PySem.W.Frag} {elts : List Expr} {kk : Nat} {tpos : Pos} (a e it : Addr) :
    Turn P w K (.Tuple elts kk tpos) (IteT K a) [e, it] e (fun i h => (∃ old, IsEnum h e it ((i : Nat) : Int) old) ∧ h.IsTupleIter it a i ∧ e ≠ it ∧ a ≠ it ∧ a ≠ e) where
  mem := by simp
  obj := fun i h st b hb => by
    obtain ⟨⟨old, he⟩, ⟨o, ho, hc, hd⟩, _⟩ := st
    have e' : b = e ∨ b = it := by simpa using hb
    rcases e' with z | z
    · rw [z]; exact ⟨_, he, fun v q => nomatch q⟩
    · rw [z]; exact ⟨o, ho, fun v q => by rw [hd] at q; cases q⟩
  keep := fun i h h' st k => let ⟨⟨old, he⟩, hi, hne⟩ := st; ⟨⟨old, k e (by simp) _ he⟩, hi.at fun o q => k it (by simp) o q, hne⟩
  item := by
    intro X hP hw hK hc i pins s σ H E I hf st hg
    subst hP hw hK
    obtain ⟨⟨old, he⟩, hit, hne, hat, hae⟩ := st
    obtain ⟨xs, x, hq, hx⟩ := hg
    obtain ⟨its, rv, p, hz⟩ := I.tuple hq
    obtain ⟨u, hu, ru⟩ := rv.get hx
    have hel : e < s.heap.objs.size := Heap.lt_size he
    have hil : it < s.heap.objs.size := by obtain ⟨_, q, _⟩ := hit; exact Heap.lt_size q
    have hlt : i < its.toArray.size := by
      have := (List.getElem?_eq_some_iff.mp hu).1
      simpa using this
    have D := Draws.tuple (prog := X.prog) (w := X.w) (A := X.A.in1) (I.ok.hd hc) it a hat its.toArray
    refine wpAny_pyNext_enum_itemD (i := i) D he ⟨hit, p⟩ hlt hne (by simp [hne, Ne.symm hae]) fun y h' tk hy ho hst hT hsz hk => ?_
    have hyu : y = u := by
      have e1 : its.toArray[i]? = some u := by simpa using hu
      rw [e1] at hy; cases hy; rfl
    subst hyu
    obtain ⟨hit', _⟩ := hst
    refine ⟨_, rfl, wpAny_letOwnedTupleGo_enum (s := { s with heap := h', toks := tk + 1 }) ho fun h'' he' sb => ?_⟩
    have hT2 : h''.get? s.heap.objs.size = some { cls := .type "tuple", data := .seq #[.int i tk, y] } := (sb.2 _ (Nat.ne_of_gt hel)).trans hT
    have new : ObjOk X.prog X.w (upd H s.heap.objs.size (.tup [.int (i : Nat), x])) h'' s.heap.objs.size (.tup [.int (i : Nat), x]) :=
      ⟨by show 2 ≤ sizeLine; decide, [.int i tk, y], .cons ⟨_, rfl⟩ (.cons ru .nil), ⟨_, hT2, rfl, _, rfl⟩⟩
    have I1 : Inv X pins σ (upd H s.heap.objs.size (.tup [.int (i : Nat), x])) { s with heap := h'', toks := tk + 1 } :=
      I.turnedNew (ch := [e, it]) (fun b ob hb q => (sb.2 b (fun z => hb (by simp [z]))).trans (hk b ob (fun z => hb (by simp [z])) (fun z => hb (by simp [z])) q)) hf (Nat.le_refl _) new
    refine ⟨.ref s.heap.objs.size, _, I1, rfl, ⟨_, x, rfl, I.hok.fresh (Nat.le_refl _), rfl, fun ys hy => by rw [I.tuple_inj hy hq]; exact hx⟩, ⟨⟨y, ?_⟩, hit'.at fun o q => (sb.2 it (Ne.symm hne)).trans q, hne, hat, hae⟩, fun b hb => ?_⟩
    · have e1 : ((i + 1 : Nat) : Int) = (i : Int) + 1 := by omega
      rw [e1]; exact he'
    · have hb' : b < s.heap.objs.size := by
        have e' : b = e ∨ b = it := by simpa using hb
        rcases e' with z | z
        · rw [z]; exact hel
        · rw [z]; exact hil
      rw [upd_ne (Nat.ne_of_lt hb')]
      exact (hf b hb).1
  done := by
    intro X hP hw hK hc i pins s σ H E I hf st hg
    subst hP hw hK
    obtain ⟨⟨old, he⟩, hit, hne, hat, hae⟩ := st
    obtain ⟨xs, hq, hx⟩ := hg
    obtain ⟨its, rv, p, hz⟩ := I.tuple hq
    obtain ⟨f0, f1, f2, f3, f4, f5⟩ := hf it (by simp)
    have hl := rv.length
    have D : Draws X.prog X.w X.A.in1 it [it, a] i (fun _ _ => False) (fun j h => j = i ∧ h.IsTupleIter it a i ∧ h.IsTuple a its.toArray) := {
      live := fun _ _ st => let ⟨o, ho, _⟩ := st.2.1; ⟨o, ho⟩
      frame := fun _ _ _ st hk => ⟨st.1, st.2.1.at fun o e => hk it (by simp) o e, st.2.2.at fun o e => hk a (by simp) o e⟩
      item := fun j s Q E hi st hQ => absurd hi (by rw [st.1]; exact Nat.lt_irrefl _)
      done := fun s Q E st hE => PySem.wpAny_nextOf_tuple_end (I.ok.hd hc) st.2.1 st.2.2 (by simp; omega) hE }
    exact wpAny_pyNext_enum_endD D he ⟨rfl, hit, p⟩ fun h' eb => ⟨rfl, I.turned (t' := s.toks) (fun b o hb q => eb b o hb q) f0 f1 f3 f4 f5⟩
  self := fun A i s Q E st h => let ⟨⟨_, he⟩, _⟩ := st; wpAny_pyIter_enum he h
section
variable {X : Cx} {N : En} {Γ : Gam} {kx : KX} {ex exa exb tg : Expr} {a b : A} {xa xb : E} {pos p tpos : Pos} {elts : List Expr} {kk : Nat}
theorem pi_enumA {e : Expr} {ta : TA} (hg : Gl X "enumerate") (hm : X.mg "enumerate" = none) (ha : PA X [e] ta) (hs : starEach [e] X.env = [(false, eval e X.env)]) :
    PI X (.Tuple elts kk tpos) (.Call (.Name "enumerate" p) [e] [] pos) (fun σ H Rr => ta σ H fun vs H1 => ∃ a xs, vs = [.ref a] ∧ ((SqL X.K H1 a xs ∧ Rr (Ite X.K a) H1) ∨ (SqT X.K H1 a xs ∧ Rr (IteT X.K a) H1))) := by
  refine ⟨fun pins s σ H R I h => ?_⟩
  refine Call_ (ld_blt I hg hm boot_enumerate (PyProof.Rows.callWith_type1 (thn (ha.run pos pins s σ H _ I h) fun us s1 ⟨vs, H1, I1, r1, q1⟩ => ?_) hs rfl))
  obtain ⟨a, xs, ex, q⟩ := q1
  subst ex
  cases r1 with
  | cons r rr =>
    cases rr
    cases r
    rcases q with ⟨hq, q⟩ | ⟨hq, q⟩
    · obtain ⟨its, rv, p', hz⟩ := I1.list hq
      refine call_enumerate_list p'.isList fun h' he hit hsz hk => wpAny_pyIter_enum he ?_
      have I2 : Inv X pins σ H1 { s1 with heap := h' } := I1.kept (t' := s1.toks) hk
      refine ⟨s1.heap.objs.size + 1, [s1.heap.objs.size + 1, s1.heap.objs.size], _, _, H1, rfl, I2, turn_enum a (s1.heap.objs.size + 1) s1.heap.objs.size, ⟨⟨.none, he⟩, hit, Nat.succ_ne_self _⟩, fun b hb => ?_, q⟩
      have e' : b = s1.heap.objs.size + 1 ∨ b = s1.heap.objs.size := by simpa using hb
      have hle : s1.heap.objs.size ≤ b := by
        rcases e' with z | z
        · rw [z]; exact Nat.le_add_right _ _
        · rw [z]; exact Nat.le_refl _
      exact I1.fpOk hle (I1.hok.fresh hle)
    · obtain ⟨its, rv, p', hz⟩ := I1.tuple hq
      have hlt : a < s1.heap.objs.size := by obtain ⟨o, ho, _⟩ := id p'; exact Heap.lt_size ho
      refine call_enumerate_tuple (show s1.heap.IsTuple a its.toArray from p') fun h' he hit hsz hk => wpAny_pyIter_enum he ?_
      have I2 : Inv X pins σ H1 { s1 with heap := h' } := I1.kept (t' := s1.toks) hk
      refine ⟨s1.heap.objs.size + 1, [s1.heap.objs.size + 1, s1.heap.objs.size], _, _, H1, rfl, I2, turn_enumT a (s1.heap.objs.size + 1) s1.heap.objs.size, ⟨⟨.none, he⟩, hit, Nat.succ_ne_self _, Nat.ne_of_lt hlt, Nat.ne_of_lt (Nat.lt_succ_of_lt hlt)⟩, fun b hb => ?_, q⟩
      have e' : b = s1.heap.objs.size + 1 ∨ b = s1.heap.objs.size := by simpa using hb
      have hle : s1.heap.objs.size ≤ b := by
        rcases e' with z | z
        · rw [z]; exact Nat.le_add_right _ _
        · rw [z]; exact Nat.le_refl _
      exact I1.fpOk hle (I1.hok.fresh hle)
theorem out_as1 {K : PySem.W.Frag} {σ : L2.St} {tm : Tm} {e : SEnv} {p : List Opd → SEnv → Prop} (h : Out K N kx σ tm (evA Γ a e) (fun o e' => p [o] e')) : Out K N kx σ tm (evAs Γ [a] e) p := by
  unfold evAs evAs
  cases hr : evA Γ a e with
  | bad => rw [hr] at h; exact h.elim
  | exc c e1 => rw [hr] at h; exact h
  | ok o e1 => rw [hr] at h; exact h
theorem out_as2 {K : PySem.W.Frag} {σ : L2.St} {tm : Tm} {e : SEnv} {p : List Opd → SEnv → Prop} (h : Out K N kx σ tm (evA Γ a e) (fun o e' => Out K N kx σ tm (evA Γ b e') (fun o2 e2 => p [o, o2] e2))) : Out K N kx σ tm (evAs Γ [a, b] e) p := by
  unfold evAs
  cases hr : evA Γ a e with
  | bad => rw [hr] at h; exact h.elim
  | exc c e1 => rw [hr] at h; exact h
  | ok o e1 =>
    rw [hr] at h
    have h := out_as1 (p := fun os e2 => p (o :: os) e2) h
    simp only [Res.bind]
    cases h2 : evAs Γ [b] e1 with
    | bad => rw [h2] at h; exact h.elim
    | exc c e1 => rw [h2] at h; exact h
    | ok os e2 => rw [h2] at h; exact h
/-- a new pair -/
theorem R.pair {K : PySem.W.Frag} {G H : Hp} {e : SEnv} {σ : L2.St} {tm : Tm} {x y : V} {w z : W} {T : Addr} (r : R K N G H e σ tm) (hT : H T = none) (dx : Dv K G x w) (dy : Dv K G y z) :
    ∃ G', Same G G' ∧ R K N G' (upd H T (.tup [x, y])) e σ ((.val (.tuple [w, z]), .ref T) :: tm) := by
  have g := same_upd (r.gn hT) (.tup [x, y])
  exact ⟨_, g, (r.newG hT _).push (.tup (SqT.of upd_same) (.cons (dx.mono g) (.cons (dy.mono g) .nil)))⟩
theorem enumW_at {xs : List W} {i : Nat} {w : W} (h : (enumW xs)[i]? = some w) : ∃ x, xs[i]? = some x ∧ w = .tuple [.int (i : Nat), x] := by
  unfold enumW at h
  rw [List.getElem?_map] at h
  obtain ⟨q, h1, h2⟩ := Option.map_eq_some_iff.mp h
  subst h2
  rw [List.getElem?_zip_eq_some] at h1
  have hi : i < xs.length := (List.getElem?_eq_some_iff.mp h1.2).1
  rw [List.getElem?_range hi] at h1
  have := Option.some.inj h1.1
  exact ⟨q.2, h1.2, by rw [← this]⟩
theorem enumW_len (xs : List W) : (enumW xs).length = xs.length := by unfold enumW; simp
theorem wk_enumL {K : PySem.W.Frag} {o : Opd} {ad : Addr} {xs : List W} : Wk K N (Ite K ad) [o] [.ref ad] [.list xs] (enumW xs) := by
  intro G H e σ tm r q h
  obtain ⟨a', vs, e', s1, d⟩ := (one_bv r q (of_getAll1 h)).list r.sub
  cases e'
  refine ⟨⟨vs, s1.sq, by rw [d.length, enumW_len]; exact Nat.le_refl _⟩, fun i w hw => ?_⟩
  obtain ⟨x, hx, rfl⟩ := enumW_at hw
  obtain ⟨v, hv, dv⟩ := d.get' hx
  refine ⟨⟨vs, v, s1.sq, hv⟩, fun y H' hy => ?_⟩
  obtain ⟨T, x', rfl, hT, rfl, hy⟩ := hy
  have := hy vs s1.sq
  rw [hv] at this; cases this
  exact r.pair hT (.int _) dv
theorem wk_enumT {K : PySem.W.Frag} {o : Opd} {ad : Addr} {xs : List W} : Wk K N (IteT K ad) [o] [.ref ad] [.tuple xs] (enumW xs) := by
  intro G H e σ tm r q h
  obtain ⟨a', vs, e', s1, _, d⟩ := (one_bv r q (of_getAll1 h)).tuple r.sub
  cases e'
  refine ⟨⟨vs, s1, by rw [d.length, enumW_len]; exact Nat.le_refl _⟩, fun i w hw => ?_⟩
  obtain ⟨x, hx, rfl⟩ := enumW_at hw
  obtain ⟨v, hv, dv⟩ := d.get' hx
  refine ⟨⟨vs, v, s1, hv⟩, fun y H' hy => ?_⟩
  obtain ⟨T, x', rfl, hT, rfl, hy⟩ := hy
  have := hy vs s1
  rw [hv] at this; cases this
  exact r.pair hT (.int _) dv
theorem i_enum (hg : Gl X "enumerate") (hm : X.mg "enumerate" = none) (ha : PA X [ex] (tAs X.K N Γ kx [a])) (hs : starEach [ex] X.env = [(false, eval ex X.env)]) : PI X (.Tuple elts kk tpos) (.Call (.Name "enumerate" p) [ex] [] pos) (tI X.K N Γ kx (.enum a)) := by
  refine ⟨fun pins s σ H Rr I h => (pi_enumA hg hm ha hs).run pins s σ H Rr I ?_⟩
  obtain ⟨G, e, tm, r, o⟩ := h
  unfold evIt at o
  refine ⟨G, e, tm, r, out_as1 (o.bind.mono fun o1 e1 p1 vs H1 G1 r1 q1 => ?_)⟩
  match vs, q1 with
  | [v], q1 =>
  split at p1
  · rename_i x hx
    have bx := one_bv r1 q1 hx
    split at p1
    · rename_i xs hs
      unfold seqOf at hs
      split at hs
      · cases hs
        obtain ⟨a', us, rfl, s1, d⟩ := bx.list r1.sub
        exact ⟨a', us, rfl, .inl ⟨s1.sq, p1 _ [.ref a'] H1 G1 r1 q1 (getAll1 hx) wk_enumL⟩⟩
      · cases hs
        obtain ⟨a', us, rfl, s1, _, d⟩ := bx.tuple r1.sub
        exact ⟨a', us, rfl, .inr ⟨s1, p1 _ [.ref a'] H1 G1 r1 q1 (getAll1 hx) wk_enumT⟩⟩
      · cases hs
    · exact p1.elim
  · exact p1.elim
  | [], q1 => cases o1 <;> exact q1.elim
  | _ :: _ :: _, q1 =>
    cases o1 with
    | w x => exact q1.elim
    | r i => exact q1.2.elim
theorem zipW_at {xs ys : List W} {i : Nat} {w : W} (h : (zipW xs ys)[i]? = some w) : ∃ x y, xs[i]? = some x ∧ ys[i]? = some y ∧ w = .tuple [x, y] := by
  unfold zipW at h
  rw [List.getElem?_map] at h
  obtain ⟨q, h1, h2⟩ := Option.map_eq_some_iff.mp h
  subst h2
  rw [List.getElem?_zip_eq_some] at h1
  exact ⟨q.1, q.2, h1.1, h1.2, rfl⟩
theorem zipW_len (xs ys : List W) : (zipW xs ys).length = min xs.length ys.length := by unfold zipW; simp
theorem getAll2 {e : SEnv} {o o2 : Opd} {w w2 : W} (h : o.get e = some w) (h2 : o2.get e = some w2) : getAll e [o, o2] = some [w, w2] := by unfold getAll getAll getAll; rw [h, h2]
theorem of_getAll2 {e : SEnv} {o o2 : Opd} {w w2 : W} (h : getAll e [o, o2] = some [w, w2]) : o.get e = some w ∧ o2.get e = some w2 := by
  unfold getAll getAll getAll at h
  cases q : o.get e with
  | none => rw [q] at h; cases h
  | some y =>
    cases q2 : o2.get e with
    | none => rw [q, q2] at h; cases h
    | some y2 => rw [q, q2] at h; cases h; exact ⟨rfl, rfl⟩
theorem two_bv' {K : PySem.W.Frag} {G H : Hp} {e : SEnv} {σ : L2.St} {tm : Tm} {o o2 : Opd} {v v2 : V} {w w2 : W} (r : R K N G H e σ (optm [o, o2] [v, v2] ++ tm)) (q : OpsR σ [o, o2] [v, v2]) (h : o.get e = some w) (h2 : o2.get e = some w2) : Bv K G H v w ∧ Bv K G H v2 w2 := by
  have b := ops_bv r q (getAll2 h h2)
  exact ⟨b.1, b.2.1⟩
theorem wk_zipL {K : PySem.W.Frag} {o o2 : Opd} {ad bd : Addr} {xs ys : List W} : Wk K N (Itz K ad bd) [o, o2] [.ref ad, .ref bd] [.list xs, .list ys] (zipW xs ys) := by
  intro G H e σ tm r q h
  obtain ⟨g1, g2⟩ := of_getAll2 h
  obtain ⟨b1, b2⟩ := two_bv' r q g1 g2
  obtain ⟨a', vs, e', s1, d⟩ := b1.list r.sub
  cases e'
  obtain ⟨a', us, e', s2, d2⟩ := b2.list r.sub
  cases e'
  refine ⟨⟨vs, us, s1.sq, s2.sq, by rw [d.length, d2.length, zipW_len]; omega⟩, fun i w hw => ?_⟩
  obtain ⟨x, y, hx, hy, rfl⟩ := zipW_at hw
  obtain ⟨v, hv, dv⟩ := d.get' hx
  obtain ⟨u, hu, du⟩ := d2.get' hy
  refine ⟨⟨vs, us, v, u, s1.sq, s2.sq, hv, hu⟩, fun y H' hy => ?_⟩
  obtain ⟨T, x', y', rfl, hT, rfl, h1, h2⟩ := hy
  have := h1 vs s1.sq
  rw [hv] at this; cases this
  have := h2 us s2.sq
  rw [hu] at this; cases this
  exact r.pair hT dv du
theorem wk_zipT {K : PySem.W.Frag} {o o2 : Opd} {ad bd : Addr} {xs ys : List W} : Wk K N (RZ.ItzT K ad bd) [o, o2] [.ref ad, .ref bd] [.tuple xs, .tuple ys] (zipW xs ys) := by
  intro G H e σ tm r q h
  obtain ⟨g1, g2⟩ := of_getAll2 h
  obtain ⟨b1, b2⟩ := two_bv' r q g1 g2
  obtain ⟨a', vs, e', s1, _, d⟩ := b1.tuple r.sub
  cases e'
  obtain ⟨a', us, e', s2, _, d2⟩ := b2.tuple r.sub
  cases e'
  refine ⟨⟨vs, us, s1, s2, by rw [d.length, d2.length, zipW_len]; omega⟩, fun i w hw => ?_⟩
  obtain ⟨x, y, hx, hy, rfl⟩ := zipW_at hw
  obtain ⟨v, hv, dv⟩ := d.get' hx
  obtain ⟨u, hu, du⟩ := d2.get' hy
  refine ⟨⟨vs, us, v, u, s1, s2, hv, hu⟩, fun y H' hy => ?_⟩
  obtain ⟨T, x', y', rfl, hT, rfl, h1, h2⟩ := hy
  have := h1 vs s1
  rw [hv] at this; cases this
  have := h2 us s2
  rw [hu] at this; cases this
  exact r.pair hT dv du
theorem wk_zipLT {K : PySem.W.Frag} {o o2 : Opd} {ad bd : Addr} {xs ys : List W} : Wk K N (ItzB false true K ad bd) [o, o2] [.ref ad, .ref bd] [.list xs, .tuple ys] (zipW xs ys) := by
  intro G H e σ tm r q h
  obtain ⟨g1, g2⟩ := of_getAll2 h
  obtain ⟨b1, b2⟩ := two_bv' r q g1 g2
  obtain ⟨a', vs, e', s1, d⟩ := b1.list r.sub
  cases e'
  obtain ⟨a', us, e', s2, _, d2⟩ := b2.tuple r.sub
  cases e'
  have zl := zipW_len xs ys
  have l1 := d.length
  have l2 := d2.length
  refine ⟨⟨vs, us, s1.sq, s2, by omega, by omega, by omega⟩, fun i w hw => ?_⟩
  obtain ⟨x, y, hx, hy, rfl⟩ := zipW_at hw
  obtain ⟨v, hv, dv⟩ := d.get' hx
  obtain ⟨u, hu, du⟩ := d2.get' hy
  refine ⟨⟨vs, us, v, u, s1.sq, s2, hv, hu⟩, fun y H' hy => ?_⟩
  obtain ⟨T, x', y', rfl, hT, rfl, h1, h2⟩ := hy
  have := h1 vs s1.sq
  rw [hv] at this; cases this
  have := h2 us s2
  rw [hu] at this; cases this
  exact r.pair hT dv du
theorem wk_zipTL {K : PySem.W.Frag} {o o2 : Opd} {ad bd : Addr} {xs ys : List W} : Wk K N (ItzB true false K ad bd) [o, o2] [.ref ad, .ref bd] [.tuple xs, .list ys] (zipW xs ys) := by
  intro G H e σ tm r q h
  obtain ⟨g1, g2⟩ := of_getAll2 h
  obtain ⟨b1, b2⟩ := two_bv' r q g1 g2
  obtain ⟨a', vs, e', s1, _, d⟩ := b1.tuple r.sub
  cases e'
  obtain ⟨a', us, e', s2, d2⟩ := b2.list r.sub
  cases e'
  have zl := zipW_len xs ys
  have l1 := d.length
  have l2 := d2.length
  refine ⟨⟨vs, us, s1, s2.sq, by omega, by omega, by omega⟩, fun i w hw => ?_⟩
  obtain ⟨x, y, hx, hy, rfl⟩ := zipW_at hw
  obtain ⟨v, hv, dv⟩ := d.get' hx
  obtain ⟨u, hu, du⟩ := d2.get' hy
  refine ⟨⟨vs, us, v, u, s1, s2.sq, hv, hu⟩, fun y H' hy => ?_⟩
  obtain ⟨T, x', y', rfl, hT, rfl, h1, h2⟩ := hy
  have := h1 vs s1
  rw [hv] at this; cases this
  have := h2 us s2.sq
  rw [hu] at this; cases this
  exact r.pair hT dv du
theorem i_zip (hg : Gl X "zip") (hm : X.mg "zip" = none) (ha : PA X [exa, exb] (tAs X.K N Γ kx [a, b])) (hs : starEach [exa, exb] X.env = (false, eval exa X.env) :: starEach [exb] X.env) (hpl : ∀ pos, (backTo pos (starEach [exb] X.env)).any (·.1) = false) :
    PI X (.Tuple elts kk tpos) (.Call (.Name "zip" p) [exa, exb] [] pos) (tI X.K N Γ kx (.zip a b)) := by
  refine ⟨fun pins s σ H Rr I h => (pi_zipC hg hm ha hs (hpl _)).run pins s σ H Rr I ?_⟩
  obtain ⟨G, e, tm, r, o⟩ := h
  unfold evIt at o
  refine ⟨G, e, tm, r, out_as2 (o.bind.mono fun o1 e1 p1 => p1.bind.mono fun o2 e2 p2 vs H1 G1 r1 q1 => ?_)⟩
  have hvs : ∃ v v2, vs = [v, v2] := by
    cases vs with
    | nil => cases o1 <;> exact q1.elim
    | cons v vs =>
      have q2 : OpsR σ [o2] vs := by cases o1 with | w x => exact q1 | r i => exact q1.2
      cases vs with
      | nil => cases o2 <;> exact q2.elim
      | cons v2 vs =>
        cases vs with
        | nil => exact ⟨v, v2, rfl⟩
        | cons _ _ => cases o2 with | w x => exact q2.elim | r i => exact q2.2.elim
  obtain ⟨v, v2, rfl⟩ := hvs
  split at p2
  · rename_i xs ys g1 g2
    obtain ⟨b1, b2⟩ := two_bv' r1 q1 g1 g2
    obtain ⟨a', us, rfl, s1, d⟩ := b1.list r1.sub
    obtain ⟨b', us2, rfl, s2, d2⟩ := b2.list r1.sub
    exact ⟨a', b', us, us2, rfl, .inl ⟨s1.sq, s2.sq, p2 _ [.ref a', .ref b'] H1 G1 r1 q1 (getAll2 g1 g2) wk_zipL⟩⟩
  · rename_i xs ys g1 g2
    obtain ⟨b1, b2⟩ := two_bv' r1 q1 g1 g2
    obtain ⟨a', us, rfl, s1, _, d⟩ := b1.tuple r1.sub
    obtain ⟨b', us2, rfl, s2, _, d2⟩ := b2.tuple r1.sub
    exact ⟨a', b', us, us2, rfl, .inr (.inl ⟨s1, s2, p2 _ [.ref a', .ref b'] H1 G1 r1 q1 (getAll2 g1 g2) wk_zipT⟩)⟩
  · rename_i xs ys g1 g2
    obtain ⟨b1, b2⟩ := two_bv' r1 q1 g1 g2
    obtain ⟨a', us, rfl, s1, d⟩ := b1.list r1.sub
    obtain ⟨b', us2, rfl, s2, _, d2⟩ := b2.tuple r1.sub
    exact ⟨a', b', us, us2, rfl, .inr (.inr ⟨false, s1.sq, s2, p2 _ [.ref a', .ref b'] H1 G1 r1 q1 (getAll2 g1 g2) wk_zipLT⟩)⟩
  · rename_i xs ys g1 g2
    obtain ⟨b1, b2⟩ := two_bv' r1 q1 g1 g2
    obtain ⟨a', us, rfl, s1, _, d⟩ := b1.tuple r1.sub
    obtain ⟨b', us2, rfl, s2, d2⟩ := b2.list r1.sub
    exact ⟨a', b', us, us2, rfl, .inr (.inr ⟨true, s1, s2.sq, p2 _ [.ref a', .ref b'] H1 G1 r1 q1 (getAll2 g1 g2) wk_zipTL⟩)⟩
  · exact p2.elim
end
end D

namespace D
open PySem L2 PyProof.Rows
/-! ## slots forgotten and got back -/
theorem wipe_get (σ : L2.St) : ∀ (vs : List Nat) (j : Nat), (wipe σ vs)[j]? = if j ∈ vs then (σ[j]?).map (fun _ => none) else σ[j]?
  | [], j => by simp [wipe]
  | v :: vs, j => by
    unfold wipe
    by_cases h : v = j
    · subst h
      rw [if_pos List.mem_cons_self]
      by_cases hl : v < σ.length
      · rw [List.getElem?_set_self (by rw [wipe_length]; exact hl), List.getElem?_eq_getElem hl]; rfl
      · rw [List.getElem?_eq_none (by rw [List.length_set, wipe_length]; omega), List.getElem?_eq_none (by omega)]; rfl
    · rw [List.getElem?_set_ne h, wipe_get σ vs j]
      have : (j ∈ v :: vs) ↔ j ∈ vs := by simp [Ne.symm h]
      by_cases q : j ∈ vs
      · rw [if_pos q, if_pos (this.mpr q)]
      · rw [if_neg q, if_neg (fun z => q (this.mp z))]
theorem wipeE_len (e : SEnv) : ∀ vs : List Nat, (wipeE e vs).length = e.length
  | [] => rfl
  | v :: vs => by unfold wipeE; rw [List.length_set, wipeE_len e vs]
theorem wipeE_get (e : SEnv) : ∀ (vs : List Nat) (j : Nat), (wipeE e vs)[j]? = if j ∈ vs then (e[j]?).map (fun _ => none) else e[j]?
  | [], j => by simp [wipeE]
  | v :: vs, j => by
    unfold wipeE
    by_cases h : v = j
    · subst h
      rw [if_pos List.mem_cons_self]
      by_cases hl : v < e.length
      · rw [List.getElem?_set_self (by rw [wipeE_len]; exact hl), List.getElem?_eq_getElem hl]; rfl
      · rw [List.getElem?_eq_none (by rw [List.length_set, wipeE_len]; omega), List.getElem?_eq_none (by omega)]; rfl
    · rw [List.getElem?_set_ne h, wipeE_get e vs j]
      have : (j ∈ v :: vs) ↔ j ∈ vs := by simp [Ne.symm h]
      by_cases q : j ∈ vs
      · rw [if_pos q, if_pos (this.mpr q)]
      · rw [if_neg q, if_neg (fun z => q (this.mp z))]
def keepV (old : SEnv) (j : Nat) : Option Slot := match old[j]? with | some (some (.val w)) => some (.val w) | _ => none
theorem backE_len (old e : SEnv) : ∀ vs : List Nat, (backE old e vs).length = e.length
  | [] => rfl
  | v :: vs => by unfold backE; rw [List.length_set, backE_len old e vs]
theorem backE_get (old e : SEnv) : ∀ (vs : List Nat) (j : Nat), (backE old e vs)[j]? = if j ∈ vs then (e[j]?).map (fun _ => keepV old j) else e[j]?
  | [], j => by simp [backE]
  | v :: vs, j => by
    unfold backE
    by_cases h : v = j
    · subst h
      rw [if_pos List.mem_cons_self]
      by_cases hl : v < e.length
      · rw [List.getElem?_set_self (by rw [backE_len]; exact hl), List.getElem?_eq_getElem hl]; rfl
      · rw [List.getElem?_eq_none (by rw [List.length_set, backE_len]; omega), List.getElem?_eq_none (by omega)]; rfl
    · rw [List.getElem?_set_ne h, backE_get old e vs j]
      have : (j ∈ v :: vs) ↔ j ∈ vs := by simp [Ne.symm h]
      by_cases q : j ∈ vs
      · rw [if_pos q, if_pos (this.mpr q)]
      · rw [if_neg q, if_neg (fun z => q (this.mp z))]
theorem st_ext {a b : L2.St} (h : ∀ j : Nat, a[j]? = b[j]?) : a = b := List.ext_getElem? h
theorem wipe_idem (σ : L2.St) (vs : List Nat) : wipe (wipe σ vs) vs = wipe σ vs := st_ext fun j => by
  rw [wipe_get, wipe_get]
  by_cases h : j ∈ vs
  · rw [if_pos h, if_pos h, Option.map_map]; rfl
  · rw [if_neg h, if_neg h]
theorem wipe_set {σ : L2.St} {vs : List Nat} {i : Nat} {x : Option V} (h : i ∈ vs) : wipe (σ.set i x) vs = wipe σ vs := st_ext fun j => by
  rw [wipe_get, wipe_get]
  by_cases hj : j ∈ vs
  · rw [if_pos hj, if_pos hj]
    by_cases q : i = j
    · subst q
      by_cases hl : i < σ.length
      · rw [List.getElem?_set_self hl, List.getElem?_eq_getElem hl]; rfl
      · rw [List.getElem?_eq_none (by rw [List.length_set]; omega), List.getElem?_eq_none (by omega)]
    · rw [List.getElem?_set_ne q]
  · rw [if_neg hj, if_neg hj, List.getElem?_set_ne (fun q => hj (by rw [← q]; exact h))]
section
variable {K : PySem.W.Frag} {N : En} {G H : Hp} {e : SEnv} {σ : L2.St} {tm : Tm}
theorem R.wipe (r : R K N G H e σ tm) (vs : List Nat) : R K N G H (wipeE e vs) (L2.wipe σ vs) tm := by
  have at_ : ∀ {j : Nat} {s : Slot}, (wipeE e vs)[j]? = some (some s) → j ∉ vs ∧ e[j]? = some (some s) := fun {j s} h => by
    rw [wipeE_get] at h
    by_cases hj : j ∈ vs
    · rw [if_pos hj] at h
      cases q : e[j]? with
      | none => rw [q] at h; cases h
      | some y => rw [q] at h; cases h
    · rw [if_neg hj] at h; exact ⟨hj, h⟩
  have sg : ∀ {j : Nat}, j ∉ vs → (L2.wipe σ vs)[j]? = σ[j]? := fun {j} h => by rw [wipe_get, if_neg h]
  have un : ∀ {j : Nat} {a : Addr}, OwnAt (wipeE e vs) (L2.wipe σ vs) j a → OwnAt e σ j a := fun {j a} ⟨io, xs, h1, h2⟩ => by
    obtain ⟨q1, q2⟩ := at_ h1
    rw [sg q1] at h2
    exact ⟨io, xs, q2, h2⟩
  refine ⟨r.sub, r.base, r.keep, r.iob, r.gnew, by rw [wipeE_len, wipe_length]; exact r.len, fun j s h => ?_, r.tmp, fun i j a o1 o2 => r.nd1 i j a (un o1) (un o2), fun i a o => r.nd2 i a (un o), r.nd3, fun j xs h => ?_, r.tmo⟩
  · obtain ⟨q1, q2⟩ := at_ h
    rw [sg q1]
    exact r.slot j s q2
  · obtain ⟨q1, q2⟩ := at_ h
    rw [sg q1]
    exact r.iop j xs q2
/-- a pending list grows -/
theorem R.grow {xs ys : List W} {D : Addr} {us : List V} (r : R K N G H e σ ((.own false xs, .ref D) :: tm)) (h : DvAll K G us ys) : R K N G (upd H D (.lst us)) e σ ((.own false ys, .ref D) :: tm) := by
  obtain ⟨a, vs, ea, q1, q2, q3, _, q4⟩ := r.tmp _ List.mem_cons_self
  cases ea
  have nd := List.pairwise_cons.mp r.nd3
  have ow : ∀ {s : Slot} {v : V}, SlotR K N G H s v → ownA (s, v) ≠ some D → SlotR K N G (upd H D (.lst us)) s v := fun {s v} h hn => by
    refine h.mono (Same.refl _) fun b z => ?_
    cases s with
    | val w => cases z
    | own jo zs =>
      obtain ⟨a', vs', rfl, z1, _⟩ := h
      cases z
      exact ⟨z1, upd_ne fun z => hn (by rw [z]; rfl)⟩
  refine ⟨fun b o hb => ?_, r.base, fun b o h0 hb => ?_, fun b hb => ?_, r.gnew, r.len, fun j s hj => ?_, fun p hp => ?_, r.nd1, fun i a o p hp => ?_, List.pairwise_cons.mpr ⟨fun p hp => nd.1 p hp, nd.2⟩, r.iop, fun p hp zs => ?_⟩
  · have : b ≠ D := fun z => by rw [z, q1] at hb; cases hb
    rw [upd_ne this]; exact r.sub _ _ hb
  · have : b ≠ D := fun z => by rw [z, q4 rfl] at h0; cases h0
    rw [upd_ne this]; exact r.keep b o h0 hb
  · by_cases hba : b = D
    · rw [hba, upd_same]; simp
    · rw [upd_ne hba]; exact r.iob b hb
  · obtain ⟨v, z1, z2⟩ := r.slot j s hj
    refine ⟨v, z1, ow z2 fun z => ?_⟩
    cases s with
    | val w => cases z
    | own jo zs =>
      cases v with
      | ref b => cases z; exact r.nd2 j D ⟨jo, zs, hj, z1⟩ _ List.mem_cons_self rfl
      | _ => cases z
  · rcases List.mem_cons.mp hp with rfl | hp
    · exact ⟨D, us, rfl, q1, upd_same, h, (fun z => by cases z), q4⟩
    · exact ow (r.tmp p (List.mem_cons_of_mem _ hp)) (nd.1 p hp D rfl)
  · rcases List.mem_cons.mp hp with rfl | hp
    · exact fun z => r.nd2 i a o (.own false xs, .ref D) List.mem_cons_self z
    · exact r.nd2 i a o p (List.mem_cons_of_mem _ hp)
  · rcases List.mem_cons.mp hp with rfl | hp
    · exact fun z => by cases z
    · exact r.tmo p (List.mem_cons_of_mem _ hp) zs
/-- the values of some names, as pending ones -/
def vtm (e : SEnv) (σ : L2.St) : List Nat → Tm
  | [] => []
  | j :: js => match e[j]?, σ[j]? with
    | some (some (.val w)), some (some v) => (.val w, v) :: vtm e σ js
    | _, _ => vtm e σ js
theorem R.vals (r : R K N G H e σ tm) : ∀ js : List Nat, R K N G H e σ (vtm e σ js ++ tm)
  | [] => r
  | j :: js => by
    have ih := R.vals r js
    unfold vtm
    split
    · rename_i w v h1 h2
      obtain ⟨u, q1, q2⟩ := r.slot j _ h1
      rw [h2] at q1; cases q1
      exact ih.push q2
    · exact ih
theorem vtm_mem {w : W} {v : V} : ∀ {js : List Nat} {j : Nat}, j ∈ js → e[j]? = some (some (.val w)) → σ[j]? = some (some v) → (.val w, v) ∈ vtm e σ js
  | k :: js, j, hm, h1, h2 => by
    unfold vtm
    rcases List.mem_cons.mp hm with rfl | hm
    · rw [h1, h2]; exact List.mem_cons_self
    · split
      · exact List.mem_cons_of_mem _ (vtm_mem hm h1 h2)
      · exact vtm_mem hm h1 h2
/-- back from a block -/
theorem R.back {e1 e2 : SEnv} {G1 H1 : Hp} {tm1 : Tm} {js : List Nat} (r1 : R K N G1 H1 e1 σ tm1) (r : R K N G H e2 (L2.wipe σ js) (vtm e1 σ js ++ tm)) : R K N G H (backE e1 e2 js) σ tm := by
  have lenE : e2.length = σ.length := by rw [r.len, wipe_length]
  have at_ : ∀ {j : Nat} {s : Slot}, (backE e1 e2 js)[j]? = some (some s) → (j ∉ js ∧ e2[j]? = some (some s)) ∨ (j ∈ js ∧ ∃ w, s = .val w ∧ e1[j]? = some (some (.val w))) := fun {j s} h => by
    rw [backE_get] at h
    by_cases hj : j ∈ js
    · rw [if_pos hj] at h
      cases q : e2[j]? with
      | none => rw [q] at h; cases h
      | some y =>
        rw [q] at h
        have h : some (keepV e1 j) = some (some s) := h
        have h := Option.some.inj h
        unfold keepV at h
        split at h
        · rename_i w hw
          cases h
          exact .inr ⟨hj, w, rfl, hw⟩
        · cases h
    · rw [if_neg hj] at h; exact .inl ⟨hj, h⟩
  have sg : ∀ {j : Nat}, j ∉ js → (L2.wipe σ js)[j]? = σ[j]? := fun {j} h => by rw [wipe_get, if_neg h]
  have un : ∀ {j : Nat} {a : Addr}, OwnAt (backE e1 e2 js) σ j a → OwnAt e2 (L2.wipe σ js) j a := fun {j a} ⟨io, xs, h1, h2⟩ => by
    rcases at_ h1 with ⟨q1, q2⟩ | ⟨q1, w, q2, _⟩
    · exact ⟨io, xs, q2, by rw [sg q1]; exact h2⟩
    · cases q2
  have rt := r.drop (List.sublist_append_right (vtm e1 σ js) tm)
  refine ⟨r.sub, r.base, r.keep, r.iob, r.gnew, by rw [backE_len, lenE], fun j s h => ?_, rt.tmp, fun i j a o1 o2 => r.nd1 i j a (un o1) (un o2), fun i a o => rt.nd2 i a (un o), rt.nd3, fun j xs h => ?_, rt.tmo⟩
  · rcases at_ h with ⟨q1, q2⟩ | ⟨q1, w, rfl, q2⟩
    · obtain ⟨v, z1, z2⟩ := r.slot j s q2
      rw [sg q1] at z1
      exact ⟨v, z1, z2⟩
    · obtain ⟨v, z1, _⟩ := r1.slot j _ q2
      exact ⟨v, z1, r.tmp _ (List.mem_append_left _ (vtm_mem q1 q2 z1))⟩
  · rcases at_ h with ⟨q1, q2⟩ | ⟨q1, w, q2, _⟩
    · obtain ⟨a, z1, z2⟩ := r.iop j xs q2
      rw [sg q1] at z2
      exact ⟨a, z1, z2⟩
    · cases q2
theorem ops_wipe {js : List Nat} : ∀ {os : List Opd} {vs : List V} {ws : List W}, OpsR σ os vs → getAll (wipeE e js) os = some ws → OpsR (L2.wipe σ js) os vs
  | [], [], _, _, _ => trivial
  | [], _ :: _, _, o, _ => o.elim
  | .w _ :: _, [], _, o, _ => o.elim
  | .r _ :: _, [], _, o, _ => o.elim
  | .w x :: os, v :: vs, ws, o, h => by
    unfold getAll at h
    split at h
    · rename_i y ys h1 h2
      exact ops_wipe (os := os) (vs := vs) o h2
    · cases h
  | .r i :: os, v :: vs, ws, o, h => by
    unfold getAll at h
    split at h
    · rename_i y ys h1 h2
      refine ⟨?_, ops_wipe (os := os) (vs := vs) o.2 h2⟩
      rw [wipe_get]
      have : i ∉ js := fun z => by
        unfold Opd.get at h1
        simp only at h1
        rw [wipeE_get, if_pos z] at h1
        cases q : e[i]? with
        | none => rw [q] at h1; cases h1
        | some y => rw [q] at h1; cases h1
      rw [if_neg this]
      exact o.1
    · cases h
/-! ### targets -/
def gMany : List Nat → TGs
  | [] => gNil
  | i :: is => gCons (gName i) (gMany is)
def tTg (K : PySem.W.Frag) : Tg → TG
  | .one i => gName i
  | .many is => gTup K is.length (gMany is)
def tgIx : Tg → List Nat
  | .one i => [i]
  | .many is => is
theorem many_ok {Q : L2.St → Hp → Prop} : ∀ {is : List Nat} {ws : List W} {us : List V} {e : SEnv} {σ : L2.St}, R K N G H e σ tm → DvAll K G us ws → is.length = ws.length → (∀ i ∈ is, i < e.length) →
    (∀ σ', R K N G H ((is.zip ws).foldl (fun e p => e.set p.1 (some (.val p.2))) e) σ' tm → (∀ vs, (∀ i ∈ is, i ∈ vs) → L2.wipe σ' vs = L2.wipe σ vs) → Q σ' H) → gMany is us σ H Q
  | [], [], [], e, σ, r, d, _, _, h => ⟨rfl, h σ r fun _ _ => rfl⟩
  | [], _ :: _, _, _, _, _, _, l, _, _ => by cases l
  | _ :: _, [], _, _, _, _, _, l, _, _ => by cases l
  | i :: is, w :: ws, us, e, σ, r, d, l, hi, h => by
    cases d with
    | cons dv d =>
      rename_i v us
      refine ⟨v, us, rfl, ?_⟩
      have r2 := (r.push dv).store (hi i List.mem_cons_self)
      refine many_ok (is := is) (ws := ws) r2 d (by simpa using l) (fun j hj => by rw [List.length_set]; exact hi j (List.mem_cons_of_mem _ hj)) fun σ' r' hw => ?_
      exact h σ' r' fun vs hv => (hw vs fun j hj => hv j (List.mem_cons_of_mem _ hj)).trans (wipe_set (hv i List.mem_cons_self))
theorem tg_ok {t : Tg} {w : W} {x : V} {e' : SEnv} {Q : L2.St → Hp → Prop} (r : R K N G H e σ ((.val w, x) :: tm)) (hs : setTg t w e = some e')
    (h : ∀ σ', R K N G H e' σ' tm → (∀ vs, (∀ i ∈ tgIx t, i ∈ vs) → L2.wipe σ' vs = L2.wipe σ vs) → Q σ' H) : tTg K t x σ H Q := by
  cases t with
  | one i =>
    have hs : (if i < e.length then some (e.set i (some (.val w))) else none) = some e' := hs
    split at hs
    · rename_i hi
      cases hs
      exact h _ (r.store hi) fun vs hv => wipe_set (hv i List.mem_cons_self)
    · cases hs
  | many is =>
    cases w with
    | tuple ws =>
      have hs : (if is.length = ws.length ∧ ∀ i ∈ is, i < e.length then some ((is.zip ws).foldl (fun e p => e.set p.1 (some (.val p.2))) e) else none) = some e' := hs
      split at hs
      · rename_i hi
        cases hs
        have d := r.tmp _ List.mem_cons_self
        cases d with
        | tup q d =>
          refine ⟨_, _, rfl, sqt_mono r.sub q, by rw [d.length, hi.1], ?_⟩
          exact many_ok r.tail d hi.1 hi.2 h
      · cases hs
    | _ => cases hs
end
/-! ## comprehensions -/
section
variable {X : Cx} {N : En} {Γ : Gam} {kx : KX} {tg iter elt : Expr} {ifs : List Expr} {scope : Scope} {own : List (Str × Nat)} {pos : Pos} {t : Tg} {it : It} {xe : E} {xi : List E}
def tIfs (K : PySem.W.Frag) (N : En) (Γ : Gam) (kx : KX) (xi : List E) : TT := fun σ H Q => ∃ G e tm, R K N G H e σ tm ∧ Out K N kx σ tm (evIfs Γ xi e) (fun b e' => ∀ H' G', R K N G' H' e' σ tm → Q b H')
theorem si_nil {Y : Cx} : PTs Y [] (tIfs Y.K N Γ kx []) := by
  refine ⟨fun pins s σ H Q I h => pts_nil.run pins s σ H Q I ?_⟩
  obtain ⟨G, e, tm, r, o⟩ := h
  unfold evIfs at o
  exact o H G r
theorem si_one {Y : Cx} {ex : Expr} {xa : E} (h : PT Y ex (tT Y.K N Γ kx xa)) : PTs Y [ex] (tIfs Y.K N Γ kx [xa]) := by
  refine ⟨fun pins s σ H Q I q => (pts_one h).run pins s σ H Q I ?_⟩
  obtain ⟨G, e, tm, r, o⟩ := q
  unfold evIfs at o
  exact ⟨G, e, tm, r, by unfold evT; exact o⟩
abbrev kxF : KX := fun _ _ _ _ => False
theorem out_F {K : PySem.W.Frag} {α : Type} {σ : L2.St} {tm : Tm} {r : Res α} {a : α} {e : SEnv} {p : α → SEnv → Prop} (h : r = .ok a e) (q : p a e) : Out K N kxF σ tm r p := by rw [h]; exact q
set_option maxHeartbeats 4000000 in
theorem s_lc (hc : X.calm = true) (hN : X.N.Nodup) (hi : PI X tg iter (tI X.K N Γ kx it)) (ok : BlkOk X.N X.env.scope scope own)
    (hg : ∀ (s : Shared) (H : Hp) (C : Addr) (cl : List (Str × Addr)) (fp : List Addr), PG (X.blk s H scope (compEnvC scope cl C X.env) fp) tg (tTg X.K t)) (ht : ∀ (s : Shared) (H : Hp) (C : Addr) (cl : List (Str × Addr)) (fp : List Addr), PTs (X.blk s H scope (compEnvC scope cl C X.env) fp) ifs (tIfs X.K N Γ kxF xi))
    (he : ∀ (s : Shared) (H : Hp) (C : Addr) (cl : List (Str × Addr)) (fp : List Addr), PE (X.blk s H scope (compEnvC scope cl C X.env) fp) elt (tE X.K N Γ kxF xe)) (hs : ∀ x, foldedSetIterable iter X.env x = pure x)
    (hix : ∀ i ∈ tgIx t, i ∈ own.map (·.2)) : PE X (.ListComp elt [⟨tg, iter, ifs, 0⟩] scope pos) (tE X.K N Γ kx (.lc xe t it xi (own.map (·.2)))) ∧
      ∀ {σ : L2.St} {H : Hp} {Q : VK}, tE X.K N Γ kx (.lc xe t it xi (own.map (·.2))) σ H Q → tLc (tI X.K N Γ kx it) (tTg X.K t) (tIfs X.K N Γ kxF xi) (tV X.K N Γ kxF xe) (own.map (·.2)) σ H Q := by
  generalize hjs : own.map (·.2) = js at hix
  have key : ∀ {σ : L2.St} {H : Hp} {Q : VK}, tE X.K N Γ kx (.lc xe t it xi js) σ H Q → tLc (tI X.K N Γ kx it) (tTg X.K t) (tIfs X.K N Γ kxF xi) (tV X.K N Γ kxF xe) js σ H Q := by
    intro σ H Q h
    obtain ⟨G, e, tm, r, o⟩ := h
    unfold evE at o
    refine ⟨G, e, tm, r, o.bind.mono fun p e1 p1 J vs H1 G1 r1 q1 g1 wk => ?_⟩
    intro D hD
    obtain ⟨os, ws, items⟩ := p
    simp only at p1 r1 q1 g1 wk
    split at p1
    · rename_i ys e2 hl
      -- the start of the block
      have r2 := ((r1.vals js).wipe js).newL hD (vs := []) (xs := []) .nil
      generalize hbody : (fun e => (evIfs Γ xi e).bind fun b e => if b = true then (evE Γ xe e).bind fun y e => Res.ok (some y.toW) e else Res.ok none e) = body at hl
      refine ⟨fun i m H' => m = items.length - i ∧ i ≤ items.length ∧ ∃ G' e' acc, R X.K N G' H' e' (L2.wipe σ js) ((.own false acc, .ref D) :: (vtm e1 σ js ++ (optm os vs ++ tm))) ∧ lcLoop body t js (watchOf os ws) (items.drop i) e' acc = .ok ys e2,
        ⟨items.length, by simp, Nat.zero_le _, G1, wipeE e1 js, [], r2, by rw [List.drop_zero]; exact hl⟩, ?_⟩
      rintro i m H' ⟨rfl, hile, G', e', acc, r', hl'⟩
      -- the list that is walked stands as it was
      have wat : ∀ {l : List W}, lcLoop body t js (watchOf os ws) l e' acc = .ok ys e2 → getAll e' os = some ws := fun {l} h => by
        cases l with
        | nil =>
          unfold lcLoop at h
          split at h
          · rename_i hw; exact hw
          · cases h
        | cons x l =>
          unfold lcLoop at h
          split at h
          · rename_i hw; exact hw
          · cases h
      have hw := wat hl'
      have q2 : OpsR (L2.wipe σ js) os vs := by
        have hw0 : getAll (wipeE e1 js) os = some ws := by
          cases hitems : items with
          | nil =>
            rw [hitems] at hl
            unfold lcLoop at hl
            split at hl
            · rename_i hw; exact hw
            · cases hl
          | cons x l =>
            rw [hitems] at hl
            unfold lcLoop at hl
            split at hl
            · rename_i hw; exact hw
            · cases hl
        exact ops_wipe q1 hw0
      have rp : R X.K N G' H' e' (L2.wipe σ js) (optm os vs ++ ((.own false acc, .ref D) :: (vtm e1 σ js ++ tm))) := by
        refine r'.perm ?_
        refine List.Perm.trans ?_ List.perm_middle.symm
        refine List.Perm.cons _ ?_
        rw [← List.append_assoc, ← List.append_assoc]
        exact List.Perm.append_right _ List.perm_append_comm
      obtain ⟨stop, go⟩ := wk G' H' e' (L2.wipe σ js) _ rp q2 hw
      by_cases hlt : i < items.length
      · right
        have hget : items[i]? = some items[i] := List.getElem?_eq_getElem hlt
        obtain ⟨g, yld⟩ := go i _ hget
        refine ⟨g, fun H2 => ∃ G2 e3 acc', R X.K N G2 H2 e3 (L2.wipe σ js) ((.own false acc', .ref D) :: (vtm e1 σ js ++ (optm os vs ++ tm))) ∧ lcLoop body t js (watchOf os ws) (items.drop (i + 1)) e3 acc' = .ok ys e2,
          fun H2 ⟨G2, e3, acc', r3, l3⟩ => ⟨items.length - (i + 1), by omega, rfl, hlt, G2, e3, acc', r3, l3⟩, fun x H2 hy => ?_⟩
        obtain ⟨G2, g2, r3⟩ := yld x H2 hy
        rw [List.drop_eq_getElem_cons hlt] at hl'
        unfold lcLoop at hl'
        rw [if_pos (show watchOf os ws e' from hw)] at hl'
        split at hl'
        · cases hl'
        · rename_i e3 hset
          refine tg_ok r3 hset fun σ' r4 hwp => ⟨?_, ?_⟩
          · rw [hwp js hix, wipe_idem]
          · -- the tests
            cases hb : body e3 with
            | bad => rw [hb] at hl'; cases hl'
            | exc c e4 => rw [hb] at hl'; cases hl'
            | ok ob e4 =>
              rw [hb] at hl'
              simp only [Res.bind] at hl'
              rw [← hbody] at hb
              simp only at hb
              cases hi2 : evIfs Γ xi e3 with
              | bad => rw [hi2] at hb; cases hb
              | exc c e5 => rw [hi2] at hb; cases hb
              | ok b e5 =>
                rw [hi2] at hb
                simp only [Res.bind] at hb
                refine ⟨G2, e3, _, r4, out_F hi2 fun H3 G3 r5 => ?_⟩
                cases b with
                | false =>
                  simp only [Bool.false_eq_true, if_false] at hb ⊢
                  cases hb
                  simp only at hl'
                  refine ⟨G3, _, acc, ?_, hl'⟩
                  have r6 := r5.wipe js
                  have e7 : L2.wipe σ' js = L2.wipe σ js := by rw [hwp js hix, wipe_idem]
                  rw [e7] at r6
                  refine r6.perm ?_
                  refine List.Perm.trans List.perm_middle (List.Perm.cons _ ?_)
                  rw [← List.append_assoc, ← List.append_assoc]
                  exact List.Perm.append_right _ List.perm_append_comm
                | true =>
                  simp only [if_true] at hb ⊢
                  cases hy2 : evE Γ xe e5 with
                  | bad => rw [hy2] at hb; cases hb
                  | exc c e6 => rw [hy2] at hb; cases hb
                  | ok y e6 =>
                    rw [hy2] at hb
                    simp only [Res.bind] at hb
                    cases hb
                    simp only at hl'
                    split at hl'
                    · rename_i hz
                      have hz := of_decide_eq_true hz
                      refine ⟨G3, e5, _, r5, out_F hy2 fun v H4 G4 r6 => ?_⟩
                      obtain ⟨a', us, ea, z1, z2, z3, _, z4⟩ := r6.tmp (.own false acc, .ref D) (List.mem_cons_of_mem _ (List.mem_append_right _ List.mem_cons_self))
                      cases ea
                      refine ⟨us, z2, by rw [z3.length]; exact hz, G4, _, acc ++ [y.toW], ?_, hl'⟩
                      have dv := r6.tmp _ List.mem_cons_self
                      have r7 : R X.K N G4 H4 e4 σ' ((.own false acc, .ref D) :: (vtm e1 σ js ++ (optm os vs ++ tm))) := by
                        refine r6.tail.perm ?_
                        refine List.Perm.trans List.perm_middle (List.Perm.cons _ ?_)
                        rw [← List.append_assoc, ← List.append_assoc]
                        exact List.Perm.append_right _ List.perm_append_comm
                      have r8 := r7.grow (us := us ++ [v]) (ys := acc ++ [y.toW]) (z3.append (.cons dv .nil))
                      have r9 := r8.wipe js
                      have e7 : L2.wipe σ' js = L2.wipe σ js := by rw [hwp js hix, wipe_idem]
                      rw [e7] at r9
                      exact r9
                    · cases hl'
      · left
        have hieq : i = items.length := by omega
        subst hieq
        refine ⟨stop, ?_⟩
        rw [List.drop_length] at hl'
        unfold lcLoop at hl'
        rw [if_pos (show watchOf os ws e' from hw)] at hl'
        cases hl'
        refine p1 (.ref D) H' G' ?_
        refine R.back (tm1 := _) r1 (js := js) ?_
        exact (r'.drop ((List.Sublist.append_left (List.sublist_append_right _ _) _).cons₂ _)).perm List.perm_middle.symm
    · exact p1.elim
  subst hjs
  exact ⟨⟨fun pins s σ H Q I h => (pe_lc hc hN hi ok hg ht (fun s H C cl fp => toV (he s H C cl fp)) hs).run pins s σ H Q I (key h)⟩, key⟩
end
end D

namespace D
open PySem L2 PyProof.Rows
def freeNames : List String := bltNames ++ typNames ++ ["isinstance", "range", "enumerate", "zip", "set"]
/-- what is known where an expression stands -/
structure Hy (cf : Cf) (sc : Scope) (Γ : Gam) (k : Nat) (ca : Str → Addr) (kx : KX) (X : Cx) : Prop where
  N : X.N = cf.N
  nd : cf.N.Nodup
  sc : X.env.scope = sc
  calm : X.calm = true
  room : Room k X.A
  bl : ∀ t ∈ freeNames, X.mg ((t : String) : Str) = none
  gl : ∀ x w, cf.gl.lookup x = some w → ∃ u v, X.mg x = some u ∧ RelV v u ∧ ∀ G, Dv X.K G v w
  fs : ∀ f io, cf.fs.lookup f = some io → ∃ fa fd ps, X.mg f = some (.ref fa) ∧ PySem.W.keepIn X.K (.ref fa) = true ∧ Binds X.K fd ps [] ∧
    FnOk X.prog X.w X.K X.mg X.base (L2.CX X.prog X.w) k fa fd ps (spD X.K (Γ.call f) ps.length ca) ∧ ∀ ss, ss.length ≠ ps.length → Γ.call f ss = .bad
  wish : Takes X (wxOf ca kx)
  aa : ∀ f c, cf.aa.lookup f = some c → Cls X.K (He.ga X.K c) ∧ NoAttr X.K (He.ga X.K c) f
  ms : ∀ m c, cf.ms.lookup m = some c → Cls X.K (He.ga X.K c) ∧ ∃ fa fd ps, Meth X.K (He.ga X.K c) m fa ∧ Binds X.K fd ps [] ∧
    FnOk X.prog X.w X.K X.mg X.base (L2.CX X.prog X.w) k fa fd ps (spD X.K (Γ.call (methN c m)) ps.length ca) ∧ ∀ ss, ss.length ≠ ps.length → Γ.call (methN c m) ss = .bad
  cs : ∀ c, cf.cs.contains c = true → ∃ fa fd ps j, k = j + 1 ∧ Mk X.K (He.ga X.K c) fa ∧ FnOk X.prog X.w X.K X.mg X.base (L2.CX X.prog X.w) j fa fd ps (spI X.K (Γ.call c) c ps.length) ∧
    (∀ ss, ss.length + 1 ≠ ps.length → Γ.call c ss = .bad) ∧ X.mg c = some (.ref (He.ga X.K c)) ∧ Binds X.K fd ps []
section
variable {Γ : Gam} {N : En} {ca : Str → Addr} {k : Nat} {cf : Cf} {sc : Scope} {kx : KX} {X : Cx}
theorem vis_of {x : Str} (h : visB sc x = true) : Vis sc x := by
  unfold visB at h
  split at h <;> first
    | (rename_i q; exact .inl q)
    | (rename_i q; exact .inr (.inl q))
    | (rename_i q; exact .inr (.inr q))
    | cases h
theorem loc_of {x : Str} (h : locB sc x = true) : Loc sc x := by
  unfold locB at h
  split at h <;> first
    | (rename_i q; exact .inl q)
    | (rename_i q; exact .inr q)
    | cases h
theorem Hy.glo (hy : Hy cf sc Γ k ca kx X) {x : Str} (h : gloB sc x = true) : Gl X x := by
  unfold gloB at h
  show X.env.scope.names.lookup x = _
  rw [hy.sc]
  simpa using h
theorem slot_at {x : Str} {i : Nat} (h : slotOf cf x = some i) : cf.N[i]? = some x := by
  unfold slotOf at h
  rw [List.findIdx?_eq_some_iff_getElem] at h
  obtain ⟨hi, h1, _⟩ := h
  rw [List.getElem?_eq_getElem hi]
  simpa using h1
theorem names_ok {x : Str} (h : okName x = true) : (x == ("__debug__" : Str)) = false ∧ (x == ("__classdict__" : Str)) = false ∧ x ≠ "__name__" := by
  unfold okName at h
  simp only [Bool.and_eq_true, Bool.not_eq_true'] at h
  exact ⟨h.1.1, h.1.2, by simpa using h.2⟩
theorem ref_name {ex : Expr} {i : Nat} (h : refOf cf sc ex = some i) : ∃ x p, ex = .Name x p ∧ visB sc x = true ∧ okName x = true ∧ slotOf cf x = some i := by
  unfold refOf at h
  split at h
  · rename_i x p
    split at h
    · rename_i hv
      simp only [Bool.and_eq_true] at hv
      split at h
      · rename_i j hj
        split at h
        · cases h; exact ⟨x, p, rfl, hv.1, hv.2, hj⟩
        · cases h
      · cases h
    · cases h
  · cases h
theorem nm_name {ex : Expr} {i : Nat} (h : nmOf cf sc ex = some i) : ∃ x p, ex = .Name x p ∧ visB sc x = true ∧ okName x = true ∧ slotOf cf x = some i := by
  cases ex with
  | Name x p =>
    have h : (if visB sc x && okName x then slotOf cf x else none) = some i := h
    split at h
    · rename_i hb
      simp only [Bool.and_eq_true] at hb
      exact ⟨x, p, rfl, hb.1, hb.2, h⟩
    · cases h
  | _ => cases h
theorem Hy.ref (hy : Hy cf sc Γ k ca kx X) {ex : Expr} {i : Nat} (h : refOf cf sc ex = some i) : PE X ex (tO X.K N Γ kx (.r i)) := by
  obtain ⟨x, p, rfl, h1, h2, h3⟩ := ref_name h
  obtain ⟨a, b, _⟩ := names_ok h2
  exact s_ref (by rw [hy.N]; exact slot_at h3) (by rw [hy.sc]; exact vis_of h1) a b
theorem star_cE {n : Nat} {ex : Expr} {x : E} (h : cE n cf sc ex = some x) (es : List Expr) (env : Env) : starEach (ex :: es) env = (false, eval ex env) :: starEach es env := by
  cases n with
  | zero => cases h
  | succ n => cases ex <;> first | rfl | cases h
theorem star_ref {ex : Expr} {i : Nat} (h : refOf cf sc ex = some i) (es : List Expr) (env : Env) : starEach (ex :: es) env = (false, eval ex env) :: starEach es env := by
  obtain ⟨x, p, rfl, _⟩ := ref_name h
  rfl
/-- an operand's reading -/
def cA1 (n : Nat) (cf : Cf) (sc : Scope) (a : Expr) : Option A := match refOf cf sc a with
  | some i => some (.r i)
  | none => (cE n cf sc a).map .v
theorem star_cA {n : Nat} {ex : Expr} {x : A} (h : cA1 n cf sc ex = some x) (es : List Expr) (env : Env) : starEach (ex :: es) env = (false, eval ex env) :: starEach es env := by
  unfold cA1 at h
  split at h
  · rename_i i hi; exact star_ref hi es env
  · obtain ⟨y, hy, _⟩ := Option.map_eq_some_iff.mp h
    exact star_cE hy es env
def IH (Γ : Gam) (N : En) (ca : Str → Addr) (k n : Nat) : Prop := ∀ cf sc ex x, cE n cf sc ex = some x → ∀ X kx, Hy cf sc Γ k ca kx X → PE X ex (tE X.K N Γ kx x) ∧ (isIf ex = false → PT X ex (tT X.K N Γ kx x)) ∧ (∀ op es p, ex = .BoolOp op es p → PW X ex (tT X.K N Γ kx x))
theorem IH.a {n : Nat} (ih : IH Γ N ca k n) {ex : Expr} {x : A} (h : cA1 n cf sc ex = some x) (hy : Hy cf sc Γ k ca kx X) : PE X ex (tO X.K N Γ kx x) := by
  unfold cA1 at h
  split at h
  · rename_i i hi
    cases h
    exact hy.ref hi
  · obtain ⟨y, hy', rfl⟩ := Option.map_eq_some_iff.mp h
    exact s_v (ih cf sc ex y hy' X kx hy).1
theorem mapO_cons {α β : Type} {f : α → Option β} {a : α} {r : List α} {bs : List β} (h : mapO f (a :: r) = some bs) : ∃ b bs', f a = some b ∧ mapO f r = some bs' ∧ bs = b :: bs' := by
  unfold mapO at h
  split at h
  · rename_i b bs' h1 h2
    cases h
    exact ⟨b, bs', h1, h2, rfl⟩
  · cases h
theorem IH.es {n : Nat} (ih : IH Γ N ca k n) (hy : Hy cf sc Γ k ca kx X) : ∀ {es : List Expr} {xs : List E}, mapO (cE n cf sc) es = some xs → PA X es (tEs X.K N Γ kx xs)
  | [], xs, h => by cases h; exact se_nil
  | ex :: es, xs, h => by
    obtain ⟨x, xs', h1, h2, rfl⟩ := mapO_cons h
    exact se_cons (ih cf sc ex x h1 X kx hy).1 (IH.es ih hy h2) (star_cE h1 es X.env)
theorem IH.as {n : Nat} (ih : IH Γ N ca k n) (hy : Hy cf sc Γ k ca kx X) : ∀ {es : List Expr} {xs : List A}, mapO (cA1 n cf sc) es = some xs → PA X es (tAs X.K N Γ kx xs)
  | [], xs, h => by cases h; exact sa_nil
  | ex :: es, xs, h => by
    obtain ⟨x, xs', h1, h2, rfl⟩ := mapO_cons h
    exact sa_cons (ih.a h1 hy) (IH.as ih hy h2) (star_cA h1 es X.env)
/-- no star among what compiles -/
theorem nostar {f : Expr → Option A} {env : Env} (hf : ∀ ex x, f ex = some x → ∀ es, starEach (ex :: es) env = (false, eval ex env) :: starEach es env) : ∀ {es : List Expr} {xs : List A}, mapO f es = some xs → ∀ pos, (backTo pos (starEach es env)).any (·.1) = false
  | [], xs, _, pos => rfl
  | ex :: es, xs, h, pos => by
    obtain ⟨x, xs', h1, h2, rfl⟩ := mapO_cons h
    rw [hf ex x h1 es]
    show (false || (backTo pos (starEach es env)).any (·.1)) = false
    rw [nostar hf h2 pos]
    rfl
theorem plain_ix {n : Nat} {ex : Expr} {x : E} (h : cE n cf sc ex = some x) : PlainIx ex := by
  intro o i
  cases n with
  | zero => cases h
  | succ n => cases ex <;> first | rfl | cases h
theorem fold_it {iter : Expr} {env : Env} (h : ∀ a b c, iter ≠ .Set a b c) (x : Value) : foldedSetIterable iter env x = pure x := by
  cases iter <;> first | rfl | exact absurd rfl (h _ _ _)
/-- tests that are values -/
def isV : Expr → Bool
  | .UnaryOp .Not _ _ => false
  | .BoolOp .. => false
  | .IfExp .. => false
  | .Compare .. => false
  | _ => true
theorem test_plain {ex : Expr} {env : Env} (h : isV ex = true) (whole : Sem Value) : isTrue ex env whole = (do let v ← whole; standAt ex.pos; holding [v] (truthy v)) := by
  cases ex with
  | UnaryOp op a p => cases op <;> first | rfl | cases h
  | BoolOp => cases h
  | IfExp => cases h
  | Compare => cases h
  | _ => rfl
end
end D

namespace D
open PySem L2 PyProof.Rows
def cO1 (n : Nat) (cf : Cf) (sc : Scope) (a : Option Expr) : Option (Option E) := match a with
  | none => some none
  | some a => (cE n cf sc a).map some
def cItG (cA : Expr → Option A) (n : Nat) (cf : Cf) (sc : Scope) (tg iter : Expr) : Option It := match iter with
  | .Call (.Name f _) args [] _ =>
    if gloB sc f && f == ("range" : Str) then (if args.length == 1 || args.length == 2 then (mapO (cE n cf sc) args).map .rng else none)
    else match tg, args with
      | .Tuple .., [a] => if gloB sc f && f == ("enumerate" : Str) then (cA a).map .enum else (cA iter).map .seq
      | .Tuple .., [a, b] => if gloB sc f && f == ("zip" : Str) then (match cA a, cA b with | some a, some b => some (.zip a b) | _, _ => none) else (cA iter).map .seq
      | _, _ => (cA iter).map .seq
  | .Set .. => none
  | _ => (cA iter).map .seq
def cIt1 (n : Nat) (cf : Cf) (sc : Scope) (tg iter : Expr) : Option It := cItG (cA1 n cf sc) n cf sc tg iter
section
variable {n : Nat} {cf : Cf} {sc : Scope}
theorem cE_bin {a b op p} : cE (n+1) cf sc (.BinOp a op b p) = match cA1 n cf sc a, cA1 n cf sc b with | some a, some b => some (.bin op a b) | _, _ => none := rfl
theorem cE_cmp {a b op p} : cE (n+1) cf sc (.Compare a [op] [b] p) = if behindInMarks op b then none else match cA1 n cf sc a, cA1 n cf sc b with | some a, some b => some (.cmp op a b) | _, _ => none := rfl
theorem cE_sli {a lo hi p p2} : cE (n+1) cf sc (.Subscript a (.Slice lo hi none p) p2) = match cA1 n cf sc a, cO1 n cf sc lo, cO1 n cf sc hi with | some a, some lo, some hi => some (.sli a lo hi) | _, _, _ => none := rfl
theorem cE_rev {a lo p j p1 p2 p3} : cE (n+1) cf sc (.Subscript a (.Slice lo none (some (.UnaryOp .USub (.Constant (.int 1) j p1) p2)) p) p3) = match cA1 n cf sc a, cK lo with | some a, some k => some (.rev a k) | _, _ => none := rfl
theorem cE_st {a lo hi st p p3 x} (h : cE (n+1) cf sc (.Subscript a (.Slice lo hi (some st) p) p3) = some x) : ∃ j p1 p4, st = .UnaryOp .USub (.Constant (.int 1) j p1) p4 ∧ hi = none := by
  cases st with
  | UnaryOp op e p4 =>
    cases op with
    | USub =>
      cases e with
      | Constant c j p1 =>
        cases c with
        | int i =>
          match i, h with
          | .ofNat 0, h => cases hi <;> cases h
          | .ofNat 1, h =>
            cases hi with
            | none => exact ⟨_, _, _, rfl, rfl⟩
            | some hi => cases h
          | .ofNat (m + 2), h => cases hi <;> cases h
          | .negSucc m, h => cases hi <;> cases h
        | _ => cases hi <;> cases h
      | _ => cases hi <;> cases h
    | _ => cases hi <;> cases h
  | _ => cases hi <;> cases h
theorem cE_idx {a i p} (h : isSlice i = false) : cE (n+1) cf sc (.Subscript a i p) = match cA1 n cf sc a, cE n cf sc i with | some a, some i => some (.idx a i) | _, _ => none := by
  cases i <;> first | rfl | cases h
theorem cE_call {f p args p2} : cE (n+1) cf sc (.Call (.Name f p) args [] p2) =
  (if !(gloB sc f && okName f) then none
      else if f == ("len" : Str) && (setArg sc args).isSome then (setArg sc args).bind fun a => (cE n cf sc a).map .lset
      else if f == ("isinstance" : Str) then match args with
        | [a, .Name T _] => match typNames.find? (fun (t : String) => (t : Str) == T) with
          | some t => if gloB sc T then (cA1 n cf sc a).map fun a => .isi a t else none
          | none => none
        | _ => none
      else match bltNames.find? (fun (t : String) => (t : Str) == f) with
        | some t => if args.isEmpty then none else (mapO (cA1 n cf sc) args).map (.blt t)
        | none => match cf.fs.lookup f with
          | some io => if args.isEmpty then none else
            (mapO (fun (p : Nat × Expr) => if io.contains p.1 then (refOf cf sc p.2).map A.r else (cE n cf sc p.2).map A.v) ((List.range args.length).zip args)).map (.call f)
          | none => if !cf.cs.contains f then none else if args.isEmpty then none else (mapO (cA1 n cf sc) args).map (.new f)) := rfl
theorem cE_att {o f ap} : cE (n+1) cf sc (.Attribute o f ap) = match nmOf cf sc o, cf.aa.lookup f with
      | some i, some c => some (.att (.var i) c f)
      | _, _ => none := rfl
theorem cE_mth {o m ap args cp} : cE (n+1) cf sc (.Call (.Attribute o m ap) args [] cp) = (if ap.endLine == cp.line then match refOf cf sc o with
      | some i =>
        if m == ("append" : Str) then match args with
          | [a] => (cE n cf sc a).map (.app i)
          | _ => none
        else if m == ("extend" : Str) then match args with
          | [a] => (cA1 n cf sc a).map (.ext i)
          | _ => none
        else if m == ("pop" : Str) then match args with
          | [] => some (.pop i none)
          | [a] => (cE n cf sc a).map fun k => .pop i (some k)
          | _ => none
        else none
      | none => if m == ("index" : Str) then match nmOf cf sc o, args with
          | some i, [a] => (cE n cf sc a).map (.lix i)
          | _, _ => none
        else match nmOf cf sc o, cf.ms.lookup m with
          | some i, some c => if args.isEmpty || decide (20 < args.length) then none else (mapO (cA1 n cf sc) args).map (.mth c m (.v (.var i)))
          | _, _ => none
      else none) := rfl
theorem cE_lc {elt gens scope p} : cE (n+1) cf sc (.ListComp elt gens scope p) = match gens with
      | [g] => if g.is_async == 0 then match ownOf cf g.target, cIt1 n cf sc g.target g.iter with
        | some own, some it => if blkOkB cf.N sc scope own && !g.ifs.any isIf then match cTg cf scope g.target, cE n cf (relSc scope sc) elt, mapO (cE n cf (relSc scope sc)) g.ifs with
            | some t, some y, some fs => if fs.length ≤ 1 then some (.lc y t it fs (own.map (·.2))) else none
            | _, _, _ => none
          else none
        | _, _ => none
        else none
      | _ => none := rfl
end
theorem blt_boot : ∀ t ∈ bltNames, ∃ c, bltV t = some c ∧ bootBuiltins ((t : String) : Str) = some c := by
  intro t ht
  simp only [bltNames, List.mem_cons, List.not_mem_nil, or_false] at ht
  rcases ht with rfl | rfl | rfl | rfl | rfl | rfl | rfl | rfl | rfl <;> exact ⟨_, rfl, by decide +kernel⟩
theorem typ_boot : ∀ t ∈ typNames, bootBuiltins ((t : String) : Str) = some (.type t) := by
  intro t ht
  simp only [typNames, List.mem_cons, List.not_mem_nil, or_false] at ht
  rcases ht with rfl | rfl | rfl | rfl | rfl <;> decide +kernel
end D

namespace D
open PySem L2 PyProof.Rows
section
variable {Γ : Gam} {N : En} {ca : Str → Addr} {k : Nat} {cf : Cf} {sc : Scope} {kx : KX} {X : Cx} {n : Nat}
theorem Hy.units (hy : Hy cf sc Γ k ca kx X) : X.A.units + 65 < cLine := by have := hy.room.un; omega
theorem mapO_len {α β : Type} {f : α → Option β} : ∀ {as : List α} {bs : List β}, mapO f as = some bs → bs.length = as.length
  | [], bs, h => by cases h; rfl
  | a :: as, bs, h => by
    obtain ⟨b, bs', _, h2, rfl⟩ := mapO_cons h
    simp [mapO_len h2]
theorem IH.o (ih : IH Γ N ca k n) {a : Option Expr} {x : Option E} (h : cO1 n cf sc a = some x) (hy : Hy cf sc Γ k ca kx X) : PO X a (tOp' X.K N Γ kx x) := by
  cases a with
  | none => cases h; exact so_none
  | some a =>
    obtain ⟨y, h1, rfl⟩ := Option.map_eq_some_iff.mp h
    exact so_some (ih cf sc a y h1 X kx hy).1
theorem nostarE {env : Env} : ∀ {es : List Expr} {xs : List E}, mapO (cE n cf sc) es = some xs → ∀ pos, (backTo pos (starEach es env)).any (·.1) = false
  | [], xs, _, pos => rfl
  | ex :: es, xs, h, pos => by
    obtain ⟨x, xs', h1, h2, rfl⟩ := mapO_cons h
    rw [star_cE h1 es]
    show (false || (backTo pos (starEach es env)).any (·.1)) = false
    rw [nostarE h2 pos]
    rfl
/-- what is walked -/
theorem IH.itG (ih : IH Γ N ca k n) {cA : Expr → Option A} {tg iter : Expr} {it : It} (h : cItG cA n cf sc tg iter = some it) (hy : Hy cf sc Γ k ca kx X) (hA : ∀ a x, cA a = some x → PE X a (tO X.K N Γ kx x) ∧ ∀ es, starEach (a :: es) X.env = (false, eval a X.env) :: starEach es X.env) : PI X tg iter (tI X.K N Γ kx it) := by
  have seq : ∀ {it}, (cA iter).map It.seq = some it → PI X tg iter (tI X.K N Γ kx it) := fun {it} h => by
    obtain ⟨a, h1, rfl⟩ := Option.map_eq_some_iff.mp h
    exact i_seq (hA _ _ h1).1
  have fr : ∀ t ∈ freeNames, X.mg ((t : String) : Str) = none := hy.bl
  unfold cItG at h
  split at h
  · rename_i f p args p2
    split at h
    · rename_i hf
      simp only [Bool.and_eq_true, beq_iff_eq] at hf
      obtain ⟨hg, rfl⟩ := hf
      have hg := hy.glo hg
      have hm := fr "range" (by decide)
      split at h
      · obtain ⟨xs, h1, rfl⟩ := Option.map_eq_some_iff.mp h
        rename_i hl
        match args, xs, h1, hl with
        | [], _, _, hl => cases hl
        | [a], xs, h1, _ =>
          obtain ⟨x, xs', q1, q2, rfl⟩ := mapO_cons h1
          cases q2
          exact i_rng1 hg hm (ih.es hy h1) (star_cE q1 [] X.env)
        | [a, b], xs, h1, _ =>
          obtain ⟨x, xs', q1, q2, rfl⟩ := mapO_cons h1
          obtain ⟨y, xs', q3, q4, rfl⟩ := mapO_cons q2
          cases q4
          exact i_rng2 hg hm (ih.es hy h1) ((star_cE q1 [b] X.env).trans (by rw [star_cE q3 [] X.env]; rfl)) (star_cE q3 [] X.env)
        | _ :: _ :: _ :: _, _, _, hl => simp at hl
      · cases h
    · split at h
      · split at h
        · rename_i hf
          simp only [Bool.and_eq_true, beq_iff_eq] at hf
          obtain ⟨hg, rfl⟩ := hf
          obtain ⟨a, h1, rfl⟩ := Option.map_eq_some_iff.mp h
          exact i_enum (hy.glo hg) (fr "enumerate" (by decide)) (sa_cons (hA _ _ h1).1 sa_nil ((hA _ _ h1).2 [])) ((hA _ _ h1).2 [])
        · exact seq h
      · split at h
        · rename_i hf
          simp only [Bool.and_eq_true, beq_iff_eq] at hf
          obtain ⟨hg, rfl⟩ := hf
          split at h
          · rename_i a b h1 h2
            cases h
            exact i_zip (hy.glo hg) (fr "zip" (by decide)) (sa_cons (hA _ _ h1).1 (sa_cons (hA _ _ h2).1 sa_nil ((hA _ _ h2).2 [])) ((hA _ _ h1).2 _)) ((hA _ _ h1).2 _)
              fun pos => by rw [(hA _ _ h2).2 []]; rfl
          · cases h
        · exact seq h
      · exact seq h
  · cases h
  · exact seq h
theorem IH.it (ih : IH Γ N ca k n) {tg iter : Expr} {it : It} (h : cIt1 n cf sc tg iter = some it) (hy : Hy cf sc Γ k ca kx X) : PI X tg iter (tI X.K N Γ kx it) :=
  ih.itG h hy fun a x h => ⟨ih.a h hy, fun es => star_cA h es X.env⟩
theorem IH.itV (ih : IH Γ N ca k n) {tg iter : Expr} {it : It} (h : cItG (fun a => (cE n cf sc a).map .v) n cf sc tg iter = some it) (hy : Hy cf sc Γ k ca kx X) : PI X tg iter (tI X.K N Γ kx it) :=
  ih.itG h hy fun a x h => by
    obtain ⟨y, h1, rfl⟩ := Option.map_eq_some_iff.mp h
    exact ⟨s_v (ih cf sc a y h1 X kx hy).1, fun es => star_cE h1 es X.env⟩
theorem cItG_noset {cA : Expr → Option A} {tg iter : Expr} {it : It} (h : cItG cA n cf sc tg iter = some it) : ∀ a b c, iter ≠ .Set a b c := by
  rintro a b c rfl
  cases h
theorem cIt_noset {tg iter : Expr} {it : It} (h : cIt1 n cf sc tg iter = some it) : ∀ a b c, iter ≠ .Set a b c := by
  rintro a b c rfl
  cases h
/-- targets -/
theorem tg_slot {l : List Expr} {is : List Nat} (h : mapO (fun e => match e with | .Name x _ => if locB sc x then slotOf cf x else none | _ => none) l = some is) (hN : X.N = cf.N) (nd : cf.N.Nodup)
    (hl : ∀ x, locB sc x = true → Loc X.env.scope x ∧ (X.fn x = true ∨ X.env.scope.names.lookup x = some .local)) : PGs X l (gMany is) ∧ (assignEach l X.env).length = is.length ∧ (assignEach l X.env).findIdx? (·.1) = none := by
  induction l generalizing is with
  | nil => cases h; exact ⟨pgs_nil, rfl, rfl⟩
  | cons e l ih =>
    obtain ⟨i, is', h1, h2, rfl⟩ := mapO_cons h
    obtain ⟨q1, q2, q3⟩ := ih h2
    cases e with
    | Name x p =>
      simp only at h1
      split at h1
      · rename_i hx
        obtain ⟨l1, l2⟩ := hl x hx
        refine ⟨pgs_cons (pg_name (by rw [hN]; exact nd) (by rw [hN]; exact slot_at h1) l1 l2) q1 rfl, ?_, ?_⟩
        · show (assignEach l X.env).length + 1 = is'.length + 1
          rw [q2]
        · show List.findIdx? (·.1) ((false, assign (.Name x p) X.env) :: assignEach l X.env) = none
          rw [List.findIdx?_cons]
          simp [q3]
      · cases h1
    | _ => cases h1
theorem tg_pg {tg : Expr} {t : Tg} (h : cTg cf sc tg = some t) (hN : X.N = cf.N) (nd : cf.N.Nodup) (hc : X.calm = true)
    (hl : ∀ x, locB sc x = true → Loc X.env.scope x ∧ (X.fn x = true ∨ X.env.scope.names.lookup x = some .local)) : PG X tg (tTg X.K t) := by
  unfold cTg at h
  split at h
  · rename_i x p
    split at h
    · rename_i hx
      obtain ⟨i, h1, rfl⟩ := Option.map_eq_some_iff.mp h
      obtain ⟨l1, l2⟩ := hl x hx
      exact pg_name (by rw [hN]; exact nd) (by rw [hN]; exact slot_at h1) l1 l2
    · cases h
  · rename_i es kk p
    obtain ⟨is, h1, h2⟩ := Option.bind_eq_some_iff.mp h
    split at h2
    · cases h2
      obtain ⟨q1, q2, q3⟩ := tg_slot (X := X) h1 hN nd hl
      exact pg_tup hc q1 q2 q3
    · cases h2
  · cases h
theorem own_ix {tg : Expr} {t : Tg} {sc' : Scope} {own : List (Str × Nat)} (h : cTg cf sc' tg = some t) (ho : ownOf cf tg = some own) : ∀ i ∈ tgIx t, i ∈ own.map (·.2) := by
  unfold cTg at h
  unfold ownOf at ho
  obtain ⟨xs, h1, h2⟩ := Option.bind_eq_some_iff.mp ho
  split at h
  · rename_i x p
    cases h1
    obtain ⟨b, bs, q1, q2, rfl⟩ := mapO_cons h2
    cases q2
    split at h
    · obtain ⟨i, q3, rfl⟩ := Option.map_eq_some_iff.mp h
      rw [q3] at q1
      cases q1
      intro j hj
      simpa [tgIx] using hj
    · cases h
  · rename_i es kk p
    obtain ⟨is, h3, h4⟩ := Option.bind_eq_some_iff.mp h
    split at h4
    · cases h4
      clear h ho
      replace h1 : mapO (fun e => match e with | .Name x _ => some x | _ => none) es = some xs := h1
      show ∀ i ∈ is, i ∈ own.map (·.2)
      rename_i hnd
      clear hnd
      induction es generalizing is xs own with
      | nil => cases h3; simp
      | cons e es ih =>
        obtain ⟨i, is', q1, q2, rfl⟩ := mapO_cons h3
        obtain ⟨x, xs', q3, q4, rfl⟩ := mapO_cons h1
        obtain ⟨b, bs, q5, q6, rfl⟩ := mapO_cons h2
        cases e with
        | Name y p2 =>
          cases q3
          simp only at q1
          split at q1
          · rw [q1] at q5
            cases q5
            intro j hj
            rcases List.mem_cons.mp hj with rfl | hj
            · simp
            · exact List.mem_cons_of_mem _ (by apply ih <;> assumption)
          · cases q1
        | _ => cases q3
    · cases h4
  · cases h
theorem blk_ok {N : List Str} {sc scope : Scope} {own : List (Str × Nat)} (h : blkOkB N sc scope own = true) : BlkOk N sc scope own := by
  unfold blkOkB at h
  simp only [Bool.and_eq_true, List.all_eq_true, Bool.or_eq_true, Bool.not_eq_true', beq_iff_eq, beq_eq_false_iff_ne, List.contains_iff_mem, decide_eq_true_eq, Bool.or_eq_false_iff] at h
  obtain ⟨⟨⟨⟨h1, h2⟩, h3⟩, h4⟩, h5⟩ := h
  refine ⟨by simpa using h1, fun y hy => by simpa using h2 y hy, fun p hp => by simpa using h3 p hp, fun y hy hf => ?_, fun y hy hf => ?_⟩
  · rcases h4 y hy with q | q
    · exact absurd hf (by simpa using q)
    · simpa using q
  · rcases h5 y hy with q | q
    · rcases hf with hf | hf
      · exact absurd hf (by simpa using q.1)
      · exact absurd hf (by simpa using q.2)
    · rcases q with q | q
      · exact .inl (by simpa using q)
      · exact .inr (by simpa using q)
end
end D

namespace D
open PySem L2 PyProof.Rows
section
variable {Γ : Gam} {N : En} {ca : Str → Addr} {k : Nat} {cf : Cf} {sc : Scope} {kx : KX} {X : Cx} {n : Nat}
theorem isV_nif {ex : Expr} (h : isV ex = true) {op es p} : ex ≠ .BoolOp op es p := by rintro rfl; cases h
/-- a value's three readings -/
theorem val3 {ex : Expr} {x : E} (hv : isV ex = true) (h : PE X ex (tE X.K N Γ kx x)) : PE X ex (tE X.K N Γ kx x) ∧ (isIf ex = false → PT X ex (tT X.K N Γ kx x)) ∧ (∀ op es p, ex = .BoolOp op es p → PW X ex (tT X.K N Γ kx x)) :=
  ⟨h, fun _ => p_val h (test_plain hv), fun op es p e => absurd e (isV_nif hv)⟩
theorem Hy.in_blk (hy : Hy cf sc Γ k ca kx X) (s : Shared) (H : Hp) (scope : Scope) (C : Addr) (cl : List (Str × Addr)) (fp : List Addr) : Hy cf (relSc scope sc) Γ k ca kxF (X.blk s H scope (compEnvC scope cl C X.env) fp) where
  N := hy.N
  nd := hy.nd
  sc := by rw [← hy.sc]; rfl
  calm := hy.calm
  room := hy.room
  bl := hy.bl
  gl := hy.gl
  fs := hy.fs
  aa := hy.aa
  ms := hy.ms
  cs := hy.cs
  wish := fun u s' x => by
    have t : Takes (X.blk s H scope (compEnvC scope cl C X.env) fp) (fun _ _ _ _ => False) := takes0
    exact (t.imp fun c d σ H w => w.2.elim fun _ w => w.elim fun _ w => w.2) u s' x
theorem loc_blk {scope sc0 : Scope} (s : Shared) (H : Hp) (C : Addr) (cl : List (Str × Addr)) (fp : List Addr) : ∀ x, locB scope x = true → Loc (X.blk s H scope (compEnvC scope cl C X.env) fp).env.scope x ∧ ((X.blk s H scope (compEnvC scope cl C X.env) fp).fn x = true ∨ (X.blk s H scope (compEnvC scope cl C X.env) fp).env.scope.names.lookup x = some .local) := by
  intro x hx
  rcases loc_of hx with h | h
  · have := lookup_relS_keep (sc := X.env.scope) (by decide) h
    exact ⟨.inl this, .inr this⟩
  · have := lookup_relS_keep (sc := X.env.scope) (by decide) h
    refine ⟨.inr this, .inl ?_⟩
    show (scope.names.lookup x == some .cell) = true
    rw [h]; rfl
theorem star_as {env : Env} {es : List Expr} {xs : List A} (h : mapO (cA1 n cf sc) es = some xs) (pos : Pos) : (backTo pos (starEach es env)).any (·.1) = false :=
  nostar (fun ex x h es => star_cA h es env) h pos
def cArg (n : Nat) (cf : Cf) (sc : Scope) (io : List Nat) (p : Nat × Expr) : Option A := if io.contains p.1 then (refOf cf sc p.2).map A.r else (cE n cf sc p.2).map A.v
theorem star_arg {io : List Nat} {j : Nat} {ex : Expr} {x : A} (h : cArg n cf sc io (j, ex) = some x) (es : List Expr) (env : Env) : starEach (ex :: es) env = (false, eval ex env) :: starEach es env := by
  unfold cArg at h
  split at h
  · obtain ⟨i, h1, _⟩ := Option.map_eq_some_iff.mp h
    exact star_ref h1 es env
  · obtain ⟨i, h1, _⟩ := Option.map_eq_some_iff.mp h
    exact star_cE h1 es env
theorem IH.args (ih : IH Γ N ca k n) (hy : Hy cf sc Γ k ca kx X) {io : List Nat} : ∀ {es : List Expr} {js : List Nat} {xs : List A}, mapO (cArg n cf sc io) (js.zip es) = some xs → js.length = es.length → PA X es (tAs X.K N Γ kx xs) ∧ ∀ pos, (backTo pos (starEach es X.env)).any (·.1) = false
  | [], [], xs, h, _ => by cases h; exact ⟨sa_nil, fun _ => rfl⟩
  | [], _ :: _, _, _, h => by cases h
  | _ :: _, [], _, _, h => by cases h
  | ex :: es, j :: js, xs, h, hl => by
    obtain ⟨x, xs', h1, h2, rfl⟩ := mapO_cons h
    obtain ⟨q1, q2⟩ := IH.args ih hy h2 (by simpa using hl)
    refine ⟨sa_cons ?_ q1 (star_arg h1 es X.env), fun pos => ?_⟩
    · unfold cArg at h1
      split at h1
      · obtain ⟨i, h3, rfl⟩ := Option.map_eq_some_iff.mp h1
        exact hy.ref h3
      · obtain ⟨y, h3, rfl⟩ := Option.map_eq_some_iff.mp h1
        exact s_v (ih cf sc ex y h3 X kx hy).1
    · rw [star_arg h1 es]
      show (false || (backTo pos (starEach es X.env)).any (·.1)) = false
      rw [q2 pos]
      rfl
theorem args_cons {io : List Nat} {e0 : Expr} {es : List Expr} {xs : List A} (h : mapO (cArg n cf sc io) ((List.range (e0 :: es).length).zip (e0 :: es)) = some xs) : ∃ (j : Nat) (js : List Nat) (x : A) (xs' : List A), cArg n cf sc io (j, e0) = some x ∧ mapO (cArg n cf sc io) (js.zip es) = some xs' ∧ js.length = es.length := by
  rw [show (e0 :: es).length = es.length + 1 from rfl, List.range_succ_eq_map] at h
  obtain ⟨x, xs', h1, h2, rfl⟩ := mapO_cons h
  exact ⟨0, _, x, xs', h1, h2, by simp⟩
theorem sound_E : ∀ n, IH Γ N ca k n := by
  intro n
  induction n with
  | zero => intro cf sc ex x h; cases h
  | succ n ih =>
    intro cf sc ex x h X kx hy
    cases ex with
    | Name y p =>
      refine val3 rfl ?_
      unfold cE at h
      simp only at h
      split at h
      · cases h
      · rename_i ho
        have ho : okName y = true := by simpa using ho
        obtain ⟨n1, n2, n3⟩ := names_ok ho
        split at h
        · rename_i hv
          obtain ⟨i, h1, rfl⟩ := Option.map_eq_some_iff.mp h
          exact s_var (by rw [hy.N]; exact slot_at h1) (by rw [hy.sc]; exact vis_of hv) n1 n2
        · split at h
          · rename_i hg
            obtain ⟨w, h1, rfl⟩ := Option.map_eq_some_iff.mp h
            obtain ⟨u, v, q1, q2, q3⟩ := hy.gl y w h1
            exact s_con (pe_glob (hy.glo hg) q1 q2 n1) q3
          · cases h
    | Constant c j p =>
      refine val3 rfl ?_
      cases c with
      | none => cases h; exact s_con pe_non fun G => .non
      | bool b => cases h; exact s_con pe_bl fun G => .bl b
      | int i => cases h; exact s_con pe_int fun G => .int i
      | str x => cases h; exact s_con pe_str fun G => .str x
      | _ => cases h
    | BinOp a op b p =>
      refine val3 rfl ?_
      rw [cE_bin] at h
      split at h
      · rename_i x1 x2 h1 h2
        cases h
        exact s_bin (ih.a h1 hy) (ih.a h2 hy)
      · cases h
    | UnaryOp op a p =>
      cases op with
      | USub =>
        refine val3 rfl ?_
        obtain ⟨y, h1, rfl⟩ := Option.map_eq_some_iff.mp (show (cE n cf sc a).map E.neg = some x from h)
        exact s_neg (ih cf sc a y h1 X kx hy).1
      | Not =>
        have h : (if isIf a then none else (cE n cf sc a).map E.not) = some x := h
        split at h
        · cases h
        · rename_i hif
          obtain ⟨y, h1, rfl⟩ := Option.map_eq_some_iff.mp h
          obtain ⟨q1, q2, _⟩ := ih cf sc a y h1 X kx hy
          exact ⟨s_not q1, fun _ => p_not (q2 (by simpa using hif)), fun _ _ _ e => by cases e⟩
      | _ => cases h
    | Compare a ops bs p =>
      match ops, bs, h with
      | [op], [b], h =>
        rw [cE_cmp] at h
        split at h
        · cases h
        · rename_i hm
          have hm : behindInMarks op b = false := by simpa using hm
          split at h
          · rename_i x1 x2 h1 h2
            cases h
            exact ⟨s_cmp hy.units (ih.a h1 hy) (ih.a h2 hy) hm, fun _ => p_cmp hy.units (ih.a h1 hy) (ih.a h2 hy) hm, fun _ _ _ e => by cases e⟩
          · cases h
      | [o1, o2], [b, c], h =>
        have h : (if lastMarks [o1, o2] [b, c] then none else match cE n cf sc a, cE n cf sc b, cE n cf sc c with
          | some a, some b, some c => some (E.chn o1 o2 a b c)
          | _, _, _ => none) = some x := h
        split at h
        · cases h
        · rename_i hm
          split at h
          · rename_i x1 x2 x3 h1 h2 h3
            cases h
            have q := s_chn (pos := p) hy.units (ih cf sc a x1 h1 X kx hy).1 (ih cf sc b x2 h2 X kx hy).1 (ih cf sc c x3 h3 X kx hy).1 (by simpa using hm)
            exact ⟨q.1, fun _ => q.2, fun _ _ _ e => by cases e⟩
          · cases h
      | [], _, h => cases h
      | [_], [], h => cases h
      | [_], _ :: _ :: _, h => cases h
      | [_, _], [], h => cases h
      | [_, _], [_], h => cases h
      | [_, _], _ :: _ :: _ :: _, h => cases h
      | _ :: _ :: _ :: _, _, h => cases h
    | BoolOp op es p =>
      match es, h with
      | [], h => cases op <;> cases h
      | [a], h =>
        have h : (if isIf a then none else cE n cf sc a) = some x := by cases op <;> exact h
        split at h
        · cases h
        · rename_i hif
          obtain ⟨q1, q2, _⟩ := ih cf sc a x h X kx hy
          have q2 := q2 (by simpa using hif)
          have w : PW X (.BoolOp op [a] p) (tT X.K N Γ kx x) := by
            cases op
            · exact pw_and1 q2
            · exact pw_or1 q2
          exact ⟨pe_one q1, fun _ => w.pt, fun _ _ _ e => w⟩
      | a :: b :: r, h =>
        cases op with
        | And =>
          have h : (if isIf a then none else match cE n cf sc a, cE n cf sc (.BoolOp .And (b :: r) p) with | some a, some b => some (E.and a b) | _, _ => none) = some x := h
          split at h
          · cases h
          · rename_i hif
            split at h
            · rename_i x1 x2 h1 h2
              cases h
              obtain ⟨q1, q2, _⟩ := ih cf sc _ _ h1 X kx hy
              obtain ⟨q4, _, q5⟩ := ih cf sc _ _ h2 X kx hy
              have w := p_and (q2 (by simpa using hif)) (q5 _ _ _ rfl)
              exact ⟨s_and q1 q4, fun _ => w.pt, fun _ _ _ e => w⟩
            · cases h
        | Or =>
          have h : (if isIf a then none else match cE n cf sc a, cE n cf sc (.BoolOp .Or (b :: r) p) with | some a, some b => some (E.or a b) | _, _ => none) = some x := h
          split at h
          · cases h
          · rename_i hif
            split at h
            · rename_i x1 x2 h1 h2
              cases h
              obtain ⟨q1, q2, _⟩ := ih cf sc _ _ h1 X kx hy
              obtain ⟨q4, _, q5⟩ := ih cf sc _ _ h2 X kx hy
              have w := p_or (q2 (by simpa using hif)) (q5 _ _ _ rfl)
              exact ⟨s_or q1 q4, fun _ => w.pt, fun _ _ _ e => w⟩
            · cases h
    | IfExp t a b p =>
      have h : (if isIf t then none else match cE n cf sc t, cE n cf sc a, cE n cf sc b with | some t, some a, some b => some (E.ife t a b) | _, _, _ => none) = some x := h
      split at h
      · cases h
      · rename_i hif
        split at h
        · rename_i x1 x2 x3 h1 h2 h3
          cases h
          exact ⟨s_ife ((ih cf sc _ _ h1 X kx hy).2.1 (by simpa using hif)) (ih cf sc _ _ h2 X kx hy).1 (ih cf sc _ _ h3 X kx hy).1, fun e => (by cases e), fun _ _ _ e => by cases e⟩
        · cases h
    | Tuple es j p =>
      refine val3 rfl ?_
      obtain ⟨ys, h1, rfl⟩ := Option.map_eq_some_iff.mp (show (mapO (cE n cf sc) es).map E.tup = some x from h)
      exact s_tup (ih.es hy h1)
    | List es p =>
      refine val3 rfl ?_
      obtain ⟨ys, h1, rfl⟩ := Option.map_eq_some_iff.mp (show (mapO (cE n cf sc) es).map E.lst = some x from h)
      exact s_lst (ih.es hy h1)
    | Subscript a i p =>
      refine val3 rfl ?_
      by_cases hs : isSlice i = true
      · cases i with
        | Slice lo hi st p2 =>
          cases st with
          | some st =>
            obtain ⟨j, p1, p4, rfl, rfl⟩ := cE_st h
            rw [cE_rev] at h
            split at h
            · rename_i x1 k h1 h2
              cases h
              cases lo with
              | none =>
                cases h2
                exact s_rev (ih.a h1 hy) po_none fun σ H Q q => q
              | some e =>
                cases e with
                | Constant c j2 p5 =>
                  cases c with
                  | int i =>
                    have h2 : (if 0 ≤ i then some (some i.toNat) else none) = some k := h2
                    split at h2
                    · rename_i hi
                      cases h2
                      refine s_rev (ih.a h1 hy) (po_some pe_int) fun σ H Q q => ⟨i, rfl, ?_⟩
                      have : upI (some i.toNat) = some i := by
                        show some (i.toNat : Int) = some i
                        rw [Int.toNat_of_nonneg hi]
                      rw [this] at q
                      exact q
                    · cases h2
                  | _ => cases h2
                | _ => cases h2
            · cases h
          | none =>
            rw [cE_sli] at h
            split at h
            · rename_i x1 x2 x3 h1 h2 h3
              cases h
              exact s_sli (ih.a h1 hy) (ih.o h2 hy) (ih.o h3 hy)
            · cases h
        | _ => cases hs
      · rw [cE_idx (by simpa using hs)] at h
        split at h
        · rename_i x1 x2 h1 h2
          cases h
          exact s_idx (ih.a h1 hy) (ih cf sc _ _ h2 X kx hy).1 (plain_ix h2)
        · cases h
    | Call f args kws p =>
      refine val3 rfl ?_
      cases kws with
      | cons kw kws => cases f <;> cases h
      | nil =>
      cases f with
      | Name g p1 =>
        rw [cE_call] at h
        split at h
        · cases h
        · rename_i hg
          have hg : gloB sc g = true ∧ okName g = true := by simpa using hg
          obtain ⟨hg, ho⟩ := hg
          have hg := hy.glo hg
          obtain ⟨n1, n2, n3⟩ := names_ok ho
          split at h
          · rename_i hi
            rw [Bool.and_eq_true] at hi
            have he : g = "len" := by simpa using hi.1
            subst he
            obtain ⟨a, ha, h⟩ := Option.bind_eq_some_iff.mp h
            obtain ⟨y, h1, rfl⟩ := Option.map_eq_some_iff.mp h
            obtain ⟨p2, q2, rfl, hs⟩ := setArg_of ha
            exact s_lset hy.calm hg (hy.bl "len" (by decide)) (hy.glo hs) (hy.bl "set" (by decide)) (ih cf sc a y h1 X kx hy).1 (star_cE h1 [] X.env)
          rename_i hnl
          clear hnl
          split at h
          · rename_i hi
            have hi : g = "isinstance" := by simpa using hi
            subst hi
            split at h
            · rename_i a T pT
              split at h
              · rename_i t ht
                split at h
                · rename_i hgT
                  obtain ⟨y, h1, rfl⟩ := Option.map_eq_some_iff.mp h
                  have tm := List.mem_of_find?_eq_some ht
                  have te : ((t : String) : Str) = T := by simpa using List.find?_some ht
                  subst te
                  have no : okName ((t : String) : Str) = true := by
                    simp only [typNames, List.mem_cons, List.not_mem_nil, or_false] at tm
                    rcases tm with rfl | rfl | rfl | rfl | rfl <;> decide
                  obtain ⟨m1, m2, m3⟩ := names_ok no
                  exact s_isi (typ_boot t tm) hg (hy.bl "isinstance" (by decide)) (hy.glo hgT) (hy.bl t (by unfold freeNames; simp [tm])) m3 m1 (ih.a h1 hy) (star_cA h1 _ X.env)
                · cases h
              · cases h
            · cases h
          · split at h
            · rename_i t ht
              have tm := List.mem_of_find?_eq_some ht
              have te : ((t : String) : Str) = g := by simpa using List.find?_some ht
              subst te
              cases args with
              | nil => cases h
              | cons e0 es =>
                obtain ⟨xs, h1, rfl⟩ := Option.map_eq_some_iff.mp (show (mapO (cA1 n cf sc) (e0 :: es)).map (E.blt t) = some x from h)
                obtain ⟨c, c1, c2⟩ := blt_boot t tm
                obtain ⟨y, ys, k1, k2, e⟩ := mapO_cons h1
                exact s_blt hy.units hy.calm c1 c2 hg (hy.bl t (by unfold freeNames; simp [tm])) (ih.as hy h1) n3 n1 (star_cA k1 es X.env) (star_as k2)
            · split at h
              · rename_i io hio
                cases args with
                | nil => cases h
                | cons e0 es =>
                  obtain ⟨xs, h1, rfl⟩ := Option.map_eq_some_iff.mp (show (mapO (cArg n cf sc io) ((List.range (e0 :: es).length).zip (e0 :: es))).map (E.call g) = some x from h)
                  obtain ⟨fa, fd, ps, q1, q2, q3, q4, q5⟩ := hy.fs g io hio
                  obtain ⟨j, js, y, ys, k1, k2, k3⟩ := args_cons h1
                  exact s_call q4 q5 hy.room hg q1 q2 q3 hy.wish (ih.args hy h1 (by simp)).1 n1 (star_arg k1 es X.env) (ih.args hy k2 k3).2
              · split at h
                · cases h
                · rename_i hcs
                  have hcs : cf.cs.contains g = true := by simpa using hcs
                  cases args with
                  | nil => cases h
                  | cons e0 es =>
                    obtain ⟨xs, h1, rfl⟩ := Option.map_eq_some_iff.mp (show (mapO (cA1 n cf sc) (e0 :: es)).map (E.new g) = some x from h)
                    obtain ⟨y, ys, k1, k2, e⟩ := mapO_cons h1
                    obtain ⟨fa, fd, ps, j, hj, q1, q2, q3, q4, q5⟩ := hy.cs g hcs
                    exact s_new q1 q2 q3 (by rw [← hj]; exact hy.room) hg q4 q5 (ih.as hy h1) n1 (star_cA k1 es X.env) (star_as k2)
      | Attribute o m ap =>
        rw [cE_mth] at h
        split at h
        · rename_i hl
          split at h
          · rename_i i hi
            obtain ⟨y, py, rfl, v1, v2, v3⟩ := ref_name hi
            obtain ⟨n1, n2, n3⟩ := names_ok v2
            have a1 : X.N[i]? = some y := by rw [hy.N]; exact slot_at v3
            have a2 : Vis X.env.scope y := by rw [hy.sc]; exact vis_of v1
            split at h
            · rename_i hm
              have hm : m = "append" := by simpa using hm
              subst hm
              split at h
              · rename_i a
                obtain ⟨z, h1, rfl⟩ := Option.map_eq_some_iff.mp h
                exact s_app a1 a2 n1 n2 (ih cf sc _ _ h1 X kx hy).1 hl (star_cE h1 [] X.env)
              · cases h
            · split at h
              · rename_i hm
                have hm : m = "extend" := by simpa using hm
                subst hm
                split at h
                · rename_i a
                  obtain ⟨z, h1, rfl⟩ := Option.map_eq_some_iff.mp h
                  exact s_ext a1 a2 n1 n2 (ih.a h1 hy) hl (star_cA h1 [] X.env)
                · cases h
              · split at h
                · rename_i hm
                  have hm : m = "pop" := by simpa using hm
                  subst hm
                  split at h
                  · cases h
                    exact s_pop0 a1 a2 n1 n2 hl
                  · rename_i a
                    obtain ⟨z, h1, rfl⟩ := Option.map_eq_some_iff.mp h
                    exact s_pop1 a1 a2 n1 n2 (ih cf sc _ _ h1 X kx hy).1 hl (star_cE h1 [] X.env)
                  · cases h
                · cases h
          · split at h
            · rename_i hm
              have hm : m = "index" := by simpa using hm
              subst hm
              split at h
              · rename_i i a hi
                obtain ⟨z, h1, rfl⟩ := Option.map_eq_some_iff.mp h
                obtain ⟨y, py, rfl, v1, v2, v3⟩ := nm_name hi
                obtain ⟨n1, n2, n3⟩ := names_ok v2
                exact s_lix hy.units (by rw [hy.N]; exact slot_at v3) (by rw [hy.sc]; exact vis_of v1) n1 n2 (ih cf sc _ _ h1 X kx hy).1 hl (star_cE h1 [] X.env)
              · cases h
            · split at h
              · rename_i i c hi hc
                obtain ⟨y, py, rfl, v1, v2, v3⟩ := nm_name hi
                obtain ⟨n1, n2, n3⟩ := names_ok v2
                cases args with
                | nil => cases h
                | cons e0 es =>
                  have h : (if (false || decide (20 < (e0 :: es).length)) = true then none else (mapO (cA1 n cf sc) (e0 :: es)).map (E.mth c m (.v (.var i)))) = some x := h
                  split at h
                  · cases h
                  rename_i hz
                  have hz : (e0 :: es).length ≤ 20 := by
                    simp only [Bool.false_or, decide_eq_true_eq] at hz
                    omega
                  obtain ⟨xs, h1, rfl⟩ := Option.map_eq_some_iff.mp h
                  obtain ⟨z, zs, k1, k2, e⟩ := mapO_cons h1
                  obtain ⟨q0, fa, fd, ps, q1, q2, q3, q4⟩ := hy.ms m c hc
                  exact s_mth (by rw [hy.N]; exact slot_at v3) (by rw [hy.sc]; exact vis_of v1) n1 n2 q0 q1 q3 q4 hy.room q2 (ih.as hy h1) (star_cA k1 es X.env) (star_as k2) hl hz
              · cases h
        · cases h
      | _ => cases h
    | Attribute o f p =>
      refine val3 rfl ?_
      rw [cE_att] at h
      split at h
      · rename_i i c hi hc
        cases h
        obtain ⟨y, py, rfl, v1, v2, v3⟩ := nm_name hi
        obtain ⟨n1, n2, n3⟩ := names_ok v2
        obtain ⟨q1, q2⟩ := hy.aa f c hc
        exact s_att (by rw [hy.N]; exact slot_at v3) (by rw [hy.sc]; exact vis_of v1) n1 n2 q1 q2
      · cases h
    | ListComp elt gens scope p =>
      refine val3 rfl ?_
      rw [cE_lc] at h
      split at h
      · rename_i g
        obtain ⟨tg, iter, ifs, as⟩ := g
        simp only at h
        split at h
        · rename_i has
          have has : as = 0 := by simpa using has
          subst has
          split at h
          · rename_i own it h1 h2
            split at h
            · rename_i hb
              simp only [Bool.and_eq_true, Bool.not_eq_true'] at hb
              obtain ⟨hb, hif⟩ := hb
              split at h
              · rename_i t y fs h3 h4 h5
                split at h
                · rename_i hl
                  cases h
                  refine (s_lc hy.calm (by rw [hy.N]; exact hy.nd) (ih.it h2 hy) (by rw [hy.N, hy.sc]; exact blk_ok hb) (fun s H C cl fp => tg_pg (cf := cf) (sc := scope) h3 hy.N hy.nd hy.calm (loc_blk (sc0 := sc) s H C cl fp)) (fun s H C cl fp => ?_)
                    (fun s H C cl fp => (ih cf _ elt y h4 _ kxF (hy.in_blk s H scope C cl fp)).1) (fold_it (cIt_noset h2)) (own_ix h3 h1)).1
                  match ifs, fs, h5, hif, hl with
                  | [], fs, h5, _, _ => cases h5; exact si_nil
                  | [e], fs, h5, hif, _ =>
                    obtain ⟨z, zs, k1, k2, rfl⟩ := mapO_cons h5
                    cases k2
                    exact si_one ((ih cf _ e z k1 _ kxF (hy.in_blk s H scope C cl fp)).2.1 (by simpa using hif))
                  | _ :: _ :: _, fs, h5, _, hl =>
                    have := mapO_len h5
                    rw [this] at hl
                    simp at hl
                · cases h
              · cases h
            · cases h
          · cases h
        · cases h
      · cases h
    | _ => cases h
end
end D

namespace D
open PySem L2 PyProof.Rows
/-! ## statements: readings -/
def OutS (K : PySem.W.Frag) (N : En) (kx : KX) (tm : Tm) (r : Res Fl) (D : Ends) : Prop := match r with
  | .ok .nx e' => ∀ σ' H' G', R K N G' H' e' σ' tm → D.nx σ' H'
  | .ok (.rt rv) e' => ∀ σ', PostE K N σ' tm D.rt rv e'
  | .exc c e' => ∀ σ' H' G', R K N G' H' e' σ' tm → kx c e' σ' H'
  | .bad => False
def tS (K : PySem.W.Frag) (N : En) (Γ : Gam) (wf : Nat) (kx : KX) (x : S) : TS := fun D σ H => ∃ G e tm, R K N G H e σ tm ∧ OutS K N kx tm (evS Γ wf x e) D
def tSs (K : PySem.W.Frag) (N : En) (Γ : Gam) (wf : Nat) (kx : KX) (x : List S) : TS := fun D σ H => ∃ G e tm, R K N G H e σ tm ∧ OutS K N kx tm (evSs Γ wf x e) D
section
variable {X : Cx} {N : En} {Γ : Gam} {kx : KX} {wf : Nat} {K : PySem.W.Frag}
theorem OutS.bind {α : Type} {σ : L2.St} {tm : Tm} {r : Res α} {f : α → SEnv → Res Fl} {D : Ends} (h : OutS K N kx tm (r.bind f) D) : Out K N kx σ tm r (fun a e' => OutS K N kx tm (f a e') D) := by
  cases r with
  | ok a e => exact h
  | exc c e => exact fun H' G' q => h σ H' G' q
  | bad => exact h
theorem OutS.more {tm tm' : Tm} {r : Res Fl} {D : Ends} (h : OutS K N kx tm r D) (s : tm.Sublist tm') : OutS K N kx tm' r D := by
  cases r with
  | ok a e =>
    cases a with
    | nx => exact fun σ' H' G' q => h σ' H' G' (q.drop s)
    | rt rv =>
      intro σ'
      have h := h σ'
      cases rv with
      | s x => exact fun v H' G' q => h v H' G' (q.drop (s.cons₂ _))
      | t xs => exact fun t us H' G' h1 h2 h3 h4 q => h t us H' G' h1 h2 h3 h4 (q.drop ((List.Sublist.refl _).append s))
  | exc c e => exact fun σ' H' G' q => h σ' H' G' (q.drop s)
  | bad => exact h
/-- what follows a statement -/
theorem OutS.seq {tm : Tm} {r : Res Fl} {f : SEnv → Res Fl} {D : Ends} {nx : L2.St → Hp → Prop} (h : OutS K N kx tm (r.bind fun a e => match a with | .nx => f e | .rt v => .ok (.rt v) e) D)
    (g : ∀ e σ' H' G', R K N G' H' e σ' tm → OutS K N kx tm (f e) D → nx σ' H') : OutS K N kx tm r { D with nx := nx } := by
  cases r with
  | ok a e =>
    cases a with
    | nx => exact fun σ' H' G' q => g e σ' H' G' q h
    | rt rv => exact h
  | exc c e => exact h
  | bad => exact h
/-! ### blocks -/
theorem ss_nil : PSs X [] (tSs X.K N Γ wf kx []) := by
  refine ⟨fun pins s σ H D I h => pss_nil.run pins s σ H D I ?_⟩
  obtain ⟨G, e, tm, r, o⟩ := h
  unfold evSs at o
  exact o σ H G r
theorem ss_cons {st : Stmt} {sts : List Stmt} {x : S} {xs : List S} (h1 : PS X st (tS X.K N Γ wf kx x)) (h2 : PSs X sts (tSs X.K N Γ wf kx xs)) : PSs X (st :: sts) (tSs X.K N Γ wf kx (x :: xs)) := by
  refine ⟨fun pins s σ H D I h => (pss_cons h1 h2).run pins s σ H D I ?_⟩
  obtain ⟨G, e, tm, r, o⟩ := h
  unfold evSs at o
  exact ⟨G, e, tm, r, o.seq fun e' σ' H' G' r' q => ⟨G', e', tm, r', q⟩⟩
/-! ### small statements -/
theorem ss_pass {pos : Pos} : PS X (.Pass pos) (tS X.K N Γ wf kx .pas) := by
  refine ⟨fun pins s σ H D I h => ps_pass.run pins s σ H D I ?_⟩
  obtain ⟨G, e, tm, r, o⟩ := h
  unfold evS at o
  exact o σ H G r
theorem ss_nev {st : Stmt} : PS X st (tS X.K N Γ wf kx .nev) := by
  refine ⟨fun pins s σ H D I h => ?_⟩
  obtain ⟨G, e, tm, r, o⟩ := h
  unfold evS at o
  exact o.elim
theorem ss_ex {ex : Expr} {x : E} {pos : Pos} (h : PE X ex (tE X.K N Γ kx x)) (hs : swapsWith ex none pos.line X.env = pure false) : PS X (.Expr ex pos) (tS X.K N Γ wf kx (.ex x)) := by
  refine ⟨fun pins s σ H D I h1 => (ps_expr (toV h) hs).run pins s σ H D I ?_⟩
  obtain ⟨G, e, tm, r, o⟩ := h1
  unfold evS at o
  exact ⟨G, e, tm, r, o.bind.mono fun rv e' p v H' G' r' => p σ H' G' r'.tail⟩
theorem ss_ret0 {pos : Pos} : PS X (.Return none pos) (tS X.K N Γ wf kx (.ret none)) := by
  refine ⟨fun pins s σ H D I h => ps_retN.run pins s σ H D I ?_⟩
  obtain ⟨G, e, tm, r, o⟩ := h
  unfold evS at o
  exact o σ .non H G (r.push .non)
theorem ss_ret {ex : Expr} {x : E} {pos : Pos} (h : PE X ex (tE X.K N Γ kx x)) : PS X (.Return (some ex) pos) (tS X.K N Γ wf kx (.ret (some x))) := by
  refine ⟨fun pins s σ H D I h1 => (ps_ret h).run pins s σ H D I ?_⟩
  obtain ⟨G, e, tm, r, o⟩ := h1
  unfold evS at o
  exact ⟨G, e, tm, r, o.bind.mono fun rv e' p => p σ⟩
theorem ss_if {t : Expr} {a b : List Stmt} {xt : E} {xa xb : List S} {pos : Pos} (ht : PT X t (tT X.K N Γ kx xt)) (ha : PSs X a (tSs X.K N Γ wf kx xa)) (hb : PSs X b (tSs X.K N Γ wf kx xb)) : PS X (.If t a b pos) (tS X.K N Γ wf kx (.ite xt xa xb)) := by
  refine ⟨fun pins s σ H D I h1 => (ps_if ht ha hb).run pins s σ H D I ?_⟩
  obtain ⟨G, e, tm, r, o⟩ := h1
  unfold evS at o
  refine ⟨G, e, tm, r, o.bind.mono fun c e' p H' G' r' => ?_⟩
  cases c with
  | true => exact ⟨G', e', tm, r', p⟩
  | false => exact ⟨G', e', tm, r', p⟩
theorem ss_rai {c : Str} {ex : Expr} {pos : Pos} {ca : Str → Addr} (hc : X.calm = true) (tk : Takes X (wxOf ca kx)) (h : PMk X ex (fun σ H Q => Q (.ref (ca c)) none H)) : PS X (.Raise (some ex) none pos) (tS X.K N Γ wf kx (.rai c)) := by
  refine ⟨fun pins s σ H D I h1 => (ps_raise hc tk h).run pins s σ H D I ?_⟩
  obtain ⟨G, e, tm, r, o⟩ := h1
  unfold evS at o
  exact ⟨rfl, c, e, rfl, o σ H G r⟩
/-- name = value -/
theorem c_set {i : Nat} {m : Bool} {x : E} {D : Ends} {σ : L2.St} {H : Hp} (h : tS K N Γ wf kx (.set i m x) D σ H) : tE K N Γ kx x σ H (fun v H1 => gName i v σ H1 D.nx) := by
  obtain ⟨G, e, tm, r, o⟩ := h
  unfold evS at o
  cases m with
  | false =>
    refine tE_of_tV ⟨G, e, tm, r, o.bind.mono fun rv e' p v H' G' r' => ?_⟩
    simp only at p
    split at p
    · rename_i hi
      exact p _ H' G' (r'.store hi)
    · exact p.elim
  | true =>
    refine ⟨G, e, tm, r, o.bind.mono fun rv e' p => ?_⟩
    split at p
    · rename_i heq; cases heq
    · rename_i xs
      intro v H' G' r'
      split at p
      · rename_i hi
        exact p _ H' G' (r'.store hi)
      · exact p.elim
    · exact p.elim
theorem ss_set {i : Nat} {m : Bool} {y : Str} {ex : Expr} {x : E} {pos' pos : Pos} (hN : X.N.Nodup) (hi : X.N[i]? = some y) (hx : Loc X.env.scope y) (he : PE X ex (tE X.K N Γ kx x)) (hs : swapsWith ex (some (.Name y pos')) pos.line X.env = pure false)
    (hf : X.fn y = true ∨ X.env.scope.names.lookup y = some .local) : PS X (.Assign [.Name y pos'] ex pos) (tS X.K N Γ wf kx (.set i m x)) :=
  ⟨fun pins s σ H D I h1 => (ps_set hN hi hx he hs hf).run pins s σ H D I (c_set h1)⟩
theorem ss_aug {i : Nat} {y : Str} {ex : Expr} {x : E} {op : Operator} {pos' pos : Pos} (hN : X.N.Nodup) (hi : X.N[i]? = some y) (hx : Loc X.env.scope y) (he : PE X ex (tE X.K N Γ kx x)) (ho : op = .Add ∨ op = .Sub)
    (hf : X.fn y = true ∨ X.env.scope.names.lookup y = some .local) : PS X (.AugAssign (.Name y pos') op ex pos) (tS X.K N Γ wf kx (.aug i op x)) := by
  refine ⟨fun pins s σ H D I h1 => ?_⟩
  obtain ⟨G, e, tm, r, o⟩ := h1
  unfold evS at o
  split at o
  · rename_i w hw
    obtain ⟨v, q1, q2⟩ := r.slot i _ hw
    have q2 : Dv X.K G v w := q2
    rcases ho with rfl | rfl
    · refine (ps_aug hN hi hx (toV he) ip_add hf).run pins s σ H D I ⟨v, q1, G, e, _, r.push q2, (o.bind.more (List.sublist_cons_self (.val w, v) _)).mono fun rv e' p u H' G' r' => ?_⟩
      have du := r'.tmp _ List.mem_cons_self
      have dv := r'.tmp (.val w, v) (List.mem_cons_of_mem _ List.mem_cons_self)
      replace r' := r'.tail.tail
      generalize rv.toW = z at p du
      clear o hw q2
      cases w with
      | int a =>
        cases z with
        | int b =>
          cases du; cases dv
          refine ⟨a, b, rfl, rfl, ?_⟩
          have rr : R X.K N G' H' e' σ ((.val (.int (a + b)), .int (a + b)) :: tm) := r'.push (.int _)
          have hl : i < e'.length := by
            rw [rr.len]; exact (List.getElem?_eq_some_iff.mp q1).1
          exact p _ H' G' (rr.store hl)
        | _ => exact p.elim
      | _ => exact p.elim
    · refine (ps_aug hN hi hx (toV he) ip_sub hf).run pins s σ H D I ⟨v, q1, G, e, _, r.push q2, (o.bind.more (List.sublist_cons_self (.val w, v) _)).mono fun rv e' p u H' G' r' => ?_⟩
      have du := r'.tmp _ List.mem_cons_self
      have dv := r'.tmp (.val w, v) (List.mem_cons_of_mem _ List.mem_cons_self)
      replace r' := r'.tail.tail
      generalize rv.toW = z at p du
      clear o hw q2
      cases w with
      | int a =>
        cases z with
        | int b =>
          cases du; cases dv
          refine ⟨a, b, rfl, rfl, ?_⟩
          have rr : R X.K N G' H' e' σ ((.val (.int (a - b)), .int (a - b)) :: tm) := r'.push (.int _)
          have hl : i < e'.length := by
            rw [rr.len]; exact (List.getElem?_eq_some_iff.mp q1).1
          exact p _ H' G' (rr.store hl)
        | _ => exact p.elim
      | _ => exact p.elim
  · exact o.elim
end
end D

namespace D
open PySem L2 PyProof.Rows
/-! ## the exceptions of the program, and _law_which -/
def excCB (K : PySem.W.Frag) (D : Addr) : Bool :=
  He.eqO (PySem.W.findIn K (.ref D) "__getattribute__") (some (some (.builtin "BaseException.__getattribute__"))) &&
    (He.eqO (PySem.W.findIn K (.ref D) "__getattr__") (some none) && (decide (PySem.W.subIn K (.ref D) (.type "BaseException") = some true) && (PySem.W.hasDictIn K D &&
      (He.eqO (PySem.W.findIn K (.ref D) "__class__") (some (some (.builtin "object.__class__"))) && (He.eqO (PySem.W.specialIn K (.builtin "object.__class__") "__get__") (some (some (.builtin "getset_descriptor.__get__"))) &&
        (decide (PySem.W.takesIn K (.builtin "object.__class__") = some true) && decide (PySem.W.mroIn K D (.type "object") = some true)))))))
theorem excC_of {K : PySem.W.Frag} {D : Addr} (h : excCB K D = true) : ExcC K D := by
  unfold excCB at h
  simp only [Bool.and_eq_true] at h
  obtain ⟨h1, h2, h3, h4, h5, h6, h7, h8⟩ := h
  exact ⟨He.eqO_ok h1, He.eqO_ok h2, of_decide_eq_true h3, h4, He.eqO_ok h5, He.eqO_ok h6, of_decide_eq_true h7, of_decide_eq_true h8⟩
/-- what is asked of the classes -/
def exB (K : PySem.W.Frag) : Bool := exNames.all fun c => excCB K (He.ga K c) && (decide (PySem.W.exmOne K (.ref (He.ga K c)) (.ref (He.ga K "PriceError")) = some true) &&
  (decide (PySem.W.kitOne K (.ref (He.ga K c)) (.type "ValueError") = some true) && exNames.all fun d => decide (PySem.W.kitOne K (.ref (He.ga K c)) (.ref (He.ga K d)) = some (c == d))))
structure ExW (K : PySem.W.Frag) (mg : Str → Option Value) : Prop where
  glo : ∀ c ∈ exNames, mg c = some (.ref (He.ga K c))
  pe : mg "PriceError" = some (.ref (He.ga K "PriceError"))
  b : exB K = true
theorem ExW.cl {K : PySem.W.Frag} {mg : Str → Option Value} (h : ExW K mg) {c : Str} (hc : c ∈ exNames) : ExcC K (He.ga K c) ∧ PySem.W.exmOne K (.ref (He.ga K c)) (.ref (He.ga K "PriceError")) = some true ∧
    PySem.W.kitOne K (.ref (He.ga K c)) (.type "ValueError") = some true ∧ ∀ d ∈ exNames, PySem.W.kitOne K (.ref (He.ga K c)) (.ref (He.ga K d)) = some (c == d) := by
  have := List.all_eq_true.mp h.b c hc
  simp only [Bool.and_eq_true, decide_eq_true_eq, List.all_eq_true] at this
  exact ⟨excC_of this.1, this.2.1, this.2.2.1, this.2.2.2⟩
/-- a pinned exception of the class c -/
structure PinE (K : PySem.W.Frag) (c : Str) (p : Addr × Obj) : Prop where
  mem : c ∈ exNames
  z : Zc (.ref (He.ga K c)) none p.2
  f : ∃ vs, p.2.data = .fields vs
section
variable {X : Cx} {p : Addr × Obj} {c : Str}
theorem call_isP (C : ExcC X.K (He.ga X.K c)) (hp : p ∈ X.pn) (z : PinE X.K c p) : CallR X (.builtin "isinstance") (rIsE X.K (He.ga X.K c) p.1) := by
  intro pins s σ H xs us Q I r h
  obtain ⟨d, dv, b, rfl, hd, e, q⟩ := h
  match us, r with
  | [_, _], .cons rx (.cons ry .nil) =>
    cases rx
    have ed := hd _ ry
    subst ed
    have hg := (I.pin p (List.mem_append.mpr (.inl hp))).1
    obtain ⟨vs, hv⟩ := z.f
    have J : PySem.W.InstAt s.heap p.1 p.2 (He.ga X.K c) none := by
      obtain ⟨a, oc, od, oda, osl⟩ := p
      obtain ⟨z1, z2⟩ := z.z
      dsimp only at z1 z2 hv hg
      subst z1 z2 hv
      exact ⟨hg, rfl, rfl, trivial⟩
    have kx := PySem.W.handS_kitx_exc (x := p.1) (ox := p.2) C.hg C.hk C.hs C.hd C.ha C.hn C.ht C.hm
    exact PySem.W.kia_one kx I.kIn J e (fun z => nomatch z) fun tk => ⟨.bl b, H, I.kept (t' := tk) fun _ _ z => z, rfl, q⟩
/-! ### the expressions of _law_which -/
def isiB : Expr → Option Str
  | .Call (.Name f _) [.Name e _, .Name c _] [] _ => if f = "isinstance" ∧ e = "e" then some c else none
  | _ => none
/-- isinstance(e, d), e at slot 0 -/
def tIs (a : Addr) (b : Bool) : TE := fun σ H Q => σ[0]? = some (some (.ref a)) ∧ Q (.bl b) H
def tIss (a : Addr) (bs : List Bool) : TA := fun σ H Q => σ[0]? = some (some (.ref a)) ∧ Q (bs.map .bl) H
/-- what is known in the body of _law_which -/
structure WhX (X : Cx) (c : Str) (p : Addr × Obj) : Prop where
  w : ExW X.K X.mg
  pin : PinE X.K c p
  mem : p ∈ X.pn
  N : X.N = (["e", "own"] : List Str)
  l0 : X.env.scope.names.lookup ("e" : Str) = some .local
  l1 : X.env.scope.names.lookup ("own" : Str) = some .local
  gi : Gl X "isinstance"
  gv : Gl X "ValueError"
  gc : ∀ d ∈ exNames, Gl X d
  fi : X.mg "isinstance" = none
  fv : X.mg "ValueError" = none
  un : X.A.units + 65 < cLine
  fn : ∀ x, X.fn x = true
theorem WhX.e (h : WhX X c p) {pos : Pos} : PE X (.Name "e" pos) (tVar 0) := pe_var (by rw [h.N]; rfl) (.inl h.l0)
theorem WhX.own (h : WhX X c p) {pos : Pos} : PE X (.Name "own" pos) (tVar 1) := pe_var (by rw [h.N]; rfl) (.inl h.l1)
theorem nodebug {d : Str} (h : d ∈ exNames) : (d == ("__debug__" : Str)) = false := by
  have : exNames.all (fun d => !(d == ("__debug__" : Str))) = true := by decide +kernel
  simpa using List.all_eq_true.mp this d h
theorem pe_is (h : WhX X c p) {x : Expr} {d : Str} (hx : isiB x = some d) (hd : d ∈ exNames) : PE X x (tIs p.1 (c == d)) ∧ ∀ es env, starEach (x :: es) env = (false, eval x env) :: starEach es env := by
  unfold isiB at hx
  split at hx
  · split at hx
    · rename_i f p1 e p2 c' p3 p4 hh
      obtain ⟨rfl, rfl⟩ := hh
      cases hx
      obtain ⟨C, _, _, k⟩ := h.w.cl h.pin.mem
      refine ⟨⟨fun pins s σ H Q I q => (pe_callB (call_isP C h.mem h.pin) h.gi h.fi boot_isinstance (pa_cons h.e (pa_cons (pe_glob (v := .ref (He.ga X.K d)) (h.gc d hd) (h.w.glo d hd) rfl (nodebug hd)) pa_nil))).run pins s σ H Q I ?_⟩, fun es env => rfl⟩
      obtain ⟨q1, q2⟩ := q
      exact ⟨_, q1, .ref (He.ga X.K d), .ref (He.ga X.K d), (c == d), rfl, fun u r => r, k d hd, q2⟩
    · cases hx
  · cases hx
theorem pe_isV (h : WhX X c p) {p1 p2 p3 p4 : Pos} : PE X (.Call (.Name "isinstance" p1) [.Name "e" p2, .Name "ValueError" p3] [] p4) (tIs p.1 true) := by
  obtain ⟨C, _, k, _⟩ := h.w.cl h.pin.mem
  refine ⟨fun pins s σ H Q I q => (pe_callB (call_isP C h.mem h.pin) h.gi h.fi boot_isinstance (pa_cons h.e (pa_cons (pe_bltn (v := .ty "ValueError") h.gv h.fv (by kernel_rfl) rfl) pa_nil))).run pins s σ H Q I ?_⟩
  obtain ⟨q1, q2⟩ := q
  refine ⟨_, q1, .ty "ValueError", .type "ValueError", true, rfl, fun u r => r, k, q2⟩
theorem pa_is (h : WhX X c p) : ∀ {es : List Expr} {ds : List Str}, mapO isiB es = some ds → (∀ d ∈ ds, d ∈ exNames) → PA X es (tIss p.1 (ds.map fun d => c == d))
  | [], ds, e, _ => by
    cases e
    exact ⟨fun pos pins s σ H Q I q => pa_nil.run pos pins s σ H Q I q.2⟩
  | x :: es, ds, e, hd => by
    obtain ⟨d, ds', h1, h2, rfl⟩ := mapO_cons e
    obtain ⟨k1, k2⟩ := pe_is h h1 (hd d List.mem_cons_self)
    have k3 := pa_is h h2 fun d hh => hd d (List.mem_cons_of_mem _ hh)
    exact ⟨fun pos pins s σ H Q I q => (pa_cons k1 k3 (k2 es X.env)).run pos pins s σ H Q I ⟨q.1, q.1, q.2⟩⟩
/-- own.count(True) -/
theorem mt_countB : MtR X "list.count" (fun x vs H Q => ∃ (l : Addr) (bs : List Bool), x = .ref l ∧ vs = [.bl true] ∧ H l = some (.lst (bs.map .bl)) ∧ Q (.int ((bs.count true : Nat) : Int)) H) := by
  intro pins s σ H x vs v us Q I rx rv h
  obtain ⟨l, bs, rfl, rfl, hH, q⟩ := h
  cases rx
  match us, rv with
  | [_], .cons ru .nil =>
    cases ru
    obtain ⟨z, its, n, r, hl, e⟩ := I.lstM hH
    have ra : ∀ {bs : List Bool} {its : List Value}, Vals (bs.map V.bl) its → ReadsAll s.heap its (bs.map PyData.bool) [] := fun {bs} => by
      induction bs with
      | nil => intro its r; cases r; exact .nil
      | cons b bs ih =>
        intro its r
        cases r with
        | cons r1 r2 =>
          cases r1
          exact .cons (as := []) (bs := []) (.bool b) (ih r2)
    refine count_list_bools (hp := s.heap) (xs := bs.map PyData.bool) ⟨_, e, rfl, n, rfl⟩ (ra r) (by rw [List.all_map]; exact List.all_eq_true.mpr fun b _ => rfl) ?_
    have ce : ∀ bs : List Bool, PySem.Spec.countIn (.bool true) (bs.map PyData.bool) = ((bs.count true : Nat) : Int) := fun bs => by
      induction bs with
      | nil => rfl
      | cons b bs ih =>
        rw [List.map_cons, PySem.Spec.countIn, ih, List.count_cons]
        cases b <;> simp [PySem.Spec.same]
        omega
    rw [ce]
    exact ⟨.int _, H, I.kept (t' := s.toks + 1) fun _ _ z => z, ⟨_, rfl⟩, q⟩
end
end D

namespace D
open PySem L2 PyProof.Rows
/-- the body of _law_which -/
def whB : List Stmt → Bool
  | [.Assign [.Name o1 _] (.List l1 _) _, .Expr (.Call (.Attribute (.Name o2 _) x2 a2) [.List l2 _] [] c2) _, .Expr (.Call (.Attribute (.Name o3 _) x3 a3) [.List l3 _] [] c3) _, .Expr (.Call (.Attribute (.Name o4 _) x4 a4) [.List l4 _] [] c4) _,
     .If (.BoolOp .Or [.Compare (.Call (.Attribute (.Name o5 _) x5 a5) [.Constant (.bool true) _ _] [] c5) [.NotEq] [.Constant (.int 1) _ _] _, .UnaryOp .Not (.Call (.Name f6 _) [.Name e6 _, .Name v6 _] [] _) _] _) [.Return _ _] [] _,
     .Return (some (.Tuple [.Constant (.str r7) _ _, .Call (.Attribute (.Name o7 _) x7 a7) [.Constant (.bool true) _ _] [] c7] _ _)) _] =>
    decide (o1 = "own" ∧ o2 = "own" ∧ o3 = "own" ∧ o4 = "own" ∧ o5 = "own" ∧ o7 = "own" ∧ x2 = "extend" ∧ x3 = "extend" ∧ x4 = "extend" ∧ x5 = "count" ∧ x7 = "index" ∧ f6 = "isinstance" ∧ e6 = "e" ∧ v6 = "ValueError" ∧ r7 = "raised") &&
      (decide (mapO isiB l1 = some (exNames.take 3)) && (decide (mapO isiB l2 = some ((exNames.drop 3).take 3)) && (decide (mapO isiB l3 = some ((exNames.drop 6).take 3)) && (decide (mapO isiB l4 = some (exNames.drop 9)) &&
        ((a2.endLine == c2.line) && ((a3.endLine == c3.line) && ((a4.endLine == c4.line) && ((a5.endLine == c5.line) && (a7.endLine == c7.line)))))))))
  | _ => false
/-- own.extend([..]) -/
def rExt (K : PySem.W.Frag) : V → List V → Hp → VK → Prop := fun x vs H Q => ∃ l b xs zs, x = .ref l ∧ vs = [.ref b] ∧ H l = some (.lst xs) ∧ RdK K H b zs ∧ xs.length + zs.length ≤ sizeLine ∧ Q .non (upd H l (.lst (xs ++ zs)))
def tExt (K : PySem.W.Frag) (a : Addr) (bs : List Bool) : TS := tDrop (tBM K "list" (rExt K) (tVar 1) (tCons (tLst (tIss a bs)) tNil))
/-- all but l is kept -/
def But (l : Addr) (H H' : Hp) : Prop := ∀ b o, b ≠ l → H b = some o → H' b = some o
theorem ext_step {K : PySem.W.Frag} {a l : Addr} {bs cs : List Bool} {σ : L2.St} {H : Hp} {D : Ends} (h0 : σ[0]? = some (some (.ref a))) (h1 : σ[1]? = some (some (.ref l))) (hl : H l = some (.lst (bs.map .bl))) (hz : bs.length + cs.length ≤ 1000)
    (k : ∀ H', But l H H' → H' l = some (.lst ((bs ++ cs).map .bl)) → D.nx σ H') : tExt K a cs D σ H := by
  have big : (1000 : Nat) ≤ sizeLine := by rw [sizeLine_eq]; omega
  refine ⟨_, h1, .inl ⟨rfl, _, .inl (.inl hl)⟩, h0, ⟨by simp; omega, fun q hq => ?_⟩⟩
  have ne : l ≠ q := fun z => by rw [z, hq] at hl; cases hl
  refine ⟨l, q, bs.map .bl, cs.map .bl, rfl, rfl, by rw [upd_ne ne]; exact hl, .inl (.inl upd_same), by simp; omega, k _ (fun b o hb h => ?_) ?_⟩
  · rw [upd_ne hb]
    have : b ≠ q := fun z => by rw [z, hq] at h; cases h
    rw [upd_ne this]
    exact h
  · rw [upd_same, List.map_append]
theorem idx_of : ∀ (c : Str), c ∈ exNames → ∃ k, exIdx c = some k ∧ (exNames.map fun d => c == d).count true = 1 ∧ (exNames.map fun d => c == d)[k]? = some true ∧ ∀ j, j < k → (exNames.map fun d => c == d)[j]? = some false := by
  have h : exNames.all (fun c => match exIdx c with
    | some k => decide ((exNames.map fun d => c == d).count true = 1) && (decide ((exNames.map fun d => c == d)[k]? = some true) && (List.range k).all fun j => decide ((exNames.map fun d => c == d)[j]? = some false))
    | none => false) = true := by decide +kernel
  intro c hc
  have := List.all_eq_true.mp h c hc
  cases e : exIdx c with
  | none => rw [e] at this; cases this
  | some k =>
    rw [e] at this
    simp only [Bool.and_eq_true, decide_eq_true_eq, List.all_eq_true, List.mem_range] at this
    exact ⟨k, rfl, this.1, this.2.1, this.2.2⟩
section
variable {X : Cx} {p : Addr × Obj} {c : Str}
theorem lst_st (l : List Expr) (p : Pos) (es : List Expr) (env : Env) : starEach (.List l p :: es) env = (false, eval (.List l p) env) :: starEach es env := rfl
theorem p_wh (h : WhX X c p) {b : List Stmt} (hb : whB b = true) {k : Nat} (hk : exIdx c = some k) : ∃ t, PSs X b t ∧ ∀ (D : Ends) (σ : L2.St) (H : Hp), σ[0]? = some (some (.ref p.1)) → σ.length = 2 →
    (∀ q H', Same H H' → H q = none → H' q = some (.tup [.str "raised", .int (k : Nat)]) → D.rt (.ref q) H') → t D σ H := by
  unfold whB at hb
  split at hb
  · rename_i o1 p1 l1 p2 p3 o2 p4 x2 a2 l2 p5 c2 p6 o3 p7 x3 a3 l3 p8 c3 p9 o4 p10 x4 a4 l4 p11 c4 p12 o5 p13 x5 a5 j5 p14 c5 j6 p15 p16 f6 p17 e6 p18 v6 p19 p20 p21 p22 rv p23 p24 r7 j7 p25 o7 p26 x7 a7 j8 p27 c7 kk p28 p29
    simp only [Bool.and_eq_true, decide_eq_true_eq] at hb
    obtain ⟨⟨rfl, rfl, rfl, rfl, rfl, rfl, rfl, rfl, rfl, rfl, rfl, rfl, rfl, rfl, rfl⟩, m1, m2, m3, m4, n2, n3, n4, n5, n7⟩ := hb
    have sub1 : ∀ d ∈ exNames.take 3, d ∈ exNames := fun d hd => List.mem_of_mem_take hd
    have sub2 : ∀ d ∈ (exNames.drop 3).take 3, d ∈ exNames := fun d hd => List.mem_of_mem_drop (List.mem_of_mem_take hd)
    have sub3 : ∀ d ∈ (exNames.drop 6).take 3, d ∈ exNames := fun d hd => List.mem_of_mem_drop (List.mem_of_mem_take hd)
    have sub4 : ∀ d ∈ exNames.drop 9, d ∈ exNames := fun d hd => List.mem_of_mem_drop hd
    have nd : X.N.Nodup := by rw [h.N]; decide +kernel
    have ex : ∀ {l : List Expr} {ds : List Str} {pp pq pr : Pos} {aa cc : Pos}, mapO isiB l = some ds → (∀ d ∈ ds, d ∈ exNames) → (aa.endLine == cc.line) = true → PS X (.Expr (.Call (.Attribute (.Name "own" pp) "extend" aa) [.List l pq] [] cc) pr) (tExt X.K p.1 (ds.map fun d => c == d)) := fun {l ds pp pq pr aa cc} hm hs hn =>
      ps_expr (pe_bm PySem.F.plainAttrs_list PySem.F.slot_list_extend PySem.F.type_list_extend (r := rExt X.K) mt_extendR h.own (pa_cons (pe_lst (pa_is h hm hs)) pa_nil) rfl rfl hn rfl rfl)
    refine ⟨_, pss_cons (ps_set (i := 1) nd (by rw [h.N]; rfl) (.inl h.l1) (pe_lst (pa_is h m1 sub1)) rfl (.inl (h.fn _))) (pss_cons (ex m2 sub2 n2) (pss_cons (ex m3 sub3 n3) (pss_cons (ex m4 sub4 n4) (pss_cons
      (ps_if (pw_or (pt_cmpR (op_cmp h.un .NotEq) (pe_bm PySem.F.plainAttrs_list PySem.F.slot_list_count PySem.F.type_list_count mt_countB h.own (pa_cons pe_bl pa_nil) rfl rfl n5 rfl rfl) pe_int rfl) (pw_or1 (pt_not (pt_val (pe_isV h))))).pt pss_never pss_nil)
      (pss_one (ps_ret (pe_tup (pa_cons pe_str (pa_cons (pe_bm PySem.F.plainAttrs_list PySem.F.slot_list_index PySem.F.type_list_index (mt_indexD h.un) h.own (pa_cons pe_bl pa_nil) rfl rfl n7 rfl rfl) pa_nil))))))))), ?_⟩
    intro D σ H s0 sl q
    obtain ⟨k', hk', z1, z2, z3⟩ := idx_of c h.pin.mem
    rw [hk] at hk'
    cases hk'
    have big : (1000 : Nat) ≤ sizeLine := by rw [sizeLine_eq]; omega
    refine ⟨s0, by simp [exNames]; omega, fun l hl => ?_⟩
    have t0 : (σ.set 1 (some (.ref l)))[0]? = some (some (V.ref p.1)) := by rw [List.getElem?_set_ne (by decide)]; exact s0
    have t1 : (σ.set 1 (some (.ref l)))[1]? = some (some (V.ref l)) := List.getElem?_set_self (by omega)
    refine ext_step t0 t1 upd_same (by simp [exNames]) fun H1 b1 e1 => ?_
    refine ext_step t0 t1 e1 (by simp [exNames]) fun H2 b2 e2 => ?_
    refine ext_step t0 t1 e2 (by simp [exNames]) fun H3 b3 e3 => ?_
    have eb : ((exNames.take 3).map (fun d => c == d) ++ ((exNames.drop 3).take 3).map (fun d => c == d) ++ ((exNames.drop 6).take 3).map (fun d => c == d) ++ (exNames.drop 9).map fun d => c == d) = exNames.map fun d => c == d := rfl
    rw [eb] at e3
    have sm : Same H H3 := fun b o hb => by
      have : b ≠ l := fun z => by rw [z, hl] at hb; cases hb
      exact b3 b o this (b2 b o this (b1 b o this (by rw [upd_ne this]; exact hb)))
    refine ⟨_, t1, .inl ⟨rfl, _, .inl (.inl e3)⟩, l, _, rfl, rfl, e3, H3, .int 1, .int 1, false, fun _ _ z => z, ?_, .inl (.int 1), by kernel_rfl, false, rfl, ?_⟩
    · rw [z1]
      exact .inl (.int 1)
    refine Eq.mpr (if_neg (c := (false = true)) (by decide)) ?_
    refine ⟨t0, true, rfl, ?_⟩
    refine Eq.mpr (if_neg (c := ((!true) = true)) (by decide)) ?_
    show tRet (tTup (tCons (tC (V.str "raised")) (tCons (tBM X.K "list" (rIndexD X.K) (tVar 1) (tCons (tC (V.bl true)) tNil)) tNil))) D (σ.set 1 (some (.ref l))) H3
    have dv : ∀ {K : PySem.W.Frag} {G : Hp} (bs : List Bool), DpAll K G (bs.map V.bl) (bs.map PyData.bool) := fun {K G} bs => by
      induction bs with
      | nil => exact .nil
      | cons b bs ih => exact .cons (.bl b) ih
    refine ⟨_, t1, .inl ⟨rfl, _, .inl (.inl e3)⟩, l, .bl true, .bool true, (exNames.map fun d => c == d).map PyData.bool, k, .bool true, rfl, rfl, .lst (.inl (.inl e3)) (dv _), .bl true, by kernel_rfl, rfl, ?_, rfl, fun m z' hm hz' => ?_, by simp; omega, fun t ht => ?_⟩
    · rw [List.getElem?_map, z2]
      rfl
    · rw [List.getElem?_map, z3 m hm] at hz'
      cases hz'
      rfl
    · have hn : H t = none := by
        cases e : H t with
        | none => rfl
        | some o => have := sm _ _ e; rw [ht] at this; cases this
      exact q t _ (fun b o hb => by
        have : b ≠ t := fun z => by rw [z, hn] at hb; cases hb
        rw [upd_ne this]
        exact sm b o hb) hn upd_same
  · cases hb
end
end D

namespace D
open PySem L2 PyProof.Rows
/-- _law_which's scope -/
def scW (sc : Scope) : Bool := sc.kind == .function && !sc.isCoroutine && !sc.isGenerator && (sc.names.lookup ("e" : Str) == some .local) && (sc.names.lookup ("own" : Str) == some .local) && gloB sc "isinstance" && gloB sc "ValueError" && exNames.all (gloB sc) && sc.names.all (fun y => !(y.2 == .free))
theorem scW_fn {sc : Scope} (h : scW sc = true) : FnScope (["e", "own"] : List Str) (["e"] : List Str) sc := by
  unfold scW at h
  simp only [Bool.and_eq_true, Bool.not_eq_true', beq_iff_eq, List.all_eq_true] at h
  obtain ⟨⟨⟨⟨⟨⟨⟨⟨h1, h2⟩, h3⟩, h4⟩, h5⟩, h6⟩, h7⟩, h8⟩, h9⟩ := h
  refine ⟨by simpa using h1, h2, h3, by decide +kernel, rfl, fun x hx => ?_, fun y hy => ?_⟩
  · simp only [List.mem_cons, List.not_mem_nil, or_false] at hx
    subst hx
    exact .inl (by simpa using h4)
  · have := h9 y hy
    simpa using this
/-- what the call of _law_which gives -/
def tWh (i : Nat) (a : Addr) (k : Nat) : TE := fun σ H Q => σ[i]? = some (some (.ref a)) ∧ ∀ t H', Same H H' → H t = none → H' t = some (.tup [.str "raised", .int (k : Nat)]) → Q (.ref t) H'
/-- _law_which as the head leaves it -/
structure Which (K : PySem.W.Frag) (mg : Str → Option Value) (f : Addr) (fd : FuncData) (args : Arguments) (body : List Stmt) (sc : Scope) : Prop where
  F : FunD K "_law_which" "_law_which" args body sc [] [] f fd
  m : mg "_law_which" = some (.ref f)
  bi : Binds K fd (["e"] : List Str) []
  sc : scW sc = true
  sh : whB body = true
  ew : ExW K mg
  fi : mg "isinstance" = none
  fv : mg "ValueError" = none
section
variable {X : Cx} {f : Addr} {fd : FuncData} {args : Arguments} {body : List Stmt} {sc : Scope} {a : Addr} {oe : Obj} {pn : List (Addr × Obj)} {c n : Str} {k i : Nat} {p q pos : Pos}
theorem pe_which (W : Which X.K X.mg f fd args body sc) (hg : Gl X "_law_which") (hr : L2H.RoomH 1 X.A) (hi : X.N[i]? = some n) (hv : Vis X.env.scope n) (hd : (n == ("__debug__" : Str)) = false) (hcd : (n == ("__classdict__" : Str)) = false) (pin : PinE X.K c (a, oe)) (hk : exIdx c = some k) :
    PE (X.suite a ((a, oe) :: pn)) (.Call (.Name "_law_which" p) [.Name n q] [] pos) (tWh i a k) := by
  refine ⟨fun pins s σ H Q I h => ?_⟩
  obtain ⟨h0, h⟩ := h
  refine wpAny_Call_Name_kw (ld_glob I hg W.m ?_ (by decide))
  have pa : PA (X.suite a ((a, oe) :: pn)) [.Name n q] (tCons (tVar i) tNil) := pa_cons (pe_var hi hv hd hcd) pa_nil
  refine PySem.W.callWith_K (h₀ := X.base) I.ok.mod.kin W.F.kp (thn (pa.run pos pins s σ H (fun vs H1 => vs = [V.ref a] ∧ H1 = H) I ⟨_, h0, rfl, rfl⟩) fun us s1 hh => ?_) rfl rfl
  obtain ⟨vs, H1, I1, r, rfl, rfl⟩ := hh
  refine ⟨I1.kIn, ?_⟩
  have b := W.bi s1 us I1.kIn (by rw [List.append_nil, ← r.length]; rfl)
  have hp : (a, oe) ∈ (X.suite a ((a, oe) :: pn)).pn ++ pins := List.mem_append_left _ List.mem_cons_self
  obtain ⟨g1, g2, g3, g4, g5⟩ := I1.pin (a, oe) hp
  have hpin : L2H.PinOk X.stack H1 s1 (a, oe) := ⟨g1, g2, fun hm => (List.mem_cons.mp (I1.stkSub a hm)).elim g3 g4, g5⟩
  have S := scW_fn W.sc
  have sw := W.sc
  unfold scW at sw
  simp only [Bool.and_eq_true, Bool.not_eq_true', beq_iff_eq, List.all_eq_true] at sw
  obtain ⟨⟨⟨⟨⟨⟨⟨⟨_, _⟩, _⟩, e4⟩, e5⟩, e6⟩, e7⟩, e8⟩, _⟩ := sw
  obtain ⟨oc, od, dV, kV, doc, pm, an, cdv, ct, osl, ef, lk, hcd2, _, _⟩ := W.F.ex
  have KX : X.K.In s1.heap := I1.kIn
  have lim : s1.heap.NoLimit := I1.ok.mod.nolimit.keeps fun b o e => (I1.env0.bs b o e).1
  have hkind : ∀ y ∈ (["e"] : List Str).zip us, sc.names.lookup y.1 = some .local ∨ (sc.names.lookup y.1 = some .cell ∧ ((cellsFrom (s1.heap.objs.size + 1) sc.names []).lookup y.1).isSome = true) := fun ⟨n, v⟩ hy => by
    have := (List.of_mem_zip hy).1
    simp only [List.mem_cons, List.not_mem_nil, or_false] at this
    subst this
    exact .inl (by simpa using e4)
  refine wpAny_call (codeAny_mono (R := CR (L2.CX X.prog X.w) X.stack X.prog X.w H1 s1 Q (fun _ _ _ => False)) ?run fun r s' hq => ?_)
  case run =>
    subst ef
    rw [List.append_nil] at b
    refine codeAny_call_function hr.depth (KX _ _ lk) rfl S.co S.gen rfl (PySem.W.codeRec_of KX hcd2) (b _ _ _ _ ?_)
    refine wpAny_newFunctionEnv_cells S.kind hkind fun env he s2 x => ?_
    subst he
    refine ⟨lim.keeps x.toInCall.keep, codeAny_func ?_⟩
    have J := L2H.inv_startH (CX := L2.CX X.prog X.w) (E := fun _ _ _ => False) (N := (["e", "own"] : List Str)) (ps := (["e"] : List Str)) (vs := [V.ref a]) S hpin I1.env0 rfl r x
    have wx : WhX (L2H.cxH (L2.CX X.prog X.w) X.prog X.w X.K X.mg X.base (["e", "own"] : List Str) "_law_which" sc f cdv (X.suite a ((a, oe) :: pn)).A X.stack s1 H1 (fun _ _ _ => False) (a, oe)) c (a, oe) := by
      refine ⟨W.ew, pin, List.mem_cons_self, rfl, e4, e5, ?_, ?_, fun d hd => ?_, W.fi, W.fv, ?_, fun x => rfl⟩
      · unfold gloB at e6
        exact eq_of_beq e6
      · unfold gloB at e7
        exact eq_of_beq e7
      · have := e8 d hd
        unfold gloB at this
        exact eq_of_beq this
      · have := hr.un
        show X.A.units + 3 + 65 < cLine
        omega
    obtain ⟨t, ht, hq⟩ := p_wh wx W.sh hk
    refine wpAny_mono (ht.run [] s2 _ H1 { nx := fun _ _ => False, rt := Q } J (hq _ _ _ rfl rfl fun t H' z1 z2 z3 => h t H' z1 z2 z3)) (fun fl s' hs => ?_) fun e s' hs => hs
    cases fl with
    | ret u =>
      obtain ⟨v, σ', H', J', rv, q⟩ := hs
      exact ⟨v, H', J'.os, J'.bare, J'.base, J'.hok, rv, q⟩
    | next =>
      obtain ⟨_, _, _, q⟩ := hs
      exact q.elim
    | brk =>
      obtain ⟨_, _, _, q⟩ := hs
      exact q.elim
    | cont =>
      obtain ⟨_, _, _, q⟩ := hs
      exact q.elim
  cases r with
  | error e =>
    obtain ⟨_, _, _, _, _, _, _, _, _, _, _, _, z⟩ := hq
    exact z.elim
  | ok fl =>
    cases fl with
    | ret u => exact I1.after hq
    | next => exact hq.elim
    | brk => exact hq.elim
    | cont => exact hq.elim
end
end D

namespace D
open PySem L2 PyProof.Rows
section
variable {X : Cx} {N : En} {Γ : Gam} {kx : KX} {wf : Nat} {K : PySem.W.Frag}
def gT1 (K : PySem.W.Frag) (N : En) (Γ : Gam) (kx : KX) : T1 × Bool → TG
  | (.nm i, _) => gName i
  | (.sub i j, _) => gSub (tVar i) (tV K N Γ kx j) rSetL
def gT1s (K : PySem.W.Frag) (N : En) (Γ : Gam) (kx : KX) : List (T1 × Bool) → TGs
  | [] => gNil
  | t :: ts => gCons (gT1 K N Γ kx t) (gT1s K N Γ kx ts)
/-- a list's place is written -/
theorem sub_ok {i : Nat} {j : E} {x : Slot} {v : V} {G H : Hp} {e : SEnv} {σ : L2.St} {tm : Tm} {Q : L2.St → Hp → Prop} (r : R K N G H e σ ((x, v) :: tm)) (hv : ¬ (!isOwn e i) = true)
    (h : Out K N kx σ tm (evE Γ j e) (fun rv e' => ∃ k io ys n, rv.toW = .int k ∧ e'[i]? = some (some (.own io ys)) ∧ ixN ys.length k = some n ∧
        ∀ H' G', R K N G' H' (e'.set i (some (.own io (ys.set n x.toW)))) σ tm → Q σ H')) : gSub (tVar i) (tV K N Γ kx j) rSetL v σ H Q := by
  obtain ⟨io0, xs0, he0⟩ := isOwn_at hv
  obtain ⟨u, hu, _⟩ := r.slot i _ he0
  obtain ⟨G1, _, r1⟩ := r.frzS
  refine ⟨u, hu, G1, e, _, r1, (h.more (List.sublist_cons_self _ _)).mono fun rv e' p y H' G' r' => ?_⟩
  have dy := r'.tmp _ List.mem_cons_self
  have dv : Dv K G' v x.toW := r'.tmp (.val x.toW, v) (List.mem_cons_of_mem _ List.mem_cons_self)
  obtain ⟨k, io, ys, n, hk, he, hn, p⟩ := p
  rw [hk] at dy
  cases dy
  obtain ⟨v', h1', a', vs', rfl, q1', q2', q3', q4'⟩ := r'.slot i _ he
  rw [hu] at h1'; cases h1'
  refine ⟨a', vs', k, n, rfl, rfl, q2', by rw [q3'.length]; exact hn, ?_⟩
  exact p _ G' (r'.tail.tail.write he hu (q3'.set dv n))
def OutU (K : PySem.W.Frag) (N : En) (kx : KX) (tm : Tm) (r : Res Unit) (Q : L2.St → Hp → Prop) : Prop := match r with
  | .ok _ e' => ∀ σ' H' G', R K N G' H' e' σ' tm → Q σ' H'
  | .exc c e' => ∀ σ' H' G', R K N G' H' e' σ' tm → kx c e' σ' H'
  | .bad => False
theorem OutU.bind {α : Type} {σ : L2.St} {tm : Tm} {r : Res α} {f : α → SEnv → Res Unit} {Q : L2.St → Hp → Prop} (h : OutU K N kx tm (r.bind f) Q) : Out K N kx σ tm r (fun a e' => OutU K N kx tm (f a e') Q) := by
  cases r with
  | ok a e => exact h
  | exc c e => exact fun H' G' q => h σ H' G' q
  | bad => exact h
theorem t1_ok {tm : Tm} {Q : L2.St → Hp → Prop} : ∀ {ts : List (T1 × Bool)} {xs : List Slot} {us : List V} {G H : Hp} {e : SEnv} {σ : L2.St}, R K N G H e σ (xs.zip us ++ tm) → us.length = xs.length →
    OutU K N kx tm (setT1 Γ ts xs e) Q → gT1s K N Γ kx ts us σ H Q
  | [], [], [], G, H, e, σ, r, _, h => ⟨rfl, h σ H G r⟩
  | [], [], _ :: _, _, _, _, _, _, l, _ => by cases l
  | [], _ :: _, _, _, _, _, _, _, _, h => by unfold setT1 at h; exact h.elim
  | (t, m) :: ts, [], _, _, _, _, _, _, _, h => by cases t <;> (unfold setT1 at h; exact h.elim)
  | (t, m) :: ts, x :: xs, [], _, _, _, _, _, l, _ => by cases l
  | (.nm i, m) :: ts, x :: xs, u :: us, G, H, e, σ, r, l, h => by
    refine ⟨u, us, rfl, ?_⟩
    unfold setT1 at h
    split at h
    · rename_i e1 he
      unfold setSlot at he
      split at he
      · rename_i hi
        split at he
        · cases he
          obtain ⟨G1, _, r1⟩ := R.frzS (x := x) (v := u) (tm := xs.zip us ++ tm) r
          exact t1_ok (r1.store hi) (by simpa using l) h
        · cases he
          exact t1_ok (R.store (tm := xs.zip us ++ tm) r hi) (by simpa using l) h
        · cases he
      · cases he
    · exact h.elim
  | (.sub i j, m) :: ts, x :: xs, u :: us, G, H, e, σ, r, l, h => by
    refine ⟨u, us, rfl, ?_⟩
    unfold setT1 at h
    split at h
    · exact h.elim
    · rename_i ho
      unfold gT1
      simp only
      refine sub_ok (tm := xs.zip us ++ tm) r ho ?_
      refine (OutU.bind (σ := σ) h).more (List.sublist_append_right _ _) |>.mono fun rv e' p => ?_
      split at p
      · rename_i k io ys hk he
        split at p
        · rename_i n hn
          exact ⟨k, io, ys, n, hk, he, hn, fun H' G' r' => t1_ok r' (by simpa using l) p⟩
        · exact p.elim
      · exact p.elim
/-- values pushed as pending -/
theorem R.pushAll {G H : Hp} {e : SEnv} {σ : L2.St} {tm : Tm} : ∀ {us : List V} {ws : List W}, R K N G H e σ tm → DvAll K G us ws → R K N G H e σ ((ws.map Slot.val).zip us ++ tm)
  | _, _, r, .nil => r
  | _, _, r, .cons d ds => (R.pushAll r ds).push d
theorem DvAll.len {G : Hp} : ∀ {us : List V} {ws : List W}, DvAll K G us ws → us.length = ws.length
  | _, _, .nil => rfl
  | _, _, .cons _ ds => by simp [DvAll.len ds]
theorem OutS.unit {tm : Tm} {r : Res Unit} {D : Ends} (h : OutS K N kx tm (r.bind fun _ e => .ok .nx e) D) : OutU K N kx tm r D.nx := by
  cases r with
  | ok a e => exact h
  | exc c e => exact h
  | bad => exact h
theorem c_unp {ts : List (T1 × Bool)} {x : E} {σ : L2.St} {H : Hp} {D : Ends} (h : tS K N Γ wf kx (.unp ts x) D σ H) : tE K N Γ kx x σ H (fun v H1 => gTup K ts.length (gT1s K N Γ kx ts) v σ H1 D.nx) := by
  obtain ⟨G, e, tm, r, o⟩ := h
  unfold evS at o
  refine ⟨G, e, tm, r, o.bind.mono fun rv e' p => ?_⟩
  cases rv with
  | t xs =>
    intro t us H' G' h1 h2 h3 h4 r'
    have p : OutS K N kx tm (if xs.length = ts.length then (setT1 Γ ts xs e').bind fun _ e => .ok .nx e else .bad) D := p
    split at p
    · rename_i hl
      exact ⟨t, us, rfl, SqT.of h1, by omega, t1_ok r' h4 p.unit⟩
    · exact p.elim
  | s x =>
    intro v H' G' r'
    have r2 := r'.tail
    have d := r'.tmp _ List.mem_cons_self
    cases x with
    | own io xs => exact p.elim
    | val w =>
      cases w with
      | tuple ws =>
        have p : OutS K N kx tm (if (ws.map Slot.val).length = ts.length then (setT1 Γ ts (ws.map Slot.val) e').bind fun _ e => .ok .nx e else .bad) D := p
        split at p
        · rename_i hl
          have d : Dv K G' v (.tuple ws) := d
          cases d with
          | tup q ds =>
            rename_i a us
            refine ⟨a, us, rfl, sqt_mono r2.sub q, ?_, t1_ok (r2.pushAll ds) ?_ p.unit⟩
            · rw [ds.len]; simpa using hl
            · rw [ds.len]; simp
        · exact p.elim
      | _ => exact p.elim
theorem ss_unp {es : List Expr} {kk : Nat} {ex : Expr} {x : E} {ts : List (T1 × Bool)} {tp pos : Pos} (he : PE X ex (tE X.K N Γ kx x)) (hg : PG X (.Tuple es kk tp) (gTup X.K ts.length (gT1s X.K N Γ kx ts)))
    (hw : swappedStores [.Tuple es kk tp] ex X.env = pure none) (hs : swapsWithSole [.Tuple es kk tp] ex pos.line X.env = pure false) : PS X (.Assign [.Tuple es kk tp] ex pos) (tS X.K N Γ wf kx (.unp ts x)) :=
  ⟨fun pins s σ H D I h => (ps_asg he hg hs hw).run pins s σ H D I (c_unp h)⟩
theorem OutS.nxOnly {tm : Tm} {r : Res Fl} {E1 E2 : Ends} (h : OutS K N kx tm r E1) (h1 : E2.nx = E1.nx) (h2 : E2.rt = E1.rt) : OutS K N kx tm r E2 := by
  cases r with
  | ok a e =>
    cases a with
    | nx => exact fun σ' H' G' q => by rw [h1]; exact h σ' H' G' q
    | rt rv => exact fun σ' => by rw [h2]; exact h σ'
  | exc c e => exact h
  | bad => exact h
/-! ### swapped stores -/
def putAll (σ : L2.St) : List Nat → List V → L2.St
  | i :: is, u :: us => putAll (σ.set i (some u)) is us
  | _, _ => σ
theorem par_ok {H : Hp} {tm : Tm} : ∀ {is : List (Nat × Bool)} {xs : List Slot} {us : List V} {G : Hp} {e e' : SEnv} {σ : L2.St}, R K N G H e σ (xs.zip us ++ tm) → us.length = xs.length → parSet is xs e = some e' →
    us.length = is.length ∧ ∃ G', R K N G' H e' (putAll σ (is.map (·.1)) us) tm
  | [], [], [], G, e, e', σ, r, _, h => by cases h; exact ⟨rfl, G, r⟩
  | [], [], _ :: _, _, _, _, _, _, l, _ => by cases l
  | [], _ :: _, _, _, _, _, _, _, _, h => by cases h
  | _ :: _, [], _, _, _, _, _, _, _, h => by cases h
  | (i, m) :: is, x :: xs, [], _, _, _, _, _, l, _ => by cases l
  | (i, m) :: is, x :: xs, u :: us, G, e, e', σ, r, l, h => by
    unfold parSet at h
    split at h
    · rename_i e1 he
      unfold setSlot at he
      split at he
      · rename_i hi
        split at he
        · cases he
          obtain ⟨G1, _, r1⟩ := R.frzS (x := x) (v := u) (tm := xs.zip us ++ tm) r
          obtain ⟨q1, q2⟩ := par_ok (r1.store hi) (by simpa using l) h
          exact ⟨by simp [q1], q2⟩
        · cases he
          obtain ⟨q1, q2⟩ := par_ok (R.store (tm := xs.zip us ++ tm) r hi) (by simpa using l) h
          exact ⟨by simp [q1], q2⟩
        · cases he
      · cases he
    · cases h
theorem c_par {is : List (Nat × Bool)} {xs : List E} {σ : L2.St} {H : Hp} {D : Ends} (h : tS K N Γ wf kx (.par is xs) D σ H) : tEs K N Γ kx xs σ H (fun us H1 => us.length = is.length ∧ D.nx (putAll σ (is.map (·.1)) us) H1) := by
  obtain ⟨G, e, tm, r, o⟩ := h
  unfold evS at o
  refine ⟨G, e, tm, r, o.bind.mono fun ys e' p us H' G' l r' => ?_⟩
  split at p
  · rename_i e2 he
    obtain ⟨q1, G2, r2⟩ := par_ok r' l he
    exact ⟨q1, p _ H' G2 r2⟩
  · exact p.elim
theorem tEs_mono {xs : List E} {σ : L2.St} {H : Hp} {Q Q' : List V → Hp → Prop} (h : tEs K N Γ kx xs σ H Q) (f : ∀ us H, Q us H → Q' us H) : tEs K N Γ kx xs σ H Q' := by
  obtain ⟨G, e, tm, r, o⟩ := h
  exact ⟨G, e, tm, r, o.mono fun ys e' p us H' G' l r' => f _ _ (p us H' G' l r')⟩
theorem ss_par2 {i j : Nat} {mi mj : Bool} {x y : Str} {a b : Expr} {xs : List E} {px py pt pos : Pos} {kt k2 pt2} (hc : X.calm = true) (hN : X.N.Nodup) (hi : X.N[i]? = some x) (hj : X.N[j]? = some y) (hij : i ≠ j)
    (hx : X.env.scope.names.lookup x = some .local) (hy : X.env.scope.names.lookup y = some .local) (ha : PA X [a, b] (tEs X.K N Γ kx xs))
    (hw : swappedStores [.Tuple [.Name x px, .Name y py] kt pt] (.Tuple [a, b] k2 pt2) X.env = pure (some [x, y])) : PS X (.Assign [.Tuple [.Name x px, .Name y py] kt pt] (.Tuple [a, b] k2 pt2) pos) (tS X.K N Γ wf kx (.par [(i, mi), (j, mj)] xs)) := by
  refine ⟨fun pins s σ H D I h => (ps_par hc hN hi hj hij hx hy ha hw rfl).run pins s σ H D I (tEs_mono (c_par h) fun us H' q => ?_)⟩
  match us, q with
  | [u, v], q => exact ⟨u, v, rfl, q.2⟩
  | [], q => cases q.1
  | [_], q => cases q.1
  | _ :: _ :: _ :: _, q => exact absurd q.1 (by simp)
theorem ss_par3 {i j l : Nat} {mi mj ml : Bool} {x y z : Str} {a b c : Expr} {xs : List E} {px py pz pt pos : Pos} {kt k2 pt2} (hc : X.calm = true) (hN : X.N.Nodup) (hi : X.N[i]? = some x) (hj : X.N[j]? = some y) (hl : X.N[l]? = some z) (hij : i ≠ j) (hil : i ≠ l) (hjl : j ≠ l)
    (hx : X.env.scope.names.lookup x = some .local) (hy : X.env.scope.names.lookup y = some .local) (hz : X.env.scope.names.lookup z = some .local) (ha : PA X [a, b, c] (tEs X.K N Γ kx xs))
    (hw : swappedStores [.Tuple [.Name x px, .Name y py, .Name z pz] kt pt] (.Tuple [a, b, c] k2 pt2) X.env = pure (some [x, y, z])) : PS X (.Assign [.Tuple [.Name x px, .Name y py, .Name z pz] kt pt] (.Tuple [a, b, c] k2 pt2) pos) (tS X.K N Γ wf kx (.par [(i, mi), (j, mj), (l, ml)] xs)) := by
  refine ⟨fun pins s σ H D I h => (ps_par3 hc hN hi hj hl hij hil hjl hx hy hz ha hw rfl).run pins s σ H D I (tEs_mono (c_par h) fun us H' q => ?_)⟩
  match us, q with
  | [u, v, w], q => exact ⟨u, v, w, rfl, q.2⟩
  | [], q => cases q.1
  | [_], q => cases q.1
  | [_, _], q => cases q.1
  | _ :: _ :: _ :: _ :: _, q => exact absurd q.1 (by simp)
/-! ### a list's place -/
theorem ss_sidx {i : Nat} {y : Str} {exj ex : Expr} {j x : E} {p tp pos : Pos} (hN : X.N[i]? = some y) (hv : Vis X.env.scope y) (hd : (y == ("__debug__" : Str)) = false) (hcd : (y == ("__classdict__" : Str)) = false) (he : PE X ex (tE X.K N Γ kx x)) (hj : PE X exj (tE X.K N Γ kx j)) 
    (ha : ∀ v, assign (.Subscript (.Name y p) exj tp) X.env v = (do
      let ov ← holding [v] (eval (.Name y p) X.env)
      let iv ← holding [v, ov] (eval exj X.env)
      standAt tp
      holding [v, ov, iv] (setItem ov iv v)
      release [v, ov, iv] [])) (hs : swapsWithSole [.Subscript (.Name y p) exj tp] ex pos.line X.env = pure false) (hw : swappedStores [.Subscript (.Name y p) exj tp] ex X.env = pure none) : PS X (.Assign [.Subscript (.Name y p) exj tp] ex pos) (tS X.K N Γ wf kx (.sidx i j x)) := by
  refine ⟨fun pins s σ H D I h => (ps_asg he (pg_sub (pe_var hN hv hd hcd) (toV hj) set_list ha) hs hw rfl).run pins s σ H D I ?_⟩
  obtain ⟨G, e, tm, r, o⟩ := h
  unfold evS at o
  refine ⟨G, e, tm, r, o.bind.mono fun rv e1 p => ?_⟩
  split at p
  · exact p.elim
  · rename_i ho
    have key : ∀ {x : Slot} {v : V} {G H : Hp}, R X.K N G H e1 σ ((x, v) :: tm) → x.toW = rv.toW → gSub (tVar i) (tV X.K N Γ kx j) rSetL v σ H D.nx := fun {x v G H} r' hx => by
      refine sub_ok r' ho (p.bind.mono fun rk e2 p => ?_)
      split at p
      · rename_i k io ys hk he
        split at p
        · rename_i n hn
          exact ⟨k, io, ys, n, hk, he, hn, fun H' G' r' => p σ H' G' (by rw [hx] at r'; exact r')⟩
        · exact p.elim
      · exact p.elim
    cases rv with
    | s x =>
      intro v H' G' r'
      exact key r' rfl
    | t xs =>
      intro t us H' G' h1 h2 h3 h4 r'
      obtain ⟨G2, g2, r2, d⟩ := r'.frzAll h4
      cases q : G2 t with
      | none => exact key ((r2.gup h1 q h3).push (.tup (SqT.of upd_same) (d.mono (same_upd q _)))) rfl
      | some o =>
        have z := r2.sub _ _ q
        rw [h1] at z; cases z
        exact key (r2.push (.tup (SqT.of q) d)) rfl
/-! ### loops -/
theorem ss_wh {t : Expr} {body : List Stmt} {xt : E} {xb : List S} {pos : Pos} (hp : PassesOwn (model X.prog X.w) X.A X.env X.xe) (ht : PT X t (tT X.K N Γ kx xt)) (hb : PSs X body (tSs X.K N Γ wf kx xb)) : PS X (.While t body [] pos) (tS X.K N Γ wf kx (.wh xt xb)) := by
  refine ⟨fun pins s σ H D I h => (ps_while hp ht hb).run pins s σ H D I ?_⟩
  obtain ⟨G, e, tm, r, o⟩ := h
  unfold evS at o
  refine ⟨fun m σ H => ∃ G e, R X.K N G H e σ tm ∧ OutS X.K N kx tm (whLoop (fun e => evT Γ xt e) (fun e => evSs Γ wf xb e) m e) D, ⟨wf, G, e, r, o⟩, ?_⟩
  rintro m σ H ⟨G, e, r, o⟩
  cases m with
  | zero => exact o.elim
  | succ m =>
    unfold whLoop at o
    refine ⟨G, e, tm, r, o.bind.mono fun b e' p H' G' r' => ?_⟩
    cases b with
    | false => exact p σ H' G' r'
    | true =>
      rw [if_pos rfl]
      refine ⟨fun σ H => ∃ G e, R X.K N G H e σ tm ∧ OutS X.K N kx tm (whLoop (fun e => evT Γ xt e) (fun e => evSs Γ wf xb e) m e) D, fun σ' H' q => ⟨m, Nat.lt_succ_self m, q⟩, G', e', tm, r', ?_⟩
      have p : OutS X.K N kx tm ((evSs Γ wf xb e').bind fun f e => match f with | .nx => whLoop (fun e => evT Γ xt e) (fun e => evSs Γ wf xb e) m e | .rt r => .ok (.rt r) e) D := p
      have := p.seq (nx := fun σ H => ∃ G e, R X.K N G H e σ tm ∧ OutS X.K N kx tm (whLoop (fun e => evT Γ xt e) (fun e => evSs Γ wf xb e) m e) D) fun e2 σ2 H2 G2 r2 q => ⟨G2, e2, r2, q⟩
      exact this.nxOnly rfl rfl
/-- what is walked by a for is a value -/
def itV : It → Bool
  | .seq (.v _) => true
  | .rng _ => true
  | .enum (.v _) => true
  | .zip (.v _) (.v _) => true
  | _ => false
def allW : List Opd → Bool
  | [] => true
  | .w _ :: os => allW os
  | .r _ :: _ => false
theorem evA_v {x : E} {e e' : SEnv} {o : Opd} (h : evA Γ (.v x) e = .ok o e') : ∃ w, o = .w w := by
  unfold evA at h
  cases q : evE Γ x e with
  | ok a e1 => rw [q] at h; cases h; exact ⟨_, rfl⟩
  | exc c e1 => rw [q] at h; cases h
  | bad => rw [q] at h; cases h
theorem bind_ok {α β : Type} {r : Res α} {f : α → SEnv → Res β} {b : β} {e : SEnv} (h : r.bind f = .ok b e) : ∃ a e1, r = .ok a e1 ∧ f a e1 = .ok b e := by
  cases r with
  | ok a e1 => exact ⟨a, e1, rfl, h⟩
  | exc c e1 => cases h
  | bad => cases h
theorem evIt_w {it : It} (hi : itV it = true) {e e' : SEnv} {p : List Opd × List W × List W} (h : evIt Γ it e = .ok p e') : allW p.1 = true := by
  cases it with
  | seq a =>
    cases a with
    | r i => cases hi
    | v x =>
      unfold evIt at h
      obtain ⟨o, e1, h1, h2⟩ := bind_ok h
      obtain ⟨w, rfl⟩ := evA_v h1
      split at h2
      · split at h2
        · cases h2; rfl
        · cases h2
      · cases h2
  | rng es =>
    unfold evIt at h
    obtain ⟨o, e1, h1, h2⟩ := bind_ok h
    split at h2
    · cases h2; rfl
    · cases h2
  | enum a =>
    cases a with
    | r i => cases hi
    | v x =>
      unfold evIt at h
      obtain ⟨o, e1, h1, h2⟩ := bind_ok h
      obtain ⟨w, rfl⟩ := evA_v h1
      split at h2
      · split at h2
        · cases h2; rfl
        · cases h2
      · cases h2
  | zip a b =>
    cases a with
    | r i => cases hi
    | v x =>
      cases b with
      | r i => cases hi
      | v y =>
        unfold evIt at h
        obtain ⟨o, e1, h1, h2⟩ := bind_ok h
        obtain ⟨o2, e2, h3, h4⟩ := bind_ok h2
        obtain ⟨w, rfl⟩ := evA_v h1
        obtain ⟨w2, rfl⟩ := evA_v h3
        split at h4
        · cases h4; rfl
        · cases h4; rfl
        · cases h4; rfl
        · cases h4; rfl
        · cases h4
theorem opsW {σ σ' : L2.St} : ∀ {os : List Opd} {vs : List V}, allW os = true → OpsR σ os vs → OpsR σ' os vs
  | [], [], _, h => h
  | [], _ :: _, _, h => h
  | .w _ :: os, [], _, h => h
  | .w _ :: os, _ :: vs, hw, h => opsW (os := os) (vs := vs) hw h
  | .r _ :: _, _, hw, _ => by cases hw
theorem getW {e e' : SEnv} : ∀ {os : List Opd} {ws : List W}, allW os = true → getAll e os = some ws → getAll e' os = some ws
  | [], _, _, h => h
  | .w x :: os, ws, hw, h => by
    unfold getAll at h ⊢
    have g1 : (Opd.w x).get e = some x := rfl
    have g2 : (Opd.w x).get e' = some x := rfl
    rw [g1] at h
    rw [g2]
    cases q : getAll e os with
    | none => rw [q] at h; cases h
    | some xs => rw [q] at h; rw [getW (os := os) hw q]; exact h
  | .r _ :: _, _, hw, _ => by cases hw
theorem out_it {it : It} (hi : itV it = true) {σ : L2.St} {tm : Tm} {e : SEnv} {p : List Opd × List W × List W → SEnv → Prop} (h : Out K N kx σ tm (evIt Γ it e) p) : Out K N kx σ tm (evIt Γ it e) (fun q e' => allW q.1 = true ∧ p q e') := by
  cases q : evIt Γ it e with
  | ok a e1 => rw [q] at h; exact ⟨evIt_w hi q, h⟩
  | exc c e1 => rw [q] at h; exact h
  | bad => rw [q] at h; exact h
theorem ss_fr {tg iter : Expr} {t : Tg} {it : It} {body : List Stmt} {xb : List S} {pos : Pos} (hiv : itV it = true) (hp : PassesOwn (model X.prog X.w) X.A X.env X.xe) (hc : X.calm = true) (hi : PI X tg iter (tI X.K N Γ kx it)) (hg : PG X tg (tTg X.K t))
    (hb : PSs X body (tSs X.K N Γ wf kx xb)) (hs : ∀ x, foldedSetIterable iter X.env x = pure x) : PS X (.For tg iter body [] pos) (tS X.K N Γ wf kx (.fr t it xb)) := by
  refine ⟨fun pins s σ H D I h => (ps_for hp hc hi hg hb hs).run pins s σ H D I ?_⟩
  obtain ⟨G, e, tm, r, o⟩ := h
  unfold evS at o
  refine ⟨G, e, tm, r, (out_it hiv o.bind).mono fun p e1 q1 J vs H1 G1 r1 w1 g1 wk => ?_⟩
  obtain ⟨aw, q1⟩ := q1
  obtain ⟨os, ws, items⟩ := p
  simp only at q1 r1 w1 g1 wk aw
  generalize hbody : (fun e => evSs Γ wf xb e) = fb at q1
  refine ⟨fun i m σ H => m = items.length - i ∧ i ≤ items.length ∧ ∃ G e, R X.K N G H e σ (optm os vs ++ tm) ∧ OutS X.K N kx (optm os vs ++ tm) (frLoop fb t (watchOf os ws) (items.drop i) e) D, ⟨items.length, by simp, Nat.zero_le _, G1, e1, r1, by rw [List.drop_zero]; exact q1.more (List.sublist_append_right _ _)⟩, ?_⟩
  rintro i m σ H ⟨rfl, hile, G, e, r, o⟩
  have w2 : OpsR σ os vs := opsW aw w1
  have g2 : getAll e os = some ws := getW aw g1
  obtain ⟨k1, k2⟩ := wk G H e σ tm r w2 g2
  by_cases hl : i < items.length
  · right
    have hd : items.drop i = items[i] :: items.drop (i + 1) := List.drop_eq_getElem_cons hl
    rw [hd] at o
    unfold frLoop at o
    rw [if_pos (show watchOf os ws e from g2)] at o
    obtain ⟨k3, k4⟩ := k2 i items[i] (List.getElem?_eq_getElem hl)
    refine ⟨k3, fun σ H => ∃ G e, R X.K N G H e σ (optm os vs ++ tm) ∧ OutS X.K N kx (optm os vs ++ tm) (frLoop fb t (watchOf os ws) (items.drop (i + 1)) e) D, fun σ' H' q => ⟨items.length - (i + 1), by omega, rfl, hl, q⟩, fun y H' hy => ?_⟩
    obtain ⟨G', _, r'⟩ := k4 y H' hy
    split at o
    · exact o.elim
    · rename_i e2 he2
      refine tg_ok r' he2 fun σ' r2 _ => ?_
      refine ⟨G', e2, _, r2, ?_⟩
      subst hbody
      refine (OutS.seq (nx := fun σ H => ∃ G e, R X.K N G H e σ (optm os vs ++ tm) ∧ OutS X.K N kx (optm os vs ++ tm) (frLoop (fun e => evSs Γ wf xb e) t (watchOf os ws) (items.drop (i + 1)) e) D) (f := fun e => frLoop (fun e => evSs Γ wf xb e) t (watchOf os ws) (items.drop (i + 1)) e) o fun e3 σ3 H3 G3 r3 q3 => ⟨G3, e3, r3, q3⟩).nxOnly rfl rfl
  · left
    have : i = items.length := by omega
    subst this
    rw [List.drop_length] at o
    unfold frLoop at o
    rw [if_pos (show watchOf os ws e from g2)] at o
    exact ⟨k1, o σ H G r⟩
end
end D

namespace D
open PySem L2 PyProof.Rows
theorem idx_mem {c : Str} {k : Nat} (h : exIdx c = some k) : c ∈ exNames := by
  unfold exIdx at h
  obtain ⟨h1, h2, _⟩ := List.findIdx?_eq_some_iff_getElem.mp h
  have : c = exNames[k] := eq_of_beq h2
  rw [this]
  exact List.getElem_mem h1
section
variable {X : Cx} {N : En} {Γ : Gam} {kx : KX} {wf : Nat} {ca : Str → Addr} {n : Str} {i : Nat} {body : List Stmt} {xs : List S} {np p q r p4 pos pos' : Pos}
theorem ss_try (hs : X.stack = X.env :: X.outer) (hf : X.env.frame = some X.env.locals) (hN : X.N.Nodup) (hi : X.N[i]? = some n) (hln : X.env.kindOf n = some .local) (hpe : Gl X "PriceError") (W : ExW X.K X.mg) (hca : ∀ c, ca c = He.ga X.K c)
    (hb : ∀ (kx' : KX) (pn : List (Addr × Obj)) (xe : Value → Shared → Prop), Takes (X.tr pn xe) (wxOf ca kx') → PassesOwn (model X.prog X.w) X.A X.env xe → PSs (X.tr pn xe) body (tSs X.K N Γ wf kx' xs))
    (hw : ∀ a oe c k pn, PinE X.K c (a, oe) → exIdx c = some k → PE (X.suite a ((a, oe) :: pn)) (.Call (.Name "_law_which" p) [.Name n q] [] r) (tWh i a k)) :
    PS X (.Try body [.ExceptHandler (some (.Name "PriceError" np)) (some n) [.Return (some (.Call (.Name "_law_which" p) [.Name n q] [] r)) p4] pos'] [] [] pos) (tS X.K N Γ wf kx (.tr i xs)) := by
  have key := ps_try_as (X := X) (np := np) (pos := pos) (pos' := pos') (suite := []) (b₀ := .Return (some (.Call (.Name "_law_which" p) [.Name n q] [] r)) p4) (body := body) (x := "PriceError") (n := n) (c := .ref (He.ga X.K "PriceError")) (i := i)
    (tb := fun W => tSs X.K N Γ wf (fun c _ σ H => W (.ref (ca c)) none σ H) xs) (ts := fun a cls d D σ H => ∃ c k, exIdx c = some k ∧ cls = .ref (ca c) ∧ d = none ∧ tWh i a k σ H D.rt) (Wout := fun _ _ _ _ => False) hs hf hN hi hln ⟨hpe, by decide, .inl W.pe⟩ (fun u s' x => ?tk) (fun W pn xe t o => ?hb) (fun a oe cls d pn hz hv => ?hsu)
  case tk =>
    obtain ⟨_, _, _, _, _, _, _, _, _, _, _, _, _, _, _, _, z⟩ := x
    exact z.elim
  case hb =>
    refine hb _ pn xe (t.imp fun c d σ H z => ?_) o
    obtain ⟨rfl, c, e, rfl, z⟩ := z
    exact z
  case hsu =>
    refine ⟨fun pins s σ H D I h => ?_⟩
    obtain ⟨c, k, hk, rfl, rfl, h⟩ := h
    exact (pss_one (ps_ret (hw a oe c k pn ⟨idx_mem hk, by rw [← hca]; exact hz, hv⟩ hk))).run pins s σ H D I h
  refine ⟨fun pins s σ H D I h => key.run pins s σ H D I ?_⟩
  obtain ⟨G, e, tm, rr, o⟩ := h
  unfold evS at o
  refine ⟨G, e, tm, rr, ?_⟩
  cases hr : evSs Γ wf xs e with
  | ok f e' =>
    rw [hr] at o
    cases f with
    | nx => exact o
    | rt rv => exact o
  | bad => rw [hr] at o; exact o.elim
  | exc c e' =>
    rw [hr] at o
    intro σ' H' G' r'
    have o : OutS X.K N kx tm (match exIdx c with
      | some k => if i < e'.length then .ok (.rt (.s (.val (raisedW k)))) e' else .bad
      | none => .bad) D := o
    cases hk : exIdx c with
    | none => rw [hk] at o; exact o.elim
    | some k =>
      rw [hk] at o
      simp only at o
      split at o
      · rename_i hlt
        have hc := (W.cl (idx_mem hk)).2.1
        rw [← hca] at hc
        refine ⟨true, hc, fun _ a ha => ⟨c, k, hk, rfl, rfl, List.getElem?_set_self (by rw [← r'.len]; exact hlt), fun t H'' sm hn ht => ?_⟩, fun z => by cases z⟩
        have r2 : R X.K N (upd G' t (.tup [.str "raised", .int (k : Nat)])) H'' e' σ' tm := r'.ext sm (same_upd (r'.gn hn) _) (fun b u z => by
          by_cases hb : b = t
          · subst hb; rw [upd_same] at z; rw [ht]; exact z
          · rw [upd_ne hb] at z; exact sm _ _ (r'.sub _ _ z)) fun b h1 h2 => by
          by_cases hb : b = t
          · subst hb; exact hn
          · rw [upd_ne hb] at h2; exact absurd h1 h2
        exact o σ' (.ref t) H'' _ (r2.push (.tup (SqT.of upd_same) (.cons (.str _) (.cons (.int _) .nil))))
      · exact o.elim
end
end D

namespace D
open PySem L2 PyProof.Rows
/-! ## statements: from the machine's text -/
def isComp : Expr → Bool
  | .ListComp .. => true | .SetComp .. => true | .DictComp .. => true
  | _ => false
/-- a for's iterable, read as a value -/
def cItV (n : Nat) (cf : Cf) (sc : Scope) (tg iter : Expr) : Option It := cItG (fun a => (cE n cf sc a).map .v) n cf sc tg iter
/-- stored from the right -/
def parB (sc : Scope) (ts : List Expr) (e : Expr) : Option (List Expr) := match e with
  | .Tuple vs _ _ =>
    if (ts.length == 2 || ts.length == 3) && vs.length == ts.length && ts.all (fun | .Name x p => sc.names.lookup x == some .local && p.line == (ts.head?.map (·.pos.line)).getD 0 | _ => false)
      && !vs.all (foldedForSure 8) && !vs.all (constantsAlone 8) then some vs else none
  | _ => none
/-- stored from the left -/
def unpB (sc : Scope) (ts : List Expr) (e : Expr) : Bool := match e with
  | .Tuple vs _ _ => !(ts.length == 2 || ts.length == 3) || ts.any (fun | .Name x _ => !(sc.names.lookup x == some .local) | _ => true) || vs.all (foldedForSure 8)
  | _ => true
def cNm (cf : Cf) (sc : Scope) : Expr → Option (Nat × Bool)
  | .Name x _ => if locB sc x then (slotOf cf x).map fun i => (i, cf.mu.contains i) else none
  | _ => none
def cT1 (n : Nat) (cf : Cf) (sc : Scope) : Expr → Option (T1 × Bool)
  | .Name x _ => if locB sc x then (slotOf cf x).map fun i => (.nm i, cf.mu.contains i) else none
  | .Subscript o j _ => if isSlice j then none else match refOf cf sc o, cE n cf sc j with
    | some i, some j => some (.sub i j, false)
    | _, _ => none
  | _ => none
/-- a value that is put under a name of one's own list: item k of a new tuple -/
def cEm (n : Nat) (cf : Cf) (sc : Scope) (m : Bool) (e : Expr) : Option E := match m, e with
  | true, .Subscript a (.Constant (.int (.ofNat k)) _ _) _ => (cE n cf sc a).map (.pk · k)
  | _, e => cE n cf sc e
/-- what is given back: lists of one's own go along -/
def cMv (n : Nat) (cf : Cf) (sc : Scope) (e : Expr) : Option E := match refOf cf sc e with
  | some i => some (.mov i)
  | none => cE n cf sc e
def cRet (n : Nat) (cf : Cf) (sc : Scope) (e : Expr) : Option E := match e with
  | .Tuple es _ _ => (mapO (cMv n cf sc) es).map .tup
  | e => cE n cf sc e
def cAsg (n : Nat) (cf : Cf) (sc : Scope) (tg e : Expr) : Option S := match tg with
  | .Name x _ => if locB sc x then match slotOf cf x with
      | some i => (cEm n cf sc (cf.mu.contains i) e).map (.set i (cf.mu.contains i))
      | none => none
    else none
  | .Subscript o j _ => if isSlice j then none else match refOf cf sc o, cE n cf sc j, cE n cf sc e with
    | some i, some j, some y => some (.sidx i j y)
    | _, _, _ => none
  | .Tuple ts _ _ => match parB sc ts e with
    | some vs => match mapO (cNm cf sc) ts, mapO (cE n cf sc) vs with
      | some is, some ys => if (is.map (·.1)).Nodup then some (.par is ys) else none
      | _, _ => none
    | none => if unpB sc ts e then match mapO (cT1 n cf sc) ts, cE n cf sc e with
      | some ts, some y => some (.unp ts y)
      | _, _ => none
      else none
  | _ => none
def cS (m : Nat) : Nat → Cf → Scope → Stmt → Option S
  | 0, _, _, _ => none
  | n + 1, cf, sc, st => some (((match st with
    | .Assign [tg] e _ => cAsg m cf sc tg e
    | .AugAssign (.Name x _) op e _ => if locB sc x && (op == Operator.Add || op == Operator.Sub) then match slotOf cf x, cE m cf sc e with
        | some i, some y => some (.aug i op y)
        | _, _ => none
      else none
    | .Expr e _ => if isComp e then none else (cE m cf sc e).map .ex
    | .Return none _ => some (.ret none)
    | .Return (some e) _ => (cRet m cf sc e).map fun y => .ret (some y)
    | .If t a b _ => if isIf t then none else match cE m cf sc t, mapO (cS m n cf sc) a, mapO (cS m n cf sc) b with
      | some t, some a, some b => some (.ite t a b)
      | _, _, _ => none
    | .For tg iter body [] _ => match cTg cf sc tg, cItV m cf sc tg iter, mapO (cS m n cf sc) body with
      | some t, some it, some b => if itV it then some (.fr t it b) else none
      | _, _, _ => none
    | .While t body [] _ => if isIf t then none else match cE m cf sc t, mapO (cS m n cf sc) body with
      | some t, some b => some (.wh t b)
      | _, _ => none
    | .Raise (some (.Call (.Name c _) [.Constant (.str _) _ _] [] _)) none _ => if cf.xs.contains c && exNames.contains c && gloB sc c then some (.rai c) else none
    | .Try body [.ExceptHandler (some (.Name x _)) (some y) [.Return (some (.Call (.Name f _) [.Name z _] [] _)) _] _] [] [] _ =>
      if x == ("PriceError" : Str) && (f == ("_law_which" : Str) && (z == y && (cf.xs.contains ("_law_which" : Str) && (gloB sc "PriceError" && (gloB sc "_law_which" && (okName y && sc.names.lookup y == some NameKind.local)))))) then
        match slotOf cf y, mapO (cS m n cf sc) body with
        | some i, some b => some (.tr i b)
        | _, _ => none
      else none
    | .Pass _ => some .pas
    | _ => none) : Option S).getD .nev)
theorem getD_or {α : Type} {o : Option α} {d x : α} (h : some (o.getD d) = some x) : o = some x ∨ x = d := by
  cases o with
  | none => exact .inr (Option.some.inj h).symm
  | some y => exact .inl (by rw [← Option.some.inj h]; rfl)
/-- what is known where a statement stands -/
structure HyS (cf : Cf) (sc : Scope) (Γ : Gam) (k : Nat) (ca : Str → Addr) (kx : KX) (X : Cx) : Prop where
  hy : Hy cf sc Γ k ca kx X
  own : PassesOwn (model X.prog X.w) X.A X.env X.xe
  fn : ∀ x, locB sc x = true → X.fn x = true ∨ X.env.scope.names.lookup x = some .local
  kind : X.env.scope.kind = .function
  rai : ∀ c ∈ cf.xs, c ∈ exNames → gloB sc c = true → ∀ pn xe m j p1 p2 p3, PMk (X.tr pn xe) (.Call (.Name c p1) [.Constant (.str m) j p2] [] p3) (fun σ H Q => Q (.ref (ca c)) none H)
  stk : X.stack = X.env :: X.outer
  frm : X.env.frame = some X.env.locals
  cae : ∀ c, ca c = He.ga X.K c
  wh : cf.xs.contains ("_law_which" : Str) = true → gloB sc "_law_which" = true → ExW X.K X.mg ∧ ∀ a oe c k pn i n p q r, X.N[i]? = some n → Vis X.env.scope n → (n == ("__debug__" : Str)) = false → (n == ("__classdict__" : Str)) = false → PinE X.K c (a, oe) → exIdx c = some k →
    PE (X.suite a ((a, oe) :: pn)) (.Call (.Name "_law_which" p) [.Name n q] [] r) (tWh i a k)
theorem Hy.tr {cf : Cf} {sc : Scope} {Γ : Gam} {k : Nat} {ca : Str → Addr} {kx kx' : KX} {X : Cx} (h : Hy cf sc Γ k ca kx X) {pn : List (Addr × Obj)} {xe : Value → Shared → Prop} (t : Takes (X.tr pn xe) (wxOf ca kx')) : Hy cf sc Γ k ca kx' (X.tr pn xe) :=
  ⟨h.N, h.nd, h.sc, h.calm, h.room, h.bl, h.gl, h.fs, t, h.aa, h.ms, h.cs⟩
theorem HyS.tr {cf : Cf} {sc : Scope} {Γ : Gam} {k : Nat} {ca : Str → Addr} {kx kx' : KX} {X : Cx} (h : HyS cf sc Γ k ca kx X) {pn : List (Addr × Obj)} {xe : Value → Shared → Prop} (t : Takes (X.tr pn xe) (wxOf ca kx')) (o : PassesOwn (model X.prog X.w) X.A X.env xe) : HyS cf sc Γ k ca kx' (X.tr pn xe) :=
  ⟨h.hy.tr t, o, h.fn, h.kind, fun c h1 h2 h3 pn xe => h.rai c h1 h2 h3 pn xe, h.stk, h.frm, h.cae, h.wh⟩
section
variable {Γ : Gam} {N : En} {ca : Str → Addr} {k : Nat} {cf : Cf} {sc : Scope} {kx : KX} {X : Cx} {n m wf : Nat}
theorem HyS.loc (h : HyS cf sc Γ k ca kx X) : ∀ x, locB sc x = true → Loc X.env.scope x ∧ (X.fn x = true ∨ X.env.scope.names.lookup x = some .local) := fun x hx => ⟨by rw [h.hy.sc]; exact loc_of hx, h.fn x hx⟩
theorem HyS.blk (h : HyS cf sc Γ k ca kx X) : X.env.blockKind = .function := by
  unfold Env.blockKind
  rw [h.kind]
  rfl
theorem loc_vis {x : Str} (h : locB sc x = true) : visB sc x = true := by
  unfold locB at h
  unfold visB
  split at h
  · rename_i q; rw [q]
  · rename_i q; rw [q]
  · cases h
theorem Hy.nomu (h : Hy cf sc Γ k ca kx X) : Hy { cf with mu := [] } sc Γ k ca kx X := ⟨h.N, h.nd, h.sc, h.calm, h.room, h.bl, h.gl, h.fs, h.wish, h.aa, h.ms, h.cs⟩
theorem sw_comp {ex : Expr} {t : Option Expr} {l : Nat} {env : Env} (h : isComp ex = false) : swapsWith ex t l env = pure false := by
  cases ex <;> first | rfl | cases h
theorem sw_tup {ex : Expr} {es : List Expr} {kk : Nat} {p : Pos} {l : Nat} {env : Env} : swapsWithSole [.Tuple es kk p] ex l env = pure false := by
  show swapsWith ex (some (.Tuple es kk p)) l env = pure false
  cases ex <;> rfl
theorem sw_sub {ex o i : Expr} {p : Pos} {l : Nat} {env : Env} : swapsWithSole [.Subscript o i p] ex l env = pure false := by
  show swapsWith ex (some (.Subscript o i p)) l env = pure false
  cases ex <;> rfl
theorem sts_sub {ex o i : Expr} {p : Pos} {env : Env} : swappedStores [.Subscript o i p] ex env = pure none := by
  cases ex <;> rfl
theorem sts_unp {ex : Expr} {ts : List Expr} {kk : Nat} {p : Pos} {env : Env} (hsc : env.scope = sc) (h : unpB sc ts ex = true) : swappedStores [.Tuple ts kk p] ex env = pure none := by
  cases ex with
  | Tuple vs k2 p2 =>
    unfold swappedStores
    simp only [pure_bind]
    have h : (!(ts.length == 2 || ts.length == 3) || ts.any (fun | .Name x _ => !(sc.names.lookup x == some .local) | _ => true) || vs.all (foldedForSure 8)) = true := h
    split
    · rfl
    · rename_i h1
      split
      · rfl
      · split
        · rfl
        · rename_i h3
          split
          · rfl
          · rename_i h4
            exfalso
            simp only [Bool.or_eq_true] at h
            rcases h with (h | h) | h
            · simp only [h, Bool.true_or, not_true_eq_false] at h1
            · simp only [Bool.or_eq_true, bne_iff_ne, ne_eq, not_or, Decidable.not_not] at h3
              have h3 := h3.1
              rw [List.filterMap_length_eq_length] at h3
              obtain ⟨e, he, h⟩ := List.any_eq_true.mp h
              have := h3 e he
              cases e with
              | Name x p =>
                have this : (if (env.kindOf x == some .local && p.line == (ts.head?.map (·.pos.line)).getD 0) = true then some x else none).isSome = true := this
                have h : (!(sc.names.lookup x == some .local)) = true := h
                rw [show env.kindOf x = sc.names.lookup x by rw [← hsc]; rfl] at this
                split at this
                · rename_i q
                  simp only [Bool.and_eq_true] at q
                  rw [q.1] at h
                  exact absurd h Bool.false_ne_true
                · exact absurd this Bool.false_ne_true
              | _ => exact absurd this Bool.false_ne_true
            · exact h4 h
  | _ => rfl
def noSt (es : List Expr) : Prop := ∀ e ∈ es, ∀ v p, e ≠ .Starred v p
theorem dups2 {x y : Str} (hn : x ≠ y) : ([x, y] : List Str).eraseDups = [x, y] := by
  rw [List.eraseDups_cons]
  have : ([y].filter fun b => !b == x) = [y] := by simp [List.filter_cons, Ne.symm hn]
  rw [this]
  rfl
theorem dups3 {x y z : Str} (hn : x ≠ y) (hn2 : x ≠ z) (hn3 : y ≠ z) : ([x, y, z] : List Str).eraseDups = [x, y, z] := by
  rw [List.eraseDups_cons]
  have q : ([y, z].filter fun b => !b == x) = [y, z] := by simp [List.filter_cons, Ne.symm hn, Ne.symm hn2]
  rw [q, dups2 hn3]
theorem sts_par2 {a b : Expr} {x y : Str} {kk k2 : Nat} {px py p p2 : Pos} {env : Env} (hb : env.blockKind = .function) (hx : env.scope.names.lookup x = some .local) (hy : env.scope.names.lookup y = some .local) (hl : (py.line == px.line) = true) (hn : x ≠ y)
    (hst : noSt [a, b]) (hf : [a, b].all (foldedForSure 8) = false) (hc : [a, b].all (constantsAlone 8) = false) :
    swappedStores [.Tuple [.Name x px, .Name y py] kk p] (.Tuple [a, b] k2 p2) env = pure (some [x, y]) := by
  have fm : ∀ f : Expr → Option Str, f (.Name x px) = some x → f (.Name y py) = some y → [Expr.Name x px, .Name y py].filterMap f = [x, y] := fun f h1 h2 => by simp [List.filterMap_cons, h1, h2]
  have kx : (env.kindOf x == some .local && px.line == px.line) = true := by
    rw [show env.kindOf x = some .local from hx]; simp
  have ky : (env.kindOf y == some .local && py.line == px.line) = true := by
    rw [show env.kindOf y = some .local from hy, hl]; rfl
  unfold swappedStores
  simp only [pure_bind]
  rw [if_neg, if_neg, fm, if_neg, if_neg, if_neg]
  · rw [hc]; exact Bool.false_ne_true
  · rw [hf]; exact Bool.false_ne_true
  · rw [dups2 hn]; exact Bool.false_ne_true
  · exact if_pos kx
  · exact if_pos ky
  · intro h
    obtain ⟨e, h1, h2⟩ := List.any_eq_true.mp h
    have := hst e h1
    cases e <;> first | exact absurd h2 Bool.false_ne_true | exact this _ _ rfl
  · rw [hb]; exact Bool.false_ne_true
theorem sts_par3 {a b c : Expr} {x y z : Str} {kk k2 : Nat} {px py pz p p2 : Pos} {env : Env} (hb : env.blockKind = .function) (hx : env.scope.names.lookup x = some .local) (hy : env.scope.names.lookup y = some .local) (hz : env.scope.names.lookup z = some .local) (hl : (py.line == px.line) = true) (hl2 : (pz.line == px.line) = true) (hn : x ≠ y) (hn2 : x ≠ z) (hn3 : y ≠ z)
    (hst : noSt [a, b, c]) (hf : [a, b, c].all (foldedForSure 8) = false) (hc : [a, b, c].all (constantsAlone 8) = false) :
    swappedStores [.Tuple [.Name x px, .Name y py, .Name z pz] kk p] (.Tuple [a, b, c] k2 p2) env = pure (some [x, y, z]) := by
  have fm : ∀ f : Expr → Option Str, f (.Name x px) = some x → f (.Name y py) = some y → f (.Name z pz) = some z → [Expr.Name x px, .Name y py, .Name z pz].filterMap f = [x, y, z] := fun f h1 h2 h3 => by simp [List.filterMap_cons, h1, h2, h3]
  have kx : (env.kindOf x == some .local && px.line == px.line) = true := by
    rw [show env.kindOf x = some .local from hx]; simp
  have ky : (env.kindOf y == some .local && py.line == px.line) = true := by
    rw [show env.kindOf y = some .local from hy, hl]; rfl
  have kz : (env.kindOf z == some .local && pz.line == px.line) = true := by
    rw [show env.kindOf z = some .local from hz, hl2]; rfl
  unfold swappedStores
  simp only [pure_bind]
  rw [if_neg, if_neg, fm, if_neg, if_neg, if_neg]
  · rw [hc]; exact Bool.false_ne_true
  · rw [hf]; exact Bool.false_ne_true
  · rw [dups3 hn hn2 hn3]; exact Bool.false_ne_true
  · exact if_pos kx
  · exact if_pos ky
  · exact if_pos kz
  · intro h
    obtain ⟨e, h1, h2⟩ := List.any_eq_true.mp h
    have := hst e h1
    cases e <;> first | exact absurd h2 Bool.false_ne_true | exact this _ _ rfl
  · rw [hb]; exact Bool.false_ne_true
theorem nostarB {es : List Expr} {xs : List E} (h : mapO (cE n cf sc) es = some xs) : noSt es := by
  induction es generalizing xs with
  | nil => intro e he; cases he
  | cons e es ih =>
    obtain ⟨x, xs', h1, h2, rfl⟩ := mapO_cons h
    intro e' he' v p hh
    rcases List.mem_cons.mp he' with rfl | he'
    · subst hh
      cases n with
      | zero => cases h1
      | succ n => cases h1
    · exact ih h2 e' he' v p hh
theorem t1_pgs {hy : HyS cf sc Γ k ca kx X} {es : List Expr} {ts : List (T1 × Bool)} (h : mapO (cT1 n cf sc) es = some ts) : PGs X es (gT1s X.K N Γ kx ts) ∧ (assignEach es X.env).length = ts.length ∧ (assignEach es X.env).findIdx? (·.1) = none := by
  induction es generalizing ts with
  | nil => cases h; exact ⟨pgs_nil, rfl, rfl⟩
  | cons e es ih =>
    obtain ⟨t, ts', h1, h2, rfl⟩ := mapO_cons h
    obtain ⟨q1, q2, q3⟩ := ih h2
    cases e with
    | Name x p =>
      have h1 : (if locB sc x then (slotOf cf x).map fun i => (T1.nm i, cf.mu.contains i) else none) = some t := h1
      split at h1
      · rename_i hx
        obtain ⟨i, h3, rfl⟩ := Option.map_eq_some_iff.mp h1
        obtain ⟨l1, l2⟩ := hy.loc x hx
        refine ⟨pgs_cons (pg_name (by rw [hy.hy.N]; exact hy.hy.nd) (by rw [hy.hy.N]; exact slot_at h3) l1 l2) q1 rfl, ?_, ?_⟩
        · show (assignEach es X.env).length + 1 = ts'.length + 1
          rw [q2]
        · show List.findIdx? (·.1) ((false, assign (.Name x p) X.env) :: assignEach es X.env) = none
          rw [List.findIdx?_cons]
          simp [q3]
      · cases h1
    | Subscript o j p =>
      have h1 : (if isSlice j then none else match refOf cf sc o, cE n cf sc j with
        | some i, some j => some (T1.sub i j, false)
        | _, _ => none) = some t := h1
      split at h1
      · cases h1
      · rename_i hsl
        split at h1
        · rename_i i j' h3 h4
          cases h1
          obtain ⟨y, py, rfl, v1, v2, v3⟩ := ref_name h3
          obtain ⟨n1, n2, n3⟩ := names_ok v2
          have a1 : X.N[i]? = some y := by rw [hy.hy.N]; exact slot_at v3
          have a2 : Vis X.env.scope y := by rw [hy.hy.sc]; exact vis_of v1
          have ha : ∀ v, assign (.Subscript (.Name y py) j p) X.env v = (do
              let ov ← holding [v] (eval (.Name y py) X.env)
              let iv ← holding [v, ov] (eval j X.env)
              standAt p
              holding [v, ov, iv] (setItem ov iv v)
              release [v, ov, iv] []) := fun v => by
            cases j <;> first | rfl | exact absurd rfl hsl
          refine ⟨pgs_cons (pg_sub (pe_var a1 a2 n1 n2) (toV (sound_E n cf sc j j' h4 X kx hy.hy).1) set_list ha) q1 rfl, ?_, ?_⟩
          · show (assignEach es X.env).length + 1 = ts'.length + 1
            rw [q2]
          · show List.findIdx? (·.1) ((false, assign (.Subscript (.Name y py) j p) X.env) :: assignEach es X.env) = none
            rw [List.findIdx?_cons]
            simp [q3]
        · cases h1
    | _ => cases h1
end
end D

namespace D
open PySem L2 PyProof.Rows
section
variable {Γ : Gam} {N : En} {ca : Str → Addr} {k : Nat} {cf : Cf} {sc : Scope} {kx : KX} {X : Cx} {n m wf : Nat}
theorem len2 {α : Type} {l : List α} (h : l.length = 2) : ∃ a b, l = [a, b] := by
  match l, h with
  | [a, b], _ => exact ⟨a, b, rfl⟩
theorem len3 {α : Type} {l : List α} (h : l.length = 3) : ∃ a b c, l = [a, b, c] := by
  match l, h with
  | [a, b, c], _ => exact ⟨a, b, c, rfl⟩
theorem nm_at {es : List Expr} {is : List (Nat × Bool)} (h : mapO (cNm cf sc) es = some is) : ∀ (j : Nat) (e : Expr), es[j]? = some e → ∃ x p i b, e = .Name x p ∧ is[j]? = some (i, b) ∧ slotOf cf x = some i := by
  induction es generalizing is with
  | nil => intro j e he; cases he
  | cons e es ih =>
    obtain ⟨t, ts', h1, h2, rfl⟩ := mapO_cons h
    intro j e' he'
    cases j with
    | zero =>
      cases he'
      cases e with
      | Name x p =>
        have h1 : (if locB sc x then (slotOf cf x).map fun i => (i, cf.mu.contains i) else none) = some t := h1
        split at h1
        · obtain ⟨i, h3, rfl⟩ := Option.map_eq_some_iff.mp h1
          exact ⟨x, p, i, _, rfl, rfl, h3⟩
        · cases h1
      | _ => cases h1
    | succ j => exact ih h2 j e' he'
theorem cEm_comp {mu : Bool} {ex : Expr} (h : isComp ex = true) : cEm m cf sc mu ex = cE m cf sc ex := by
  cases mu <;> cases ex <;> first | rfl | cases h
theorem sound_Em {mu : Bool} {ex : Expr} {x : E} (h : cEm m cf sc mu ex = some x) (hy : HyS cf sc Γ k ca kx X) : PE X ex (tE X.K N Γ kx x) := by
  unfold cEm at h
  split at h
  · rename_i a kk p1 p2 p3
    obtain ⟨y, h1, rfl⟩ := Option.map_eq_some_iff.mp h
    refine s_pk (sound_E (N := N) m cf sc a y h1 X kx hy.hy).1 pe_int ?_
    intro o i
    rfl
  · exact (sound_E (N := N) m cf sc ex x h X kx hy.hy).1
theorem sound_Mv (hy : HyS cf sc Γ k ca kx X) : ∀ {es : List Expr} {xs : List E}, mapO (cMv m cf sc) es = some xs → PA X es (tEs X.K N Γ kx xs)
  | [], xs, h => by cases h; exact se_nil
  | ex :: es, xs, h => by
    obtain ⟨x, xs', h1, h2, rfl⟩ := mapO_cons h
    unfold cMv at h1
    split at h1
    · rename_i i hr
      cases h1
      obtain ⟨y, p, rfl, v1, v2, v3⟩ := ref_name hr
      obtain ⟨n1, n2, n3⟩ := names_ok v2
      exact se_cons (s_mov (by rw [hy.hy.N]; exact slot_at v3) (by rw [hy.hy.sc]; exact vis_of v1) n1 n2) (sound_Mv hy h2) (star_ref hr es X.env)
    · exact se_cons (sound_E (N := N) m cf sc ex x h1 X kx hy.hy).1 (sound_Mv hy h2) (star_cE h1 es X.env)
theorem sound_Ret {ex : Expr} {x : E} (h : cRet m cf sc ex = some x) (hy : HyS cf sc Γ k ca kx X) : PE X ex (tE X.K N Γ kx x) := by
  unfold cRet at h
  split at h
  · obtain ⟨y, h1, rfl⟩ := Option.map_eq_some_iff.mp h
    exact s_tup (sound_Mv hy h1)
  · exact (sound_E (N := N) m cf sc ex x h X kx hy.hy).1
theorem sound_asg {tg ex : Expr} {x : S} {pos : Pos} (h : cAsg m cf sc tg ex = some x) (hy : HyS cf sc Γ k ca kx X) : PS X (.Assign [tg] ex pos) (tS X.K N Γ wf kx x) := by
  have hN : X.N.Nodup := by rw [hy.hy.N]; exact hy.hy.nd
  have sE := fun {e y} (h : cE m cf sc e = some y) => (sound_E (N := N) m cf sc e y h X kx hy.hy).1
  unfold cAsg at h
  split at h
  · -- a name
    rename_i y p
    split at h
    · rename_i hl
      split at h
      · rename_i i h1
        obtain ⟨z, h2', rfl⟩ := Option.map_eq_some_iff.mp h
        obtain ⟨l1, l2⟩ := hy.loc y hl
        have hi : X.N[i]? = some y := by rw [hy.hy.N]; exact slot_at h1
        by_cases hcp : isComp ex = true
        · have h2 : cE m cf sc ex = some z := by rw [← cEm_comp hcp]; exact h2'
          cases ex with
          | ListComp elt gens scope p2 =>
            have hsw : swapsWith (.ListComp elt gens scope p2) (some (.Name y p)) pos.line X.env = pure (X.env.blockKind == .function && X.env.kindOf y == some .local && p.line == (Expr.ListComp elt gens scope p2).pos.line
                && !(scope.names.any fun (n, k) => n == y && (k == .local || k == .cell))) := rfl
            cases hb : (X.env.blockKind == .function && X.env.kindOf y == some .local && p.line == (Expr.ListComp elt gens scope p2).pos.line && !(scope.names.any fun (n, k) => n == y && (k == .local || k == .cell))) with
            | false =>
              rw [hb] at hsw
              exact ss_set hN hi l1 (sE h2) hsw l2
            | true =>
              rw [hb] at hsw
              have hloc : X.env.scope.names.lookup y = some .local := by
                simp only [Bool.and_eq_true, beq_iff_eq] at hb
                exact hb.1.1.2
              cases m with
              | zero => cases h2
              | succ m =>
              rw [cE_lc] at h2
              split at h2
              · rename_i g
                obtain ⟨tg, iter, ifs, as⟩ := g
                simp only at h2
                split at h2
                · rename_i has
                  have has : as = 0 := by simpa using has
                  subst has
                  split at h2
                  · rename_i own it k1 k2
                    split at h2
                    · rename_i hbk
                      simp only [Bool.and_eq_true, Bool.not_eq_true'] at hbk
                      obtain ⟨hbk, hif⟩ := hbk
                      split at h2
                      · rename_i t yy fs h3 h4 h5
                        split at h2
                        · rename_i hlen
                          cases h2
                          have ih := sound_E (Γ := Γ) (N := N) (ca := ca) (k := k) m
                          have hyy := hy.hy
                          have pi := ih.it (kx := kx) k2 hyy
                          have bo : BlkOk X.N X.env.scope scope own := by rw [hyy.N, hyy.sc]; exact blk_ok hbk
                          have pg := fun s H C cl fp => tg_pg (cf := cf) (sc := scope) (X := X.blk s H scope (compEnvC scope cl C X.env) fp) h3 hyy.N hyy.nd hyy.calm (loc_blk (sc0 := sc) s H C cl fp)
                          have pe := fun s H C cl fp => (ih cf _ elt yy h4 _ kxF (hyy.in_blk s H scope C cl fp)).1
                          have pts : ∀ (s : Shared) (H : Hp) (C : Addr) (cl : List (Str × Addr)) (fp : List Addr), PTs (X.blk s H scope (compEnvC scope cl C X.env) fp) ifs (tIfs X.K N Γ kxF fs) := fun s H C cl fp => by
                            match ifs, fs, h5, hif, hlen with
                            | [], fs, h5, _, _ => cases h5; exact si_nil
                            | [e], fs, h5, hif, _ =>
                              obtain ⟨z, zs, k1, k2, rfl⟩ := mapO_cons h5
                              cases k2
                              exact si_one ((ih cf _ e z k1 _ kxF (hyy.in_blk s H scope C cl fp)).2.1 (by simpa using hif))
                            | _ :: _ :: _, fs, h5, _, hl =>
                              have := mapO_len h5
                              rw [this] at hl
                              simp at hl
                          exact ⟨fun pins s σ H D I h1 => (ps_setLc hyy.calm hN hi hloc hsw pi bo pg pts (fun s H C cl fp => toV (pe s H C cl fp)) (fold_it (cIt_noset k2))).run pins s σ H D I ((s_lc (N := N) (Γ := Γ) (kx := kx) (pos := p2) hyy.calm hN pi bo pg pts pe (fold_it (cIt_noset k2)) (own_ix h3 k1)).2 (c_set h1))⟩
                        · cases h2
                      · cases h2
                    · cases h2
                  · cases h2
                · cases h2
              · cases h2
          | SetComp => cases m <;> cases h2
          | DictComp => cases m <;> cases h2
          | _ => cases hcp
        · exact ss_set hN hi l1 (sound_Em h2' hy) (sw_comp (by simpa using hcp)) l2
      · cases h
    · cases h
  · -- a place
    rename_i o j p
    split at h
    · cases h
    · rename_i hsl
      split at h
      · rename_i i xj y h1 h2 h3
        cases h
        obtain ⟨z, pz, rfl, v1, v2, v3⟩ := ref_name h1
        obtain ⟨n1, n2, n3⟩ := names_ok v2
        refine ss_sidx (by rw [hy.hy.N]; exact slot_at v3) (by rw [hy.hy.sc]; exact vis_of v1) n1 n2 (sE h3) (sE h2) (fun v => ?_) sw_sub sts_sub
        cases j <;> first | rfl | exact absurd rfl hsl
      · cases h
  · -- several
    rename_i ts kk p
    split at h
    · rename_i vs hpar
      split at h
      · rename_i is ys h1 h2
        split at h
        · rename_i hnd
          cases h
          unfold parB at hpar
          split at hpar
          · rename_i vs' k2 p2
            split at hpar
            · rename_i hc
              cases hpar
              simp only [Bool.and_eq_true, Bool.not_eq_true', beq_iff_eq, Bool.or_eq_true, List.all_eq_true] at hc
              obtain ⟨⟨⟨⟨c1, c2⟩, c3⟩, c4⟩, c5⟩ := hc
              have cx : ∀ {x p}, Expr.Name x p ∈ ts → X.env.scope.names.lookup x = some .local ∧ (p.line == (ts.head?.map (·.pos.line)).getD 0) = true := fun {x p} hm => by
                have := c3 _ hm
                simp only [Bool.and_eq_true] at this
                exact ⟨by rw [hy.hy.sc]; simpa using this.1, this.2⟩
              have ea := (sound_E (Γ := Γ) (N := N) (ca := ca) (k := k) m).es hy.hy h2
              have hne : ∀ {x y : Str} {i j : Nat}, slotOf cf x = some i → slotOf cf y = some j → i ≠ j → x ≠ y := fun a b c d => by subst d; rw [a] at b; cases b; exact c rfl
              rcases c1 with c1 | c1
              · obtain ⟨e1, e2, rfl⟩ := len2 c1
                obtain ⟨a, b, rfl⟩ := len2 (c2.trans c1)
                · skip
                  obtain ⟨x1, p1, i1, b1, rfl, q1, s1⟩ := nm_at h1 0 e1 rfl
                  obtain ⟨x2, p2', i2, b2, rfl, q2, s2⟩ := nm_at h1 1 e2 rfl
                  have hl := mapO_len h1
                  match is, hl, q1, q2, hnd with
                  | [(_, _), (_, _)], _, q1, q2, hnd =>
                    cases q1; cases q2
                    have hij : i1 ≠ i2 := by simpa using hnd
                    obtain ⟨m1, m2⟩ := cx (x := x1) (p := p1) (by simp)
                    obtain ⟨m3, m4⟩ := cx (x := x2) (p := p2') (by simp)
                    exact ss_par2 hy.hy.calm hN (by rw [hy.hy.N]; exact slot_at s1) (by rw [hy.hy.N]; exact slot_at s2) hij m1 m3 ea (sts_par2 hy.blk m1 m3 m4 (hne s1 s2 hij) (nostarB h2) c4 c5)
              · obtain ⟨e1, e2, e3, rfl⟩ := len3 c1
                obtain ⟨a, b, c, rfl⟩ := len3 (c2.trans c1)
                · skip
                  obtain ⟨x1, p1, i1, b1, rfl, q1, s1⟩ := nm_at h1 0 e1 rfl
                  obtain ⟨x2, p2', i2, b2, rfl, q2, s2⟩ := nm_at h1 1 e2 rfl
                  obtain ⟨x3, p3', i3, b3, rfl, q3, s3⟩ := nm_at h1 2 e3 rfl
                  have hl := mapO_len h1
                  match is, hl, q1, q2, q3, hnd with
                  | [(_, _), (_, _), (_, _)], _, q1, q2, q3, hnd =>
                    cases q1; cases q2; cases q3
                    have hij : (i1 ≠ i2 ∧ i1 ≠ i3) ∧ i2 ≠ i3 := by
                      simp only [List.map_cons, List.map_nil, List.nodup_cons, List.mem_cons, List.not_mem_nil, or_false, not_or, not_false_eq_true, List.nodup_nil, and_true] at hnd
                      exact hnd
                    obtain ⟨m1, m2⟩ := cx (x := x1) (p := p1) (by simp)
                    obtain ⟨m3, m4⟩ := cx (x := x2) (p := p2') (by simp)
                    obtain ⟨m5, m6⟩ := cx (x := x3) (p := p3') (by simp)
                    exact ss_par3 hy.hy.calm hN (by rw [hy.hy.N]; exact slot_at s1) (by rw [hy.hy.N]; exact slot_at s2) (by rw [hy.hy.N]; exact slot_at s3) hij.1.1 hij.1.2 hij.2 m1 m3 m5 ea (sts_par3 hy.blk m1 m3 m5 m4 m6 (hne s1 s2 hij.1.1) (hne s1 s3 hij.1.2) (hne s2 s3 hij.2) (nostarB h2) c4 c5)
            · cases hpar
          · cases hpar
        · cases h
      · cases h
    · split at h
      · rename_i hu
        split at h
        · rename_i ts' y h1 h2
          cases h
          obtain ⟨q1, q2, q3⟩ := t1_pgs (N := N) (hy := hy) h1
          exact ss_unp (sE h2) (pg_tup hy.hy.calm q1 q2 q3) (sts_unp hy.hy.sc hu) sw_tup
        · cases h
      · cases h
  · cases h
theorem sound_S : ∀ n, ∀ (kx : KX) (X : Cx) st x, cS m n cf sc st = some x → HyS cf sc Γ k ca kx X → PS X st (tS X.K N Γ wf kx x) := by
  intro n
  induction n with
  | zero => intro kx X st x h; cases h
  | succ n ih =>
    intro kx X st x h hy
    have hN : X.N.Nodup := by rw [hy.hy.N]; exact hy.hy.nd
    have sE := fun {e y} (h : cE m cf sc e = some y) => (sound_E (N := N) m cf sc e y h X kx hy.hy).1
    have sT := fun {e y} (h : cE m cf sc e = some y) => (sound_E (N := N) m cf sc e y h X kx hy.hy).2.1
    have ssX : ∀ {kx : KX} {X : Cx}, HyS cf sc Γ k ca kx X → ∀ {sts : List Stmt} {xs : List S}, mapO (cS m n cf sc) sts = some xs → PSs X sts (tSs X.K N Γ wf kx xs) := by
      intro kx X hy sts
      induction sts with
      | nil => intro xs h; cases h; exact ss_nil
      | cons st sts ih2 =>
        intro xs h
        obtain ⟨x, xs', h1, h2, rfl⟩ := mapO_cons h
        exact ss_cons (ih kx X st x h1 hy) (ih2 h2)
    have ss := fun {sts xs} => ssX hy (sts := sts) (xs := xs)
    unfold cS at h
    replace h := getD_or h
    rcases h with h | rfl
    rotate_left
    · exact ss_nev
    split at h
    · exact sound_asg h hy
    · rename_i y p op e p2
      split at h
      · rename_i hl
        simp only [Bool.and_eq_true, Bool.or_eq_true, beq_iff_eq] at hl
        split at h
        · rename_i i z h1 h2
          cases h
          obtain ⟨l1, l2⟩ := hy.loc y hl.1
          exact ss_aug hN (by rw [hy.hy.N]; exact slot_at h1) l1 (sE h2) (by simpa using hl.2) l2
        · cases h
      · cases h
    · split at h
      · cases h
      · rename_i hc
        obtain ⟨y, h1, rfl⟩ := Option.map_eq_some_iff.mp h
        exact ss_ex (sE h1) (sw_comp (by simpa using hc))
    · cases h; exact ss_ret0
    · obtain ⟨y, h1, rfl⟩ := Option.map_eq_some_iff.mp h
      exact ss_ret (sound_Ret h1 hy)
    · split at h
      · cases h
      · rename_i hif
        split at h
        · rename_i t a b h1 h2 h3
          cases h
          exact ss_if (sT h1 (by simpa using hif)) (ss h2) (ss h3)
        · cases h
    · split at h
      · rename_i t it b h1 h2 h3
        split at h
        · rename_i hv
          cases h
          exact ss_fr hv hy.own hy.hy.calm ((sound_E (Γ := Γ) (N := N) (ca := ca) (k := k) m).itV h2 hy.hy) (tg_pg h1 hy.hy.N hy.hy.nd hy.hy.calm hy.loc) (ss h3) (fold_it (cItG_noset h2))
        · cases h
      · cases h
    · split at h
      · cases h
      · rename_i hif
        split at h
        · rename_i t b h1 h2
          cases h
          exact ss_wh hy.own (sT h1 (by simpa using hif)) (ss h2)
        · cases h
    · rename_i c p1 ms j p2 p3 p4
      split at h
      · rename_i hc
        cases h
        have hc : (c ∈ cf.xs ∧ c ∈ exNames) ∧ gloB sc c = true := by simpa using hc
        exact ss_rai hy.hy.calm hy.hy.wish (hy.rai c hc.1.1 hc.1.2 hc.2 X.pn X.xe _ _ _ _ _)
      · cases h
    · rename_i body x px y f pf z pz pc pr ph pt
      split at h
      · rename_i hc
        simp only [Bool.and_eq_true, beq_iff_eq] at hc
        obtain ⟨rfl, rfl, rfl, c4, c5, c6, c7, c8⟩ := hc
        split at h
        · rename_i i b h1 h2
          cases h
          obtain ⟨n1, n2, n3⟩ := names_ok c7
          obtain ⟨w1, w2⟩ := hy.wh c4 c6
          have hi : X.N[i]? = some z := by rw [hy.hy.N]; exact slot_at h1
          have hv : X.env.scope.names.lookup z = some .local := by rw [hy.hy.sc]; simpa using c8
          refine ss_try hy.stk hy.frm hN hi hv (by
            show X.env.scope.names.lookup _ = _
            rw [hy.hy.sc]
            unfold gloB at c5
            exact eq_of_beq c5) w1 hy.cae (fun kx' pn xe t o => ssX (hy.tr t o) h2) fun a oe c k pn pin hk => w2 a oe c k pn i z _ _ _ hi (.inl hv) n1 n2 pin hk
        · cases h
      · cases h
    · cases h; exact ss_pass
    · cases h
theorem sound_Ss {sts : List Stmt} {xs : List S} (h : mapO (cS m n cf sc) sts = some xs) (hy : HyS cf sc Γ k ca kx X) : PSs X sts (tSs X.K N Γ wf kx xs) := by
  induction sts generalizing xs with
  | nil => cases h; exact ss_nil
  | cons st sts ih2 =>
    obtain ⟨x, xs', h1, h2, rfl⟩ := mapO_cons h
    exact ss_cons (sound_S n kx X st x h1 hy) (ih2 h2)
end
end D

namespace D
open PySem L2 PyProof.Rows
/-- a def of the text, its names, its form -/
structure Df where
  name : Str
  args : Arguments
  body : List Stmt
  scope : Scope
  ps : List Str
  cf : Cf
  fn : Fn
  /-- 0: a def, 1: a method, 2: a class, 3: its __init__ -/
  kd : Nat
  dn : Str
  cl : Str
def Df.okB (d : Df) : Bool := d.scope.kind == .function && !d.scope.isCoroutine && !d.scope.isGenerator && decide d.cf.N.Nodup && d.cf.N.take d.ps.length == d.ps
  && d.ps.all (fun x => d.scope.names.lookup x == some .local || d.scope.names.lookup x == some .cell) && d.scope.names.all (fun y => !(y.2 == .free)) && d.fn.np == d.ps.length && d.fn.nn == d.cf.N.length
structure Df.Ok (d : Df) : Prop where
  sc : FnScope d.cf.N d.ps d.scope
  np : d.fn.np = d.ps.length
  nn : d.fn.nn = d.cf.N.length
  body : mapO (cS 40 40 d.cf d.scope) d.body = some d.fn.body
theorem Df.ok_of {d : Df} (h : d.okB = true) (hb : mapO (cS 40 40 d.cf d.scope) d.body = some d.fn.body) : d.Ok := by
  unfold Df.okB at h
  simp only [Bool.and_eq_true, Bool.not_eq_true', beq_iff_eq, List.all_eq_true, Bool.or_eq_true, decide_eq_true_eq, beq_eq_false_iff_ne] at h
  obtain ⟨⟨⟨⟨⟨⟨⟨⟨h1, h2⟩, h3⟩, h4⟩, h5⟩, h6⟩, h7⟩, h8⟩, h9⟩ := h
  refine ⟨⟨by simpa using h1, h2, h3, h4, by simpa using h5, fun x hx => by simpa using h6 x hx, fun y hy => by simpa using h7 y hy⟩, h8, h9, hb⟩
/-- what the module's head leaves -/
structure Facts (P : Program) (w : World) (K : PySem.W.Frag) (mg : Str → Option Value) (base : Heap) (ca : Str → Addr) (T : List Df) : Prop where
  df : ∀ d ∈ T, d.kd ≤ 1 → ∃ f fd, FunD K d.dn d.name d.args d.body d.scope [] [] f fd ∧ (d.kd = 0 → mg d.name = some (.ref f)) ∧ (d.kd = 1 → Meth K (He.ga K d.cl) d.dn f) ∧ Binds K fd d.ps []
  bl : ∀ t ∈ freeNames, mg ((t : String) : Str) = none
  gl : ∀ d ∈ T, ∀ x w, d.cf.gl.lookup x = some w → ∃ u v, mg x = some u ∧ RelV v u ∧ ∀ G, Dv K G v w
  rai : ∀ d ∈ T, ∀ c ∈ d.cf.xs, c ∈ exNames → ∀ X : Cx, X.prog = P → X.w = w → X.K = K → X.mg = mg → X.calm = true → Gl X c → ∀ m j p1 p2 p3, PMk X (.Call (.Name c p1) [.Constant (.str m) j p2] [] p3) (fun σ H Q => Q (.ref (ca c)) none H)
  aa : ∀ d ∈ T, ∀ f c, d.cf.aa.lookup f = some c → Cls K (He.ga K c) ∧ NoAttr K (He.ga K c) f
  ms : ∀ d ∈ T, ∀ m c, d.cf.ms.lookup m = some c → Cls K (He.ga K c)
  cae : ∀ c, ca c = He.ga K c
  wh : ∀ d ∈ T, d.cf.xs.contains ("_law_which" : Str) = true → ∃ f fd args body sc, Which K mg f fd args body sc
/-- the table's names -/
def tab (T : List Df) (f : Str) : Option Fn := (T.find? fun d => d.name == f).map (·.fn)
section
variable {P : Program} {w : World} {K : PySem.W.Frag} {mg : Str → Option Value} {base : Heap} {ca : Str → Addr} {T : List Df} {wf : Nat}
theorem tab_of (nd : (T.map (·.name)).Nodup) {d : Df} (hd : d ∈ T) : tab T d.name = some d.fn := by
  unfold tab
  have : T.find? (fun e => e.name == d.name) = some d := by
    skip
    induction T with
    | nil => cases hd
    | cons e T ih =>
      rw [List.map_cons, List.nodup_cons] at nd
      rw [List.find?_cons]
      by_cases he : e.name = d.name
      · rcases List.mem_cons.mp hd with rfl | hd
        · simp
        · exact absurd (List.mem_map.mpr ⟨d, hd, he.symm⟩) nd.1
      · rcases List.mem_cons.mp hd with rfl | hd
        · exact absurd rfl he
        · rw [show (e.name == d.name) = false by simpa using he]
          exact ih nd.2 hd
  rw [this]
  rfl
/-- what the defs promise at a level -/
def Prom (P : Program) (w : World) (K : PySem.W.Frag) (mg : Str → Option Value) (base : Heap) (ca : Str → Addr) (T : List Df) (wf n : Nat) : Prop :=
  ∀ d ∈ T, d.kd ≤ 1 → ∀ f fd, FunD K d.dn d.name d.args d.body d.scope [] [] f fd → FnOk P w K mg base (L2.CX P w) (n + 1) f fd d.ps (spD K (callN (tab T) wf n d.name) d.ps.length ca)
/-- a class that is made -/
def Ini (P : Program) (w : World) (K : PySem.W.Frag) (mg : Str → Option Value) (base : Heap) (ca : Str → Addr) (T : List Df) (wf : Nat) (c : Str) : Prop :=
  ∃ fa fd ps, Mk K (He.ga K c) fa ∧ mg c = some (.ref (He.ga K c)) ∧ Binds K fd ps [] ∧ (∀ n ss, ss.length + 1 ≠ ps.length → callN (tab T) wf n c ss = .bad) ∧ (∀ ss, callN (tab T) wf 1 c ss = .bad) ∧
    ∀ n, Prom P w K mg base ca T wf n → FnOk P w K mg base (L2.CX P w) (n + 2) fa fd ps (spI K (callN (tab T) wf (n + 2) c) c ps.length)
theorem fnok_no {k : Nat} {fa : Addr} {fd : FuncData} {ps : List Str} {call : List Slot → CRes} {c : Str} (h : ∀ ss, call ss = .bad) : FnOk P w K mg base (L2.CX P w) k fa fd ps (spI K call c ps.length) := by
  refine ⟨fun vs H Q E h => h.1, fun A outer s H args us vs Q E hr e0 hb r hh => ?_⟩
  obtain ⟨_, x, dx, us, G, ss, io, H0, _, _, _, _, _, _, _, _, z⟩ := hh
  rw [h ss] at z
  exact z.elim
theorem sound_fn (F : Facts P w K mg base ca T) (nd : (T.map (·.name)).Nodup) (ok : ∀ d ∈ T, d.kd ≤ 1 → d.Ok) (fs : ∀ d ∈ T, ∀ f io, d.cf.fs.lookup f = some io → ∃ e ∈ T, e.name = f ∧ e.kd = 0)
    (ms : ∀ d ∈ T, ∀ m c, d.cf.ms.lookup m = some c → ∃ e ∈ T, e.name = methN c m ∧ e.kd = 1 ∧ e.dn = m ∧ e.cl = c)
    (cs : ∀ d ∈ T, ∀ c, d.cf.cs.contains c = true → Ini P w K mg base ca T wf c) :
    ∀ n, Prom P w K mg base ca T wf n := by
  intro n
  induction n using Nat.strongRecOn with
  | ind n ihs =>
  cases n with
  | zero =>
    intro d hd hk f fd hF
    refine ⟨fun vs H Q E h => h.1, fun A outer s H args us vs Q E hr e0 hb r h => ?_⟩
    obtain ⟨_, G, ss, io, _, _, h⟩ := h
    unfold callN at h
    exact h.elim
  | succ n =>
    have ih := ihs n (Nat.lt_succ_self n)
    have short : ∀ e ∈ T, e.kd ≤ 1 → ∀ ss : List Slot, ss.length ≠ e.ps.length → callN (tab T) wf n e.name ss = .bad := fun e he hk ss hs => by
      cases n with
      | zero => rfl
      | succ n =>
        unfold callN
        rw [tab_of nd he]
        simp only
        unfold runFn
        rw [if_neg]
        rw [(ok e he hk).np]
        exact hs
    intro d hd hk f fd hF
    have O := ok d hd hk
    refine hF.ok O.sc (fun vs H Q E h => h.1) fun cdv A outer s H vs Q E hr h => ?_
    obtain ⟨hl, G, ss, io, hR, hsl, h⟩ := h
    unfold callN at h
    rw [tab_of nd hd] at h
    simp only at h
    unfold runFn at h
    rw [if_pos (by rw [hsl, hl, O.np])] at h
    have r0 := hR (d.fn.nn - d.fn.np)
    refine ⟨tSs K ⟨G, H, io⟩ ⟨callN (tab T) wf n⟩ wf (fun c e σ H' => E (.ref (ca c)) none H') d.fn.body, sound_Ss (X := cxOf (L2.CX P w) P w K mg base d.cf.N d.name d.scope f cdv A outer s H E) (k := n + 1) (ca := ca) O.body ⟨⟨rfl, O.sc.nd, rfl, rfl, hr, F.bl, F.gl d hd, ?_, ?_, F.aa d hd, ?_, ?_⟩, ?_, fun x hx => .inl rfl, O.sc.kind, ?_, rfl, rfl, F.cae, ?_⟩, ?_⟩
    · intro g io hg
      obtain ⟨e, he, rfl, hk0⟩ := fs d hd g io hg
      obtain ⟨fa, fd2, hF2, m2, _, b2⟩ := F.df e he (by omega)
      exact ⟨fa, fd2, e.ps, m2 hk0, hF2.kp, b2, ih e he (by omega) fa fd2 hF2, short e he (by omega)⟩
    · have t : Takes (cxOf (L2.CX P w) P w K mg base d.cf.N d.name d.scope f cdv A outer s H E) (fun cls d _ H => E cls d H) := takes_of rfl rfl rfl rfl
      exact t.imp fun c d σ H w => by
        obtain ⟨rfl, c, e, rfl, w⟩ := w
        exact w
    · intro m c hm
      obtain ⟨e, he, h1, h2, h3, h4⟩ := ms d hd m c hm
      obtain ⟨fa, fd2, hF2, _, m2, b2⟩ := F.df e he (by omega)
      have m2 := m2 h2
      rw [h4, h3] at m2
      have q := ih e he (by omega) fa fd2 hF2
      have q2 := short e he (by omega)
      rw [h1] at q q2
      exact ⟨F.ms d hd m c hm, fa, fd2, e.ps, m2, b2, q, q2⟩
    · intro c hc
      obtain ⟨fa, fd2, ps, q1, q2, q3, q4, q5, q6⟩ := cs d hd c hc
      refine ⟨fa, fd2, ps, n, rfl, q1, ?_, q4 n, q2, q3⟩
      match n, ihs with
      | 0, _ => exact fnok_no fun ss => rfl
      | 1, _ => exact fnok_no q5
      | m + 2, ihs => exact q6 m (ihs m (by omega))
    · exact passes_of rfl
    · intro c hc he hg pn xe m j p1 p2 p3
      refine F.rai d hd c hc he (Cx.tr (cxOf (L2.CX P w) P w K mg base d.cf.N d.name d.scope f cdv A outer s H E) pn xe) rfl rfl rfl rfl rfl ?_ m j p1 p2 p3
      show d.scope.names.lookup c = _
      unfold gloB at hg
      simpa using hg
    · intro hx hg
      obtain ⟨f2, fd2, args2, body2, sc2, W⟩ := F.wh d hd hx
      refine ⟨W.ew, fun a oe c k pn i n p q r hi hv h1 h2 pin hk => pe_which W ?_ ((L2H.roomH_of hr).mono (by omega)) hi hv h1 h2 pin hk⟩
      show d.scope.names.lookup _ = _
      unfold gloB at hg
      simpa using hg
    · refine ⟨G, ss.map some ++ List.replicate (d.fn.nn - d.fn.np) none, [], ?_, ?_⟩
      · have : L2.start d.cf.N vs = vs.map some ++ List.replicate (d.fn.nn - d.fn.np) none := by
          unfold L2.start
          rw [O.nn, O.np, hl]
        rw [this]
        exact r0
      · cases q : evSs ⟨callN (tab T) wf n⟩ wf d.fn.body (ss.map some ++ List.replicate (d.fn.nn - d.fn.np) none) with
        | bad => rw [q] at h; exact h.elim
        | exc c e =>
          rw [q] at h
          simp only at h
          intro σ' H' G' r'
          cases q2 : outsOf ss e with
          | none => rw [q2] at h; exact h.elim
          | some outs =>
            rw [q2] at h
            exact h H' G' e σ' r' q2
        | ok fl e =>
          rw [q] at h
          simp only at h
          cases q2 : outsOf ss e with
          | none => rw [q2] at h; exact h.elim
          | some outs =>
            rw [q2] at h
            cases fl with
            | nx =>
              intro σ' H' G' r'
              exact h .non H' G' e σ' _ rfl (r'.push .non) q2
            | rt rv =>
              intro σ'
              cases rv with
              | s x =>
                intro v H' G' r'
                exact h v H' G' e σ' _ rfl r' q2
              | t xs =>
                intro t us H' G' h1 h2 h3 h4 r'
                rw [List.append_nil] at r'
                exact h (.ref t) H' G' e σ' _ ⟨t, us, rfl, h1, h2, h3, h4, rfl⟩ r' q2
end
end D

namespace D
open PySem L2 PyProof.Rows
theorem DvAll.ints {K : PySem.W.Frag} {G : Hp} : ∀ ns : List Int, DvAll K G (ns.map V.int) (ns.map PyData.int)
  | [] => .nil
  | n :: ns => .cons (.int n) (DvAll.ints ns)
theorem R.law {K : PySem.W.Frag} {H : Hp} {a : Addr} {w : W} (d : Dv K H (.ref a) w) (k : Nat) :
    R K ⟨H, H, []⟩ H H ([Slot.val w].map some ++ List.replicate k none) ([V.ref a].map some ++ List.replicate k none) [] := by
  have noOwn : ∀ (i : Nat) (io : Bool) (xs : List W), ([Slot.val w].map some ++ List.replicate k none)[i]? ≠ some (some (Slot.own io xs)) := fun i io xs h => by
    cases i with
    | zero => cases h
    | succ i =>
      rw [List.getElem?_append_right (by simp)] at h
      rw [List.getElem?_replicate] at h
      split at h <;> cases h
  refine ⟨fun _ _ h => h, fun _ _ h => h, fun b o h _ => h, fun b h => (by cases h), fun b h1 h2 => absurd h1 h2, by simp, fun i s h => ?_, fun p hp => (by cases hp), fun i j a h1 => ?_, fun i a h1 => ?_, List.Pairwise.nil, fun j xs h => absurd h (noOwn _ _ _), fun p hp => (by cases hp)⟩
  · cases i with
    | zero =>
      cases h
      exact ⟨_, rfl, d⟩
    | succ i =>
      rw [List.getElem?_append_right (by simp)] at h
      rw [List.getElem?_replicate] at h
      split at h <;> cases h
  · obtain ⟨io, xs, h, _⟩ := h1
    exact absurd h (noOwn _ _ _)
  · obtain ⟨io, xs, h, _⟩ := h1
    exact absurd h (noOwn _ _ _)
/-- an exception of the program is made -/
theorem rai_of {X : Cx} {c : Str} {K : PySem.W.Frag} {mg : Str → Option Value} (hK : X.K = K) (hm : X.mg = mg) (e : PySem.W.excIn K (He.ga K c) He.veBase "ValueError.__new__" = true ∧ PySem.W.keepIn K (.ref (He.ga K c)) = true ∧ PySem.W.subIn K (.ref (He.ga K c)) (.type "BaseException") = some true ∧ PySem.W.typeIn K (.ref (He.ga K c)) = some (.type "type"))
    (g : mg c = some (.ref (He.ga K c))) (hg : Gl X c) (hd : (c == ("__debug__" : Str)) = false) (m j p1 p2 p3) : PMk X (.Call (.Name c p1) [.Constant (.str m) j p2] [] p3) (fun σ H Q => Q (.ref (He.ga K c)) none H) := by
  subst hK
  subst hm
  exact pmk_own PySem.F.excBase_ValueError e.1 g e.2.1 (raises_own e.2.2.1 e.2.2.2) hg hd
/-! ### the head's hook, with one more question -/
def obsY (n : Nat) (fa : List He.Fa) (fn : List He.DefD) (ex : PySem.W.Frag → Bool) (g : Addr → Option Obj) : He.AlD × Bool := (He.obsD fa fn (He.frG g (He.asD g n)), ex (He.frG g (He.asD g n)))
def hookY (n : Nat) (fa : List He.Fa) (fn : List He.DefD) (ex : PySem.W.Frag → Bool) : PySem.W.Hook where
  α := He.AlD × Bool
  obs := fun s => obsY n fa fn ex s.heap.get?
  val := fun _ => (He.valD fn, true)
  says := fun _ h => ∃ K : PySem.W.Frag, K.In h ∧ He.SaysD fa fn K ∧ ex K = true
  of := fun _ _ e => ⟨_, He.frG_in, congrArg (fun z : He.AlD × Bool => z.1) e, congrArg (fun z : He.AlD × Bool => z.2) e⟩
  keeps := fun _ _ _ ⟨K, hK, c, d⟩ k => ⟨K, PySem.W.Frag.In.keeps hK k, c, d⟩
theorem obsY_eq {n : Nat} {fa : List He.Fa} {fn : List He.DefD} {ex : PySem.W.Frag → Bool} {g : Addr → Option Obj} {s : Shared} (h : ∀ a, g a = s.heap.get? a) : obsY n fa fn ex g = (hookY n fa fn ex).obs s := by
  have e : g = s.heap.get? := funext h
  rw [e]
  rfl
/-- THE END of a law: what the interpreter says, the machine does -/
theorem law_end {l : PySem.W.OpenLaw} {n lvl wf : Nat} {q : Program} {loose : List Str} {XP : (Str → Option Value) → Heap → Prop} {YP : World → Heap → Prop} {d : DefRec} {T : List Df} {dl : Df} {x : Str}
    (hn : l.most = some n) (hn2 : n ≤ sizeLine) (hdf : d.params.defaults = []) (hr : Room (lvl + 1) callerA) (hdl : dl ∈ T) (hk : dl.kd = 0) (hps : dl.ps = [x])
    (nd : (T.map (·.name)).Nodup) (ok : ∀ d ∈ T, d.kd ≤ 1 → d.Ok) (fs : ∀ d ∈ T, ∀ f io, d.cf.fs.lookup f = some io → ∃ e ∈ T, e.name = f ∧ e.kd = 0)
    (ms : ∀ d ∈ T, ∀ m c, d.cf.ms.lookup m = some c → ∃ e ∈ T, e.name = methN c m ∧ e.kd = 1 ∧ e.dn = m ∧ e.cl = c)
    (F : ∀ (w : World) (mg : Str → Option Value) (fa : Addr) (h : Heap), YP w h → h.Ns mainGlobals mg → mg d.name = some (.ref fa) →
      ∃ (K : PySem.W.Frag) (ca : Str → Addr) (fd : FuncData), K.In h ∧ (∀ (s : Shared) (u : Value), BindsTo s fd ⟨[u], []⟩ [(x, u)]) ∧ FunD K dl.dn dl.name dl.args dl.body dl.scope [] [] fa fd ∧
        ∀ base : Heap, K.In base → base.Ns mainGlobals mg → Facts l.prog w K mg base ca T ∧ ∀ d ∈ T, ∀ c, d.cf.cs.contains c = true → Ini l.prog w K mg base ca T wf c)
    (law : ∀ ns : List Int, ns.length ≤ n → ∃ outs, callN (tab T) wf lvl dl.name [.val (.list (ns.map .int))] = .ok (.s (.val (.bool true))) outs) :
    PySem.W.WalkO q loose XP YP l.row.toRowW d [] (fun f vs => PySem.call f vs) := by
  refine Att.attach_call hn hdf fun w s₀ s₁ mg mb fa o pm cd doc a vs ns G Y ho hd hcd hmg hobj hints hlen hg => ?_
  obtain ⟨K, ca, fd, KX, hb, hF, hFa⟩ := F w mg fa _ Y G.T.g hmg
  refine law_call (CX := L2.CX l.prog w) (sp := spD K (callN (tab T) wf lvl dl.name) dl.ps.length ca) KX G.T.g G.T.b G.T.builtins G.T.nolimit hg hobj hints (Nat.le_trans hlen hn2) hr (fun base h1 h2 => ?_) hb (fun H hO hS => ?_) fun H e s' h => ?_
  · have := sound_fn (wf := wf) (hFa base h1 h2).1 nd ok fs ms (hFa base h1 h2).2 lvl dl hdl (by omega) fa fd hF
    rw [hps] at this ⊢
    exact this
  · have rd : RdK K H a (ns.map V.int) := by
      rcases hS with hS | ⟨o, its, m, h1, h2, h3, h4, h5, h6⟩
      · exact .inl hS
      · have e := KX a o h1
        rw [hobj] at e
        cases e
        injection h4 with h4 _
        subst h4
        exact .inr ⟨vs, _, h1, by simpa using h6, by rw [List.length_map]; exact Nat.le_trans hlen hn2⟩
    have dv : Dv K H (.ref a) (.list (ns.map .int)) := .lst rd (DvAll.ints ns)
    obtain ⟨outs, hc⟩ := law ns hlen
    refine ⟨by rw [hps]; rfl, H, [.val (.list (ns.map .int))], [], fun k => R.law dv k, rfl, ?_⟩
    rw [hc]
    intro v H' G' e' σ' rt hrt r' _
    cases hrt
    have := r'.tmp _ List.mem_cons_self
    cases this
    rfl
  · obtain ⟨_, _, _, _, _, _, _, _, _, _, _, _, h⟩ := h
    exact h
end D

namespace D
open PySem L2
/-! ## only the defs that a text names count -/
mutual
def inE (S : Str → Bool) : E → Bool
  | .var _ => true
  | .con _ => true
  | .bin _ a b => inA S a && inA S b
  | .neg a => inE S a
  | .cmp _ a b => inA S a && inA S b
  | .chn _ _ a b c => inE S a && (inE S b && inE S c)
  | .not a => inE S a
  | .and a b => inE S a && inE S b
  | .or a b => inE S a && inE S b
  | .ife t a b => inE S t && (inE S a && inE S b)
  | .tup es => inEs S es
  | .lst es => inEs S es
  | .idx a i => inA S a && inE S i
  | .sli a lo hi => inA S a && (inO S lo && inO S hi)
  | .rev a _ => inA S a
  | .blt _ as => inAs S as
  | .isi a _ => inA S a
  | .call f as => S f && inAs S as
  | .app _ x => inE S x
  | .ext _ a => inA S a
  | .pop _ k => inO S k
  | .lc elt _ it ifs _ => inE S elt && (inIt S it && inEs S ifs)
  | .mov _ => true
  | .lix _ x => inE S x
  | .pk x _ => inE S x
  | .lset x => inE S x
  | .att x _ _ => inE S x
  | .mth c m o as => S (methN c m) && (inA S o && inAs S as)
  | .new c as => S c && inAs S as
def inA (S : Str → Bool) : A → Bool
  | .v e => inE S e
  | .r _ => true
def inAs (S : Str → Bool) : List A → Bool
  | [] => true
  | a :: as => inA S a && inAs S as
def inEs (S : Str → Bool) : List E → Bool
  | [] => true
  | a :: as => inE S a && inEs S as
def inO (S : Str → Bool) : Option E → Bool
  | none => true
  | some e => inE S e
def inIt (S : Str → Bool) : It → Bool
  | .seq a => inA S a
  | .rng es => inEs S es
  | .enum a => inA S a
  | .zip a b => inA S a && inA S b
end
def inT (S : Str → Bool) : List (T1 × Bool) → Bool
  | [] => true
  | (.nm _, _) :: ts => inT S ts
  | (.sub _ j, _) :: ts => inE S j && inT S ts
mutual
def inS (S : Str → Bool) : D.S → Bool
  | .set _ _ e => inE S e
  | .unp ts e => inT S ts && inE S e
  | .par _ es => inEs S es
  | .aug _ _ e => inE S e
  | .sidx _ j e => inE S j && inE S e
  | .ex e => inE S e
  | .ret e => inO S e
  | .ite t a b => inE S t && (inSs S a && inSs S b)
  | .fr _ it body => inIt S it && inSs S body
  | .wh t body => inE S t && inSs S body
  | .rai _ => true
  | .pas => true
  | .nev => true
  | .pri => S "amount_of" && S "takings"
  | .tr _ body => inSs S body
def inSs (S : Str → Bool) : List D.S → Bool
  | [] => true
  | x :: xs => inS S x && inSs S xs
end
section
variable {P : Str → Bool} {Γ Γ' : Gam} {wf : Nat}
def Ag (P : Str → Bool) (Γ Γ' : Gam) : Prop := ∀ f ss, P f = true → Γ.call f ss = Γ'.call f ss
mutual
theorem cgE (h : Ag P Γ Γ') : ∀ x : E, inE P x = true → evE Γ x = evE Γ' x
  | .var i, _ => by funext e; simp only [evE]
  | .con w, _ => by funext e; simp only [evE]
  | .bin op a b, q => by
    simp only [inE, Bool.and_eq_true] at q
    funext e; simp only [evE, cgA h a q.1, cgA h b q.2]
  | .neg a, q => by
    simp only [inE] at q
    funext e; simp only [evE, cgE h a q]
  | .cmp op a b, q => by
    simp only [inE, Bool.and_eq_true] at q
    funext e; simp only [evE, cgA h a q.1, cgA h b q.2]
  | .chn o1 o2 a b c, q => by
    simp only [inE, Bool.and_eq_true] at q
    funext e; simp only [evE, cgE h a q.1, cgE h b q.2.1, cgE h c q.2.2]
  | .not a, q => by
    simp only [inE] at q
    funext e; simp only [evE, cgE h a q]
  | .and a b, q => by
    simp only [inE, Bool.and_eq_true] at q
    funext e; simp only [evE, cgE h a q.1, cgE h b q.2]
  | .or a b, q => by
    simp only [inE, Bool.and_eq_true] at q
    funext e; simp only [evE, cgE h a q.1, cgE h b q.2]
  | .ife t a b, q => by
    simp only [inE, Bool.and_eq_true] at q
    funext e; simp only [evE, cgE h t q.1, cgE h a q.2.1, cgE h b q.2.2]
  | .tup es, q => by
    simp only [inE] at q
    funext e; simp only [evE, cgEs h es q]
  | .lst es, q => by
    simp only [inE] at q
    funext e; simp only [evE, cgEs h es q]
  | .idx a i, q => by
    simp only [inE, Bool.and_eq_true] at q
    funext e; simp only [evE, cgA h a q.1, cgE h i q.2]
  | .sli a lo hi, q => by
    simp only [inE, Bool.and_eq_true] at q
    funext e; simp only [evE, cgA h a q.1, cgO h lo q.2.1, cgO h hi q.2.2]
  | .rev a k, q => by
    simp only [inE] at q
    funext e; simp only [evE, cgA h a q]
  | .blt f as, q => by
    simp only [inE] at q
    funext e; simp only [evE, cgAs h as q]
  | .isi a T, q => by
    simp only [inE] at q
    funext e; simp only [evE, cgA h a q]
  | .call f as, q => by
    simp only [inE, Bool.and_eq_true] at q
    have hf : Γ.call f = Γ'.call f := funext fun ss => h f ss q.1
    funext e; simp only [evE, cgAs h as q.2, hf]
  | .app i x, q => by
    simp only [inE] at q
    funext e; simp only [evE, cgE h x q]
  | .ext i a, q => by
    simp only [inE] at q
    funext e; simp only [evE, cgA h a q]
  | .pop i none, q => by
    funext e; simp only [evE]
  | .pop i (some k), q => by
    simp only [inE, inO] at q
    funext e; simp only [evE, cgE h k q]
  | .lc elt tg it ifs own, q => by
    simp only [inE, Bool.and_eq_true] at q
    funext e; simp only [evE, cgE h elt q.1, cgIt h it q.2.1, cgIfs h ifs q.2.2]
  | .mov i, _ => by funext e; simp only [evE]
  | .lix i x, q => by
    simp only [inE] at q
    funext e; simp only [evE, cgE h x q]
  | .pk x k, q => by
    simp only [inE] at q
    funext e; simp only [evE, cgE h x q]
  | .lset x, q => by
    simp only [inE] at q
    funext e; simp only [evE, cgE h x q]
  | .att x c f, q => by
    simp only [inE] at q
    funext e; simp only [evE, cgE h x q]
  | .mth c m o as, q => by
    simp only [inE, Bool.and_eq_true] at q
    have hf : Γ.call (methN c m) = Γ'.call (methN c m) := funext fun ss => h (methN c m) ss q.1
    funext e; simp only [evE, cgA h o q.2.1, cgAs h as q.2.2, hf]
  | .new c as, q => by
    simp only [inE, Bool.and_eq_true] at q
    have hf : Γ.call c = Γ'.call c := funext fun ss => h c ss q.1
    funext e; simp only [evE, cgAs h as q.2, hf]
theorem cgA (h : Ag P Γ Γ') : ∀ x : A, inA P x = true → evA Γ x = evA Γ' x
  | .v x, q => by
    simp only [inA] at q
    funext e; simp only [evA, cgE h x q]
  | .r i, _ => by funext e; simp only [evA]
theorem cgAs (h : Ag P Γ Γ') : ∀ x : List A, inAs P x = true → evAs Γ x = evAs Γ' x
  | [], _ => by funext e; simp only [evAs]
  | a :: as, q => by
    simp only [inAs, Bool.and_eq_true] at q
    funext e; simp only [evAs, cgA h a q.1, cgAs h as q.2]
theorem cgEs (h : Ag P Γ Γ') : ∀ x : List E, inEs P x = true → evEs Γ x = evEs Γ' x
  | [], _ => by funext e; simp only [evEs]
  | a :: as, q => by
    simp only [inEs, Bool.and_eq_true] at q
    funext e; simp only [evEs, cgE h a q.1, cgEs h as q.2]
theorem cgIfs (h : Ag P Γ Γ') : ∀ x : List E, inEs P x = true → evIfs Γ x = evIfs Γ' x
  | [], _ => by funext e; simp only [evIfs]
  | [a], q => by
    simp only [inEs, Bool.and_eq_true] at q
    funext e; simp only [evIfs, cgE h a q.1]
  | _ :: _ :: _, _ => by funext e; simp only [evIfs]
theorem cgO (h : Ag P Γ Γ') : ∀ x : Option E, inO P x = true → evO Γ x = evO Γ' x
  | none, _ => by funext e; simp only [evO]
  | some a, q => by
    simp only [inO] at q
    funext e; simp only [evO, cgE h a q]
theorem cgIt (h : Ag P Γ Γ') : ∀ x : It, inIt P x = true → evIt Γ x = evIt Γ' x
  | .seq a, q => by
    simp only [inIt] at q
    funext e; simp only [evIt, cgA h a q]
  | .rng es, q => by
    simp only [inIt] at q
    funext e; simp only [evIt, cgEs h es q]
  | .enum a, q => by
    simp only [inIt] at q
    funext e; simp only [evIt, cgA h a q]
  | .zip a b, q => by
    simp only [inIt, Bool.and_eq_true] at q
    funext e; simp only [evIt, cgA h a q.1, cgA h b q.2]
end
theorem cgT (h : Ag P Γ Γ') : ∀ ts : List (T1 × Bool), inT P ts = true → setT1 Γ ts = setT1 Γ' ts
  | [], _ => by
    funext xs e
    cases xs <;> simp only [setT1]
  | (.nm i, m) :: ts, q => by
    simp only [inT] at q
    funext xs e
    cases xs <;> simp only [setT1, cgT h ts q]
  | (.sub i j, m) :: ts, q => by
    simp only [inT, Bool.and_eq_true] at q
    funext xs e
    cases xs <;> simp only [setT1, cgE h j q.1, cgT h ts q.2]
mutual
theorem cgS (h : Ag P Γ Γ') : ∀ x : D.S, inS P x = true → evS Γ wf x = evS Γ' wf x
  | .set i m x, q => by
    simp only [inS] at q
    funext e; simp only [evS, cgE h x q]
  | .unp ts x, q => by
    simp only [inS, Bool.and_eq_true] at q
    funext e; simp only [evS, cgE h x q.2, cgT h ts q.1]
  | .par is es, q => by
    simp only [inS] at q
    funext e; simp only [evS, cgEs h es q]
  | .aug i op x, q => by
    simp only [inS] at q
    funext e; simp only [evS, cgE h x q]
  | .sidx i j x, q => by
    simp only [inS, Bool.and_eq_true] at q
    funext e; simp only [evS, cgE h j q.1, cgE h x q.2]
  | .ex x, q => by
    simp only [inS] at q
    funext e; simp only [evS, cgE h x q]
  | .ret none, _ => by funext e; simp only [evS]
  | .ret (some x), q => by
    simp only [inS, inO] at q
    funext e; simp only [evS, cgE h x q]
  | .ite t a b, q => by
    simp only [inS, Bool.and_eq_true] at q
    funext e; simp only [evS, evT, cgE h t q.1, cgSs h a q.2.1, cgSs h b q.2.2]
  | .fr tg it body, q => by
    simp only [inS, Bool.and_eq_true] at q
    funext e; simp only [evS, cgIt h it q.1, cgSs h body q.2]
  | .wh t body, q => by
    simp only [inS, Bool.and_eq_true] at q
    funext e; simp only [evS, evT, cgE h t q.1, cgSs h body q.2]
  | .rai c, _ => by funext e; simp only [evS]
  | .pas, _ => by funext e; simp only [evS]
  | .nev, _ => by funext e; simp only [evS]
  | .tr i body, q => by
    simp only [inS] at q
    funext e; simp only [evS, cgSs h body q]
  | .pri, q => by
    simp only [inS, Bool.and_eq_true] at q
    have ha : Γ.call ("amount_of" : Str) = Γ'.call ("amount_of" : Str) := funext fun ss => h _ ss q.1
    have ht : Γ.call ("takings" : Str) = Γ'.call ("takings" : Str) := funext fun ss => h _ ss q.2
    have e : PrW Γ = PrW Γ' := by
      funext shop hs w
      unfold PrW
      have : ∀ ns rows left, PrR Γ shop ns rows left = PrR Γ' shop ns rows left := fun ns rows left => by
        refine propext ⟨fun x => ?_, fun x => ?_⟩
        · obtain ⟨a, a2, b, c, d, f, g, i⟩ := x
          rw [ha] at d
          rw [ht] at i
          exact ⟨a, a2, b, c, d, f, g, i⟩
        · obtain ⟨a, a2, b, c, d, f, g, i⟩ := x
          rw [← ha] at d
          rw [← ht] at i
          exact ⟨a, a2, b, c, d, f, g, i⟩
      simp only [this]
    funext e1
    simp only [evS]
    show priOf (PrW Γ) e1 = priOf (PrW Γ') e1
    rw [e]
theorem cgSs (h : Ag P Γ Γ') : ∀ x : List D.S, inSs P x = true → evSs Γ wf x = evSs Γ' wf x
  | [], _ => by funext e; simp only [evSs]
  | x :: xs, q => by
    simp only [inSs, Bool.and_eq_true] at q
    funext e; simp only [evSs, cgS h x q.1, cgSs h xs q.2]
end
/-- two tables that agree on a closed set of names run alike there -/
theorem cg_call {Δ Δ' : Str → Option Fn} (h : ∀ f, P f = true → Δ f = Δ' f) (hc : ∀ f fn, P f = true → Δ' f = some fn → inSs P fn.body = true) : ∀ n f, P f = true → callN Δ wf n f = callN Δ' wf n f
  | 0, f, _ => by funext ss; rfl
  | n + 1, f, hf => by
    funext ss
    have ag : Ag P ⟨callN Δ wf n⟩ ⟨callN Δ' wf n⟩ := fun g ss hg => by
      show callN Δ wf n g ss = callN Δ' wf n g ss
      rw [cg_call h hc n g hg]
    show (match Δ f with | some fn => runFn ⟨callN Δ wf n⟩ wf fn ss | none => .bad) = (match Δ' f with | some fn => runFn ⟨callN Δ' wf n⟩ wf fn ss | none => .bad)
    rw [h f hf]
    cases q : Δ' f with
    | none => rfl
    | some fn =>
      show runFn ⟨callN Δ wf n⟩ wf fn ss = runFn ⟨callN Δ' wf n⟩ wf fn ss
      unfold runFn
      rw [cgSs ag fn.body (hc f fn hf q)]
end
end D

namespace D
open PySem L2 PyProof.Rows
def w_GREATEST : W := .int 1000000
def w_DIGITS : W := .str "0123456789"
def w_WORDS : W := .tuple [.str "pack", .str "from", .str "over", .str "each"]
def F__law_cell_at : Fn := ⟨2, 4,
    [.ite (.cmp .Lt (.v (.var 1)) (.v (.blt "len" [.v (.var 0)]))) [.ret (some (.idx (.v (.var 0)) (.var 1)))] [],
      .ite (.cmp .Eq (.v (.var 0)) (.v (.lst []))) [.ret (some (.con (.int 0)))] [],
      .set 2 false (.idx (.v (.var 0)) (.bin .Mod (.v (.var 1)) (.v (.blt "len" [.v (.var 0)])))),
      .fr (.one 3) (.rng [.blt "min" [.v (.bin .FloorDiv (.v (.var 1)) (.v (.blt "len" [.v (.var 0)]))), .v (.con (.int 60))]]) [.set 2 false (.bin .FloorDiv (.v (.var 2)) (.v (.con (.int 1000003))))],
      .ret (some (.bin .Add (.v (.bin .Add (.v (.bin .Mult (.v (.idx (.v (.var 0)) (.bin .Mod (.v (.var 1)) (.v (.blt "len" [.v (.var 0)]))))) (.v (.con (.int 31))))) (.v (.var 1)))) (.v (.bin .Mult (.v (.var 2)) (.v (.con (.int 101)))))))]⟩
def cf__law_cell_at : Cf := ⟨["script", "k", "spare", "again"], [], [], [], [], [], [], []⟩
def F__law_mixed : Fn := ⟨3, 4,
    [.set 3 false (.bin .Mod (.v (.bin .Add (.v (.bin .Add (.v (.bin .Mult (.v (.call "_law_cell_at" [.v (.var 0), .v (.var 1)])) (.v (.con (.int 1103515245))))) (.v (.bin .Mult (.v (.con (.int 7919))) (.v (.var 1)))))) (.v (.con (.int 12345))))) (.v (.con (.int 2147483647)))),
      .ret (some (.bin .Mod (.v (.bin .Mod (.v (.bin .Mod (.v (.bin .Pow (.v (.var 3)) (.v (.con (.int 5))))) (.v (.con (.int 2147483647))))) (.v (.con (.int 999983))))) (.v (.var 2))))]⟩
def cf__law_mixed : Cf := ⟨["script", "k", "many", "spun"], [], [("_law_cell_at", [])], [], [], [], [], []⟩
def F__law_draw : Fn := ⟨3, 3,
    [.ex (.app 1 (.con (.int 0))),
      .ret (some (.call "_law_mixed" [.v (.var 0), .v (.blt "len" [.r 1]), .v (.var 2)]))]⟩
def cf__law_draw : Cf := ⟨["script", "state", "many"], [1], [("_law_mixed", [])], [], [], [], [], []⟩
def F__law_some_goods : Fn := ⟨2, 4,
    [.set 2 false (.ife (.cmp .Eq (.v (.call "_law_draw" [.v (.var 0), .r 1, .v (.con (.int 3))])) (.v (.con (.int 0)))) (.con (.int 2)) (.con (.int 1))),
      .ret (some (.blt "tuple" [.v (.lc (.tup [.bin .Add (.v (.con (.int 3))) (.v (.call "_law_draw" [.v (.var 0), .r 1, .v (.con (.int 7))])), .call "_law_draw" [.v (.var 0), .r 1, .v (.con (.int 8))]]) (.one 3) (.rng [.var 2]) [] [3])]))]⟩
def cf__law_some_goods : Cf := ⟨["script", "state", "count", "again"], [1], [("_law_draw", [1])], [], [], [], [], []⟩
def F__law_pick : Fn := ⟨3, 3,
    [.ret (some (.idx (.v (.var 2)) (.call "_law_draw" [.v (.var 0), .r 1, .v (.blt "len" [.v (.var 2)])])))]⟩
def cf__law_pick : Cf := ⟨["script", "state", "some"], [1], [("_law_draw", [1])], [], [], [], [], []⟩
def F__law_some_rule : Fn := ⟨4, 11,
    [.set 4 false (.call "_law_draw" [.v (.var 0), .r 1, .v (.con (.int 5))]),
      .set 5 false (.call "_law_draw" [.v (.var 0), .r 1, .v (.blt "len" [.v (.var 2)])]),
      .set 6 false (.idx (.v (.idx (.v (.var 2)) (.var 5))) (.con (.int 0))),
      .ite (.cmp .Lt (.v (.var 4)) (.v (.con (.int 2)))) [.set 7 false (.bin .Add (.v (.con (.int 2))) (.v (.call "_law_draw" [.v (.var 0), .r 1, .v (.con (.int 2))]))),
      .set 8 false (.blt "max" [.v (.var 7), .v (.bin .Sub (.v (.bin .Mult (.v (.var 7)) (.v (.var 6)))) (.v (.call "_law_draw" [.v (.var 0), .r 1, .v (.bin .Add (.v (.bin .Mult (.v (.con (.int 2))) (.v (.var 7)))) (.v (.con (.int 2))))])))]),
      .ret (some (.tup [.con (.str "pack"), .var 5, .var 7, .var 8, .call "_law_pick" [.v (.var 0), .r 1, .v (.tup [.con (.none), .con (.none), .con (.int 1), .con (.int 2)])]]))] [],
      .ite (.cmp .Eq (.v (.var 4)) (.v (.con (.int 2)))) [.ret (some (.tup [.con (.str "from"), .var 5, .bin .Add (.v (.con (.int 2))) (.v (.call "_law_draw" [.v (.var 0), .r 1, .v (.con (.int 3))])), .blt "max" [.v (.con (.int 1)), .v (.bin .Sub (.v (.var 6)) (.v (.call "_law_draw" [.v (.var 0), .r 1, .v (.con (.int 4))])))]]))] [],
      .ite (.cmp .Eq (.v (.var 4)) (.v (.con (.int 3)))) [.set 9 false (.bin .Add (.v (.con (.int 4))) (.v (.call "_law_draw" [.v (.var 0), .r 1, .v (.con (.int 9))]))),
      .ret (some (.tup [.con (.str "over"), .var 9, .bin .Add (.v (.con (.int 1))) (.v (.call "_law_draw" [.v (.var 0), .r 1, .v (.con (.int 4))]))]))] [],
      .set 9 false (.bin .Add (.v (.con (.int 2))) (.v (.call "_law_draw" [.v (.var 0), .r 1, .v (.con (.int 5))]))),
      .set 10 false (.call "_law_pick" [.v (.var 0), .r 1, .v (.ife (.var 3) (.tup [.con (.int 1), .con (.int 2)]) (.tup [.con (.none), .con (.none), .con (.int 1), .con (.int 2)]))]),
      .ret (some (.tup [.con (.str "each"), .var 9, .bin .Add (.v (.con (.int 1))) (.v (.call "_law_draw" [.v (.var 0), .r 1, .v (.bin .FloorDiv (.v (.var 9)) (.v (.con (.int 2))))])), .var 10]))]⟩
def cf__law_some_rule : Cf := ⟨["script", "state", "goods", "capped", "kind", "good", "single", "size", "price", "whole", "most"], [1], [("_law_draw", [1]), ("_law_pick", [1])], [], [], [], [], []⟩
def F__law_some_shop : Fn := ⟨2, 7,
    [.par [(2, false), (3, true)] [.call "_law_some_goods" [.v (.var 0), .r 1], .lst []],
      .fr (.one 4) (.rng [.call "_law_draw" [.v (.var 0), .r 1, .v (.con (.int 5))]]) [.set 5 false (.blt "any" [.v (.lc (.and (.cmp .Eq (.v (.idx (.v (.var 6)) (.con (.int 0)))) (.v (.con (.str "each")))) (.cmp .Is (.v (.idx (.v (.var 6)) (.con (.int 3)))) (.v (.con (.none))))) (.one 6) (.seq (.r 3)) [] [6])]),
      .ex (.app 3 (.call "_law_some_rule" [.v (.var 0), .r 1, .v (.var 2), .v (.var 5)]))],
      .ret (some (.tup [.var 2, .blt "tuple" [.r 3]]))]⟩
def cf__law_some_shop : Cf := ⟨["script", "state", "goods", "rules", "again", "capped", "rule"], [1, 3], [("_law_some_goods", [1]), ("_law_draw", [1]), ("_law_some_rule", [1])], [], [], [], [], []⟩
def F_is_integer : Fn := ⟨3, 3,
    [.ret (some (.and (.isi (.v (.var 0)) "int") (.and (.not (.isi (.v (.var 0)) "bool")) (.chn .LtE .LtE (.var 1) (.var 0) (.var 2)))))]⟩
def cf_is_integer : Cf := ⟨["value", "low", "high"], [], [], [], [], [], [], []⟩
def F_is_good : Fn := ⟨1, 1,
    [.ite (.or (.not (.isi (.v (.var 0)) "tuple")) (.cmp .NotEq (.v (.blt "len" [.v (.var 0)])) (.v (.con (.int 2))))) [.ret (some (.con (.bool false)))] [],
      .ret (some (.and (.call "is_integer" [.v (.idx (.v (.var 0)) (.con (.int 0))), .v (.con (.int 1)), .v (.con (.int 9))]) (.call "is_integer" [.v (.idx (.v (.var 0)) (.con (.int 1))), .v (.con (.int 0)), .v (.con (.int 9))])))]⟩
def cf_is_good : Cf := ⟨["value"], [], [("is_integer", [])], [], [], [], [], []⟩
def F_is_most : Fn := ⟨1, 1,
    [.ret (some (.or (.cmp .Is (.v (.var 0)) (.v (.con (.none)))) (.call "is_integer" [.v (.var 0), .v (.con (.int 1)), .v (.con (.int 2))])))]⟩
def cf_is_most : Cf := ⟨["value"], [], [("is_integer", [])], [], [], [], [], []⟩
def F_is_rule : Fn := ⟨2, 2,
    [.ite (.or (.not (.isi (.v (.var 1)) "tuple")) (.or (.cmp .Lt (.v (.blt "len" [.v (.var 1)])) (.v (.con (.int 3)))) (.not (.isi (.v (.idx (.v (.var 1)) (.con (.int 0)))) "str")))) [.ret (some (.con (.bool false)))] [],
      .ite (.cmp .Eq (.v (.idx (.v (.var 1)) (.con (.int 0)))) (.v (.con (.str "pack")))) [.ite (.or (.cmp .NotEq (.v (.blt "len" [.v (.var 1)])) (.v (.con (.int 5)))) (.or (.not (.call "is_integer" [.v (.idx (.v (.var 1)) (.con (.int 1))), .v (.con (.int 0)), .v (.bin .Sub (.v (.var 0)) (.v (.con (.int 1))))])) (.not (.call "is_integer" [.v (.idx (.v (.var 1)) (.con (.int 2))), .v (.con (.int 2)), .v (.con (.int 3))])))) [.ret (some (.con (.bool false)))] [],
      .ret (some (.and (.call "is_integer" [.v (.idx (.v (.var 1)) (.con (.int 3))), .v (.idx (.v (.var 1)) (.con (.int 2))), .v (.con (.int 30))]) (.call "is_most" [.v (.idx (.v (.var 1)) (.con (.int 4)))])))] [],
      .ite (.cmp .Eq (.v (.idx (.v (.var 1)) (.con (.int 0)))) (.v (.con (.str "from")))) [.ite (.or (.cmp .NotEq (.v (.blt "len" [.v (.var 1)])) (.v (.con (.int 4)))) (.not (.call "is_integer" [.v (.idx (.v (.var 1)) (.con (.int 1))), .v (.con (.int 0)), .v (.bin .Sub (.v (.var 0)) (.v (.con (.int 1))))]))) [.ret (some (.con (.bool false)))] [],
      .ret (some (.and (.call "is_integer" [.v (.idx (.v (.var 1)) (.con (.int 2))), .v (.con (.int 2)), .v (.con (.int 4))]) (.call "is_integer" [.v (.idx (.v (.var 1)) (.con (.int 3))), .v (.con (.int 1)), .v (.con (.int 9))])))] [],
      .ite (.cmp .Eq (.v (.idx (.v (.var 1)) (.con (.int 0)))) (.v (.con (.str "over")))) [.ret (some (.and (.cmp .Eq (.v (.blt "len" [.v (.var 1)])) (.v (.con (.int 3)))) (.and (.call "is_integer" [.v (.idx (.v (.var 1)) (.con (.int 1))), .v (.con (.int 2)), .v (.con (.int 12))]) (.call "is_integer" [.v (.idx (.v (.var 1)) (.con (.int 2))), .v (.con (.int 1)), .v (.blt "min" [.v (.con (.int 6)), .v (.idx (.v (.var 1)) (.con (.int 1)))])]))))] [],
      .ite (.or (.cmp .NotEq (.v (.idx (.v (.var 1)) (.con (.int 0)))) (.v (.con (.str "each")))) (.or (.cmp .NotEq (.v (.blt "len" [.v (.var 1)])) (.v (.con (.int 4)))) (.or (.not (.call "is_integer" [.v (.idx (.v (.var 1)) (.con (.int 1))), .v (.con (.int 2)), .v (.con (.int 6))])) (.not (.call "is_integer" [.v (.idx (.v (.var 1)) (.con (.int 2))), .v (.con (.int 1)), .v (.idx (.v (.var 1)) (.con (.int 1)))]))))) [.ret (some (.con (.bool false)))] [],
      .ret (some (.and (.call "is_most" [.v (.idx (.v (.var 1)) (.con (.int 3)))]) (.or (.cmp .IsNot (.v (.idx (.v (.var 1)) (.con (.int 3)))) (.v (.con (.none)))) (.cmp .LtE (.v (.bin .Mult (.v (.con (.int 2))) (.v (.idx (.v (.var 1)) (.con (.int 2)))))) (.v (.idx (.v (.var 1)) (.con (.int 1))))))))]⟩
def cf_is_rule : Cf := ⟨["count", "value"], [], [("is_most", []), ("is_integer", [])], [], [], [], [], []⟩
def F_stands : Fn := ⟨1, 4,
    [.ite (.or (.not (.isi (.v (.var 0)) "tuple")) (.or (.cmp .NotEq (.v (.blt "len" [.v (.var 0)])) (.v (.con (.int 2)))) (.not (.isi (.v (.idx (.v (.var 0)) (.con (.int 0)))) "tuple")))) [.ret (some (.con (.bool false)))] [],
      .unp [(.nm 1, false), (.nm 2, false)] (.var 0),
      .ite (.or (.not (.chn .LtE .LtE (.con (.int 1)) (.blt "len" [.v (.var 1)]) (.con (.int 2)))) (.not (.blt "all" [.v (.lc (.call "is_good" [.v (.var 3)]) (.one 3) (.seq (.v (.var 1))) [] [3])]))) [.ret (some (.con (.bool false)))] [],
      .ite (.or (.not (.isi (.v (.var 2)) "tuple")) (.or (.cmp .Gt (.v (.blt "len" [.v (.var 2)])) (.v (.con (.int 4)))) (.not (.blt "all" [.v (.lc (.call "is_rule" [.v (.blt "len" [.v (.var 1)]), .v (.var 3)]) (.one 3) (.seq (.v (.var 2))) [] [3])])))) [.ret (some (.con (.bool false)))] [],
      .ret (some (.cmp .LtE (.v (.blt "len" [.v (.lc (.var 3) (.one 3) (.seq (.v (.var 2))) [.and (.cmp .Eq (.v (.idx (.v (.var 3)) (.con (.int 0)))) (.v (.con (.str "each")))) (.cmp .Is (.v (.idx (.v (.var 3)) (.con (.int 3)))) (.v (.con (.none))))] [3])])) (.v (.con (.int 1)))))]⟩
def cf_stands : Cf := ⟨["value", "goods", "rules", "one"], [], [("is_good", []), ("is_rule", [])], [], [], [], [], []⟩
def F_is_shop : Fn := ⟨1, 1,
    [.ret (some (.call "stands" [.v (.var 0)]))]⟩
def cf_is_shop : Cf := ⟨["value"], [], [("stands", [])], [], [], [], [], []⟩
def F_need_shop : Fn := ⟨1, 1,
    [.ite (.not (.call "stands" [.v (.var 0)])) [.rai "InvalidShop"] []]⟩
def cf_need_shop : Cf := ⟨["shop"], [], [("stands", [])], [], ["InvalidShop"], [], [], []⟩
def F_basket_stands : Fn := ⟨2, 3,
    [.ite (.or (.not (.isi (.v (.var 1)) "tuple")) (.cmp .NotEq (.v (.blt "len" [.v (.var 1)])) (.v (.blt "len" [.v (.idx (.v (.var 0)) (.con (.int 0)))])))) [.ret (some (.con (.bool false)))] [],
      .ret (some (.blt "all" [.v (.lc (.call "is_integer" [.v (.var 2), .v (.con (.int 0)), .v (.con w_GREATEST)]) (.one 2) (.seq (.v (.var 1))) [] [2])]))]⟩
def cf_basket_stands : Cf := ⟨["shop", "value", "one"], [], [("is_integer", [])], [("GREATEST", w_GREATEST)], [], [], [], []⟩
def F_is_basket : Fn := ⟨2, 2,
    [.ex (.call "need_shop" [.v (.var 0)]),
      .ret (some (.call "basket_stands" [.v (.var 0), .v (.var 1)]))]⟩
def cf_is_basket : Cf := ⟨["shop", "value"], [], [("need_shop", []), ("basket_stands", [])], [], [], [], [], []⟩
def F__law_some_basket : Fn := ⟨3, 5,
    [.set 3 false (.call "_law_pick" [.v (.var 0), .r 1, .v (.tup [.con (.int 3), .con (.int 9), .con (.int 30), .con (.int 1000)])]),
      .ret (some (.blt "tuple" [.v (.lc (.call "_law_draw" [.v (.var 0), .r 1, .v (.var 3)]) (.one 4) (.seq (.v (.idx (.v (.var 2)) (.con (.int 0))))) [] [4])]))]⟩
def cf__law_some_basket : Cf := ⟨["script", "state", "shop", "most", "good"], [1], [("_law_pick", [1]), ("_law_draw", [1])], [], [], [], [], []⟩
def F_need_basket : Fn := ⟨2, 2,
    [.ex (.call "need_shop" [.v (.var 0)]),
      .ite (.not (.call "basket_stands" [.v (.var 0), .v (.var 1)])) [.rai "InvalidBasket"] []]⟩
def cf_need_basket : Cf := ⟨["shop", "basket"], [], [("need_shop", []), ("basket_stands", [])], [], ["InvalidBasket"], [], [], []⟩
def F_taken_times : Fn := ⟨3, 4,
    [.set 3 false (.bin .FloorDiv (.v (.var 0)) (.v (.var 1))),
      .ret (some (.ife (.cmp .Is (.v (.var 2)) (.v (.con (.none)))) (.var 3) (.blt "min" [.v (.var 3), .v (.var 2)])))]⟩
def cf_taken_times : Cf := ⟨["whole", "size", "most", "count"], [], [], [], [], [], [], []⟩
def F_rule_for : Fn := ⟨3, 5,
    [.fr (.many [3, 4]) (.enum (.v (.idx (.v (.var 0)) (.con (.int 1))))) [.ite (.and (.cmp .In (.v (.idx (.v (.var 4)) (.con (.int 0)))) (.v (.tup [.con (.str "pack"), .con (.str "from")]))) (.and (.cmp .Eq (.v (.idx (.v (.var 4)) (.con (.int 1)))) (.v (.var 1))) (.cmp .GtE (.v (.var 2)) (.v (.idx (.v (.var 4)) (.con (.int 2))))))) [.ret (some (.var 3))] []],
      .ret (some (.con (.none)))]⟩
def cf_rule_for : Cf := ⟨["shop", "good", "count", "number", "rule"], [], [], [], [], [], [], []⟩
def F_amount_of : Fn := ⟨3, 7,
    [.par [(3, false), (4, false)] [.call "rule_for" [.v (.var 0), .v (.var 1), .v (.var 2)], .idx (.v (.idx (.v (.idx (.v (.var 0)) (.con (.int 0)))) (.var 1))) (.con (.int 0))],
      .ite (.cmp .Is (.v (.var 3)) (.v (.con (.none)))) [.ret (some (.bin .Mult (.v (.var 2)) (.v (.var 4))))] [],
      .set 5 false (.idx (.v (.idx (.v (.var 0)) (.con (.int 1)))) (.var 3)),
      .ite (.cmp .Eq (.v (.idx (.v (.var 5)) (.con (.int 0)))) (.v (.con (.str "from")))) [.ret (some (.bin .Mult (.v (.var 2)) (.v (.idx (.v (.var 5)) (.con (.int 3))))))] [],
      .set 6 false (.call "taken_times" [.v (.var 2), .v (.idx (.v (.var 5)) (.con (.int 2))), .v (.idx (.v (.var 5)) (.con (.int 4)))]),
      .ret (some (.bin .Add (.v (.bin .Mult (.v (.var 6)) (.v (.idx (.v (.var 5)) (.con (.int 3)))))) (.v (.bin .Mult (.v (.bin .Sub (.v (.var 2)) (.v (.bin .Mult (.v (.var 6)) (.v (.idx (.v (.var 5)) (.con (.int 2)))))))) (.v (.var 4))))))]⟩
def cf_amount_of : Cf := ⟨["shop", "good", "count", "number", "price", "rule", "packs"], [], [("taken_times", []), ("rule_for", [])], [], [], [], [], []⟩
def F_amount_list : Fn := ⟨2, 4,
    [.ret (some (.lc (.call "amount_of" [.v (.var 0), .v (.var 2), .v (.var 3)]) (.many [2, 3]) (.enum (.v (.var 1))) [] [2, 3]))]⟩
def cf_amount_list : Cf := ⟨["shop", "basket", "good", "count"], [], [("amount_of", [])], [], [], [], [], []⟩
def F_amounts : Fn := ⟨2, 2,
    [.ex (.call "need_basket" [.v (.var 0), .v (.var 1)]),
      .ret (some (.blt "tuple" [.v (.call "amount_list" [.v (.var 0), .v (.var 1)])]))]⟩
def cf_amounts : Cf := ⟨["shop", "basket"], [], [("need_basket", []), ("amount_list", [])], [], [], [], [], []⟩
def F__law_fits : Fn := ⟨3, 5,
    [.fr (.many [3, 4]) (.enum (.v (.idx (.v (.var 0)) (.con (.int 1))))) [.ite (.and (.cmp .In (.v (.idx (.v (.var 4)) (.con (.int 0)))) (.v (.tup [.con (.str "pack"), .con (.str "from")]))) (.and (.cmp .Eq (.v (.idx (.v (.var 4)) (.con (.int 1)))) (.v (.var 1))) (.cmp .LtE (.v (.idx (.v (.var 4)) (.con (.int 2)))) (.v (.var 2))))) [.ret (some (.var 3))] []],
      .ret (some (.con (.none)))]⟩
def cf__law_fits : Cf := ⟨["shop", "good", "count", "number", "rule"], [], [], [], [], [], [], []⟩
def F__law_amount : Fn := ⟨3, 7,
    [.par [(3, false), (4, false)] [.call "_law_fits" [.v (.var 0), .v (.var 1), .v (.var 2)], .idx (.v (.idx (.v (.idx (.v (.var 0)) (.con (.int 0)))) (.var 1))) (.con (.int 0))],
      .ite (.cmp .Is (.v (.var 3)) (.v (.con (.none)))) [.ret (some (.tup [.bin .Mult (.v (.var 2)) (.v (.var 4)), .con (.int 0)]))] [],
      .set 5 false (.idx (.v (.idx (.v (.var 0)) (.con (.int 1)))) (.var 3)),
      .ite (.cmp .Eq (.v (.idx (.v (.var 5)) (.con (.int 0)))) (.v (.con (.str "from")))) [.ret (some (.tup [.bin .Mult (.v (.var 2)) (.v (.idx (.v (.var 5)) (.con (.int 3)))), .con (.int 1)]))] [],
      .set 6 false (.bin .FloorDiv (.v (.var 2)) (.v (.idx (.v (.var 5)) (.con (.int 2))))),
      .ite (.and (.cmp .IsNot (.v (.idx (.v (.var 5)) (.con (.int 4)))) (.v (.con (.none)))) (.cmp .Gt (.v (.var 6)) (.v (.idx (.v (.var 5)) (.con (.int 4)))))) [.set 6 false (.idx (.v (.var 5)) (.con (.int 4)))] [],
      .ret (some (.tup [.bin .Add (.v (.bin .Mult (.v (.var 6)) (.v (.idx (.v (.var 5)) (.con (.int 3)))))) (.v (.bin .Mult (.v (.bin .Sub (.v (.var 2)) (.v (.bin .Mult (.v (.var 6)) (.v (.idx (.v (.var 5)) (.con (.int 2)))))))) (.v (.var 4)))), .var 6]))]⟩
def cf__law_amount : Cf := ⟨["shop", "good", "count", "number", "single", "rule", "packs"], [], [("_law_fits", [])], [], [], [], [], []⟩
def F_takings : Fn := ⟨2, 5,
    [.set 2 true (.lst []),
      .fr (.one 3) (.seq (.v (.idx (.v (.var 0)) (.con (.int 1))))) [.set 4 false (.con (.int 0)),
      .ite (.and (.cmp .Eq (.v (.idx (.v (.var 3)) (.con (.int 0)))) (.v (.con (.str "over")))) (.cmp .GtE (.v (.var 1)) (.v (.idx (.v (.var 3)) (.con (.int 1)))))) [.set 4 false (.con (.int 1))] [],
      .ite (.cmp .Eq (.v (.idx (.v (.var 3)) (.con (.int 0)))) (.v (.con (.str "each")))) [.set 4 false (.call "taken_times" [.v (.var 1), .v (.idx (.v (.var 3)) (.con (.int 1))), .v (.idx (.v (.var 3)) (.con (.int 3)))])] [],
      .aug 1 .Sub (.ife (.cmp .Gt (.v (.var 4)) (.v (.con (.int 0)))) (.bin .Mult (.v (.var 4)) (.v (.idx (.v (.var 3)) (.con (.int 2))))) (.con (.int 0))),
      .ex (.app 2 (.var 4))],
      .ret (some (.tup [.mov 2, .var 1]))]⟩
def cf_takings : Cf := ⟨["shop", "total", "found", "rule", "count"], [2], [("taken_times", [])], [], [], [], [], []⟩
def F_charge_of : Fn := ⟨2, 2,
    [.ret (some (.idx (.v (.call "takings" [.v (.var 0), .v (.blt "sum" [.v (.call "amount_list" [.v (.var 0), .v (.var 1)])])])) (.con (.int 1))))]⟩
def cf_charge_of : Cf := ⟨["shop", "basket"], [], [("takings", []), ("amount_list", [])], [], [], [], [], []⟩
def F_charge : Fn := ⟨2, 2,
    [.ex (.call "need_basket" [.v (.var 0), .v (.var 1)]),
      .ret (some (.call "charge_of" [.v (.var 0), .v (.var 1)]))]⟩
def cf_charge : Cf := ⟨["shop", "basket"], [], [("need_basket", []), ("charge_of", [])], [], [], [], [], []⟩
def F__law_bill : Fn := ⟨2, 10,
    [.par [(2, true), (3, false)] [.bin .Mult (.v (.lst [.con (.int 0)])) (.v (.blt "len" [.v (.idx (.v (.var 0)) (.con (.int 1)))])), .con (.int 0)],
      .fr (.many [4, 5]) (.enum (.v (.var 1))) [.unp [(.nm 6, false), (.nm 7, false)] (.call "_law_amount" [.v (.var 0), .v (.var 4), .v (.var 5)]),
      .aug 3 .Add (.var 6),
      .set 8 false (.call "_law_fits" [.v (.var 0), .v (.var 4), .v (.var 5)]),
      .ite (.cmp .IsNot (.v (.var 8)) (.v (.con (.none)))) [.sidx 2 (.var 8) (.var 7)] []],
      .fr (.many [8, 9]) (.enum (.v (.idx (.v (.var 0)) (.con (.int 1))))) [.ite (.and (.cmp .Eq (.v (.idx (.v (.var 9)) (.con (.int 0)))) (.v (.con (.str "over")))) (.cmp .GtE (.v (.var 3)) (.v (.idx (.v (.var 9)) (.con (.int 1)))))) [.unp [(.sub 2 (.var 8), false), (.nm 3, false)] (.tup [.con (.int 1), .bin .Sub (.v (.var 3)) (.v (.idx (.v (.var 9)) (.con (.int 2))))])] [],
      .ite (.cmp .Eq (.v (.idx (.v (.var 9)) (.con (.int 0)))) (.v (.con (.str "each")))) [.set 7 false (.bin .FloorDiv (.v (.var 3)) (.v (.idx (.v (.var 9)) (.con (.int 1))))),
      .set 7 false (.ife (.or (.cmp .Is (.v (.idx (.v (.var 9)) (.con (.int 3)))) (.v (.con (.none)))) (.cmp .Lt (.v (.var 7)) (.v (.idx (.v (.var 9)) (.con (.int 3)))))) (.var 7) (.idx (.v (.var 9)) (.con (.int 3)))),
      .unp [(.sub 2 (.var 8), false), (.nm 3, false)] (.tup [.var 7, .bin .Sub (.v (.var 3)) (.v (.bin .Mult (.v (.var 7)) (.v (.idx (.v (.var 9)) (.con (.int 2))))))])] []],
      .ret (some (.tup [.var 3, .mov 2]))]⟩
def cf__law_bill : Cf := ⟨["shop", "basket", "uses_by", "total", "good", "count", "amount", "often", "number", "rule"], [2], [("_law_amount", []), ("_law_fits", [])], [], [], [], [], []⟩
def F_uses_of : Fn := ⟨2, 7,
    [.set 2 true (.pk (.call "takings" [.v (.var 0), .v (.blt "sum" [.v (.call "amount_list" [.v (.var 0), .v (.var 1)])])]) 0),
      .fr (.many [3, 4]) (.enum (.v (.var 1))) [.set 5 false (.call "rule_for" [.v (.var 0), .v (.var 3), .v (.var 4)]),
      .ite (.cmp .IsNot (.v (.var 5)) (.v (.con (.none)))) [.set 6 false (.idx (.v (.idx (.v (.var 0)) (.con (.int 1)))) (.var 5)),
      .sidx 2 (.var 5) (.ife (.cmp .Eq (.v (.idx (.v (.var 6)) (.con (.int 0)))) (.v (.con (.str "from")))) (.con (.int 1)) (.call "taken_times" [.v (.var 4), .v (.idx (.v (.var 6)) (.con (.int 2))), .v (.idx (.v (.var 6)) (.con (.int 4)))]))] []],
      .ret (some (.var 2))]⟩
def cf_uses_of : Cf := ⟨["shop", "basket", "found", "good", "count", "number", "rule"], [2], [("takings", []), ("rule_for", []), ("amount_list", []), ("taken_times", [])], [], [], [], [], []⟩
def F_uses : Fn := ⟨2, 2,
    [.ex (.call "need_basket" [.v (.var 0), .v (.var 1)]),
      .ret (some (.blt "tuple" [.v (.call "uses_of" [.v (.var 0), .v (.var 1)])]))]⟩
def cf_uses : Cf := ⟨["shop", "basket"], [], [("need_basket", []), ("uses_of", [])], [], [], [], [], []⟩
def F_gain_of : Fn := ⟨2, 4,
    [.ret (some (.bin .Sub (.v (.call "charge_of" [.v (.var 0), .v (.var 1)])) (.v (.blt "sum" [.v (.lc (.bin .Mult (.v (.idx (.v (.var 2)) (.con (.int 1)))) (.v (.var 3))) (.many [2, 3]) (.zip (.v (.idx (.v (.var 0)) (.con (.int 0)))) (.v (.var 1))) [] [2, 3])]))))]⟩
def cf_gain_of : Cf := ⟨["shop", "basket", "good", "count"], [], [("charge_of", [])], [], [], [], [], []⟩
def F_gain : Fn := ⟨2, 2,
    [.ex (.call "need_basket" [.v (.var 0), .v (.var 1)]),
      .ret (some (.call "gain_of" [.v (.var 0), .v (.var 1)]))]⟩
def cf_gain : Cf := ⟨["shop", "basket"], [], [("need_basket", []), ("gain_of", [])], [], [], [], [], []⟩
def F__law_costs : Fn := ⟨2, 4,
    [.ret (some (.blt "sum" [.v (.lc (.bin .Mult (.v (.idx (.v (.var 2)) (.con (.int 1)))) (.v (.var 3))) (.many [2, 3]) (.zip (.v (.idx (.v (.var 0)) (.con (.int 0)))) (.v (.var 1))) [] [2, 3])]))]⟩
def cf__law_costs : Cf := ⟨["shop", "basket", "good", "count"], [], [], [], [], [], [], []⟩
def F_without : Fn := ⟨2, 2,
    [.ret (some (.tup [.idx (.v (.var 0)) (.con (.int 0)), .bin .Add (.v (.sli (.v (.idx (.v (.var 0)) (.con (.int 1)))) none (some (.var 1)))) (.v (.sli (.v (.idx (.v (.var 0)) (.con (.int 1)))) (some (.bin .Add (.v (.var 1)) (.v (.con (.int 1))))) none))]))]⟩
def cf_without : Cf := ⟨["shop", "number"], [], [], [], [], [], [], []⟩
def F_effects : Fn := ⟨2, 4,
    [.ex (.call "need_basket" [.v (.var 0), .v (.var 1)]),
      .set 2 false (.call "charge_of" [.v (.var 0), .v (.var 1)]),
      .ret (some (.lc (.bin .Sub (.v (.call "charge_of" [.v (.call "without" [.v (.var 0), .v (.var 3)]), .v (.var 1)])) (.v (.var 2))) (.one 3) (.rng [.blt "len" [.v (.idx (.v (.var 0)) (.con (.int 1)))]]) [] [3]))]⟩
def cf_effects : Cf := ⟨["shop", "basket", "own", "number"], [], [("need_basket", []), ("charge_of", []), ("without", [])], [], [], [], [], []⟩
def F_need_small : Fn := ⟨2, 2,
    [.ex (.call "need_basket" [.v (.var 0), .v (.var 1)]),
      .ite (.cmp .Gt (.v (.blt "sum" [.v (.var 1)])) (.v (.con (.int 100)))) [.rai "InvalidBasket"] []]⟩
def cf_need_small : Cf := ⟨["shop", "basket"], [], [("need_basket", [])], [], ["InvalidBasket"], [], [], []⟩
def F_Prices___init__ : Fn := ⟨2, 2, [.pri]⟩
def F_Prices : Fn := ⟨2, 2, [.ret (some (.call "Prices.__init__" [.v (.var 0), .v (.var 1)]))]⟩
def F_baskets_by_pieces : Fn := ⟨2, 7,
    [.ite (.cmp .Eq (.v (.blt "len" [.v (.var 0)])) (.v (.con (.int 1)))) [.ret (some (.lc (.tup [.var 6]) (.one 6) (.rng [.idx (.v (.var 0)) (.con (.int 0)), .bin .Add (.v (.idx (.v (.var 1)) (.con (.int 0)))) (.v (.con (.int 1)))]) [] [6]))] [],
      .set 2 true (.lst []),
      .fr (.one 3) (.rng [.bin .Add (.v (.idx (.v (.var 0)) (.con (.int 0)))) (.v (.idx (.v (.var 0)) (.con (.int 1)))), .bin .Add (.v (.bin .Add (.v (.idx (.v (.var 1)) (.con (.int 0)))) (.v (.idx (.v (.var 1)) (.con (.int 1)))))) (.v (.con (.int 1)))]) [.par [(4, false), (5, false)] [.blt "max" [.v (.idx (.v (.var 0)) (.con (.int 0))), .v (.bin .Sub (.v (.var 3)) (.v (.idx (.v (.var 1)) (.con (.int 1)))))], .blt "min" [.v (.idx (.v (.var 1)) (.con (.int 0))), .v (.bin .Sub (.v (.var 3)) (.v (.idx (.v (.var 0)) (.con (.int 1)))))]],
      .ex (.ext 2 (.v (.lc (.tup [.var 6, .bin .Sub (.v (.var 3)) (.v (.var 6))]) (.one 6) (.rng [.var 4, .bin .Add (.v (.var 5)) (.v (.con (.int 1)))]) [] [6])))],
      .ret (some (.var 2))]⟩
def cf_baskets_by_pieces : Cf := ⟨["low", "high", "found", "total", "first", "last", "count"], [2], [], [], [], [], [], []⟩
def F_first_rule : Fn := ⟨2, 4,
    [.set 2 false (.lc (.var 3) (.one 3) (.seq (.v (.idx (.v (.var 0)) (.con (.int 1))))) [.and (.cmp .In (.v (.idx (.v (.var 3)) (.con (.int 0)))) (.v (.tup [.con (.str "pack"), .con (.str "from")]))) (.cmp .Eq (.v (.idx (.v (.var 3)) (.con (.int 1)))) (.v (.var 1)))] [3]),
      .ret (some (.ife (.cmp .NotEq (.v (.var 2)) (.v (.lst []))) (.idx (.v (.var 2)) (.con (.int 0))) (.con (.none))))]⟩
def cf_first_rule : Cf := ⟨["shop", "good", "some", "rule"], [], [], [], [], [], [], []⟩
def F_steady : Fn := ⟨2, 4,
    [.par [(2, false), (3, false)] [.call "first_rule" [.v (.var 0), .v (.var 1)], .idx (.v (.idx (.v (.idx (.v (.var 0)) (.con (.int 0)))) (.var 1))) (.con (.int 0))],
      .ite (.cmp .Is (.v (.var 2)) (.v (.con (.none)))) [.ret (some (.tup [.con (.int 0), .con (.int 1), .var 3]))] [],
      .ite (.cmp .Eq (.v (.idx (.v (.var 2)) (.con (.int 0)))) (.v (.con (.str "from")))) [.ret (some (.tup [.idx (.v (.var 2)) (.con (.int 2)), .con (.int 1), .idx (.v (.var 2)) (.con (.int 3))]))] [],
      .ite (.cmp .Is (.v (.idx (.v (.var 2)) (.con (.int 4)))) (.v (.con (.none)))) [.ret (some (.tup [.idx (.v (.var 2)) (.con (.int 2)), .idx (.v (.var 2)) (.con (.int 2)), .idx (.v (.var 2)) (.con (.int 3))]))] [],
      .ret (some (.tup [.bin .Mult (.v (.idx (.v (.var 2)) (.con (.int 2)))) (.v (.idx (.v (.var 2)) (.con (.int 4)))), .con (.int 1), .var 3]))]⟩
def cf_steady : Cf := ⟨["shop", "good", "rule", "price"], [], [("first_rule", [])], [], [], [], [], []⟩
def F_endless : Fn := ⟨1, 2,
    [.fr (.one 1) (.seq (.v (.idx (.v (.var 0)) (.con (.int 1))))) [.ite (.and (.cmp .Eq (.v (.idx (.v (.var 1)) (.con (.int 0)))) (.v (.con (.str "each")))) (.cmp .Is (.v (.idx (.v (.var 1)) (.con (.int 3)))) (.v (.con (.none))))) [.ret (some (.tup [.idx (.v (.var 1)) (.con (.int 1)), .idx (.v (.var 1)) (.con (.int 2))]))] []],
      .ret (some (.tup [.con (.int 1), .con (.int 0)]))]⟩
def cf_endless : Cf := ⟨["shop", "rule"], [], [], [], [], [], [], []⟩
def F_divisor : Fn := ⟨2, 2,
    [.wh (.cmp .Gt (.v (.var 1)) (.v (.con (.int 0)))) [.par [(0, false), (1, false)] [.var 1, .bin .Mod (.v (.var 0)) (.v (.var 1))]],
      .ret (some (.var 0))]⟩
def cf_divisor : Cf := ⟨["one", "other"], [], [], [], [], [], [], []⟩
def F_settled : Fn := ⟨1, 4,
    [.unp [(.nm 1, false), (.nm 2, false)] (.tup [.con (.int 0), .con (.int 0)]),
      .fr (.one 3) (.seq (.v (.idx (.v (.var 0)) (.con (.int 1))))) [.ite (.cmp .Eq (.v (.idx (.v (.var 3)) (.con (.int 0)))) (.v (.con (.str "over")))) [.par [(1, false), (2, false)] [.bin .Add (.v (.var 1)) (.v (.idx (.v (.var 3)) (.con (.int 2)))), .blt "max" [.v (.var 2), .v (.idx (.v (.var 3)) (.con (.int 1)))]]] [],
      .ite (.and (.cmp .Eq (.v (.idx (.v (.var 3)) (.con (.int 0)))) (.v (.con (.str "each")))) (.cmp .IsNot (.v (.idx (.v (.var 3)) (.con (.int 3)))) (.v (.con (.none))))) [.par [(1, false), (2, false)] [.bin .Add (.v (.var 1)) (.v (.bin .Mult (.v (.idx (.v (.var 3)) (.con (.int 2)))) (.v (.idx (.v (.var 3)) (.con (.int 3)))))), .blt "max" [.v (.var 2), .v (.bin .Mult (.v (.idx (.v (.var 3)) (.con (.int 1)))) (.v (.idx (.v (.var 3)) (.con (.int 3)))))]]] []],
      .ret (some (.bin .Add (.v (.bin .Mult (.v (.con (.int 2))) (.v (.bin .Add (.v (.var 2)) (.v (.var 1)))))) (.v (.var 1))))]⟩
def cf_settled : Cf := ⟨["shop", "once", "asked", "rule"], [], [], [], [], [], [], []⟩
def F_period : Fn := ⟨2, 11,
    [.unp [(.nm 2, false), (.nm 3, false), (.nm 4, false)] (.call "steady" [.v (.var 0), .v (.var 1)]),
      .unp [(.nm 5, false), (.nm 6, false)] (.call "endless" [.v (.var 0)]),
      .set 7 false (.bin .FloorDiv (.v (.var 5)) (.v (.call "divisor" [.v (.var 5), .v (.var 4)]))),
      .unp [(.nm 8, false), (.nm 9, false)] (.tup [.call "settled" [.v (.var 0)], .var 2]),
      .wh (.blt "any" [.v (.lc (.cmp .Lt (.v (.call "amount_of" [.v (.var 0), .v (.var 1), .v (.bin .Add (.v (.var 9)) (.v (.var 10)))])) (.v (.var 8))) (.one 10) (.rng [.var 3]) [] [10])]) [.aug 9 .Add (.con (.int 1))],
      .set 10 false (.bin .Mult (.v (.var 7)) (.v (.var 4))),
      .ret (some (.tup [.var 9, .bin .Mult (.v (.var 7)) (.v (.var 3)), .bin .Sub (.v (.var 10)) (.v (.bin .Mult (.v (.bin .FloorDiv (.v (.var 10)) (.v (.var 5)))) (.v (.var 6))))]))]⟩
def cf_period : Cf := ⟨["shop", "good", "begin", "step", "growth", "size", "off", "times", "bound", "count", "more"], [], [("steady", []), ("endless", []), ("divisor", []), ("settled", []), ("amount_of", [])], [], [], [], [], []⟩
def F_periods : Fn := ⟨1, 2,
    [.ret (some (.lc (.call "period" [.v (.var 0), .v (.var 1)]) (.one 1) (.rng [.blt "len" [.v (.idx (.v (.var 0)) (.con (.int 0)))]]) [] [1]))]⟩
def cf_periods : Cf := ⟨["shop", "good"], [], [("period", [])], [], [], [], [], []⟩
def F_highest : Fn := ⟨2, 4,
    [.ret (some (.blt "tuple" [.v (.lc (.bin .Add (.v (.blt "max" [.v (.var 2), .v (.idx (.v (.var 3)) (.con (.int 0)))])) (.v (.idx (.v (.var 3)) (.con (.int 1))))) (.many [2, 3]) (.zip (.v (.var 1)) (.v (.call "periods" [.v (.var 0)]))) [] [2, 3])]))]⟩
def cf_highest : Cf := ⟨["shop", "basket", "count", "own"], [], [("periods", [])], [], [], [], [], []⟩
def F_Prices_charge : Fn := ⟨2, 4,
    [.ret (some (.idx (.v (.att (.var 0) "Prices" "left")) (.blt "sum" [.v (.lc (.idx (.v (.var 2)) (.var 3)) (.many [2, 3]) (.zip (.v (.att (.var 0) "Prices" "rows")) (.v (.var 1))) [] [2, 3])])))]⟩
def cf_Prices_charge : Cf := ⟨["self", "basket", "row", "count"], [], [], [], [], [], [], [("left", "Prices"), ("rows", "Prices")]⟩
def F_least_above : Fn := ⟨2, 6,
    [.ex (.call "need_small" [.v (.var 0), .v (.var 1)]),
      .par [(2, false), (3, false)] [.call "highest" [.v (.var 0), .v (.var 1)], .con (.none)],
      .set 4 false (.new "Prices" [.v (.var 0), .v (.var 2)]),
      .fr (.one 5) (.seq (.v (.call "baskets_by_pieces" [.v (.var 1), .v (.var 2)]))) [.ite (.or (.cmp .Is (.v (.var 3)) (.v (.con (.none)))) (.cmp .Lt (.v (.mth "Prices" "charge" (.v (.var 4)) [.v (.var 5)])) (.v (.idx (.v (.var 3)) (.con (.int 0)))))) [.set 3 false (.tup [.mth "Prices" "charge" (.v (.var 4)) [.v (.var 5)], .var 5])] []],
      .ret (some (.var 3))]⟩
def cf_least_above : Cf := ⟨["shop", "basket", "high", "best", "prices", "other"], [], [("need_small", []), ("baskets_by_pieces", []), ("highest", [])], [], [], ["Prices"], [("charge", "Prices")], []⟩
def F_fewest_more : Fn := ⟨2, 5,
    [.ex (.call "need_small" [.v (.var 0), .v (.var 1)]),
      .set 2 false (.call "highest" [.v (.var 0), .v (.var 1)]),
      .set 3 false (.new "Prices" [.v (.var 0), .v (.var 2)]),
      .fr (.one 4) (.seq (.v (.call "baskets_by_pieces" [.v (.var 1), .v (.var 2)]))) [.ite (.cmp .Lt (.v (.mth "Prices" "charge" (.v (.var 3)) [.v (.var 4)])) (.v (.mth "Prices" "charge" (.v (.var 3)) [.v (.var 1)]))) [.ret (some (.var 4))] []],
      .ret (some (.con (.none)))]⟩
def cf_fewest_more : Cf := ⟨["shop", "basket", "high", "prices", "other"], [], [("need_small", []), ("highest", []), ("baskets_by_pieces", [])], [], [], ["Prices"], [("charge", "Prices")], []⟩
def F__law_more : Fn := ⟨3, 3,
    [.ret (some (.bin .Add (.v (.bin .Add (.v (.sli (.v (.var 0)) none (some (.var 1)))) (.v (.tup [.bin .Add (.v (.idx (.v (.var 0)) (.var 1))) (.v (.var 2))])))) (.v (.sli (.v (.var 0)) (some (.bin .Add (.v (.var 1)) (.v (.con (.int 1))))) none))))]⟩
def cf__law_more : Cf := ⟨["basket", "good", "count"], [], [], [], [], [], [], []⟩
def F__law_baskets : Fn := ⟨1, 5,
    [.ite (.cmp .Eq (.v (.blt "len" [.v (.var 0)])) (.v (.con (.int 1)))) [.ret (some (.lc (.tup [.var 4]) (.one 4) (.rng [.bin .Add (.v (.idx (.v (.var 0)) (.con (.int 0)))) (.v (.con (.int 1)))]) [] [4]))] [],
      .set 1 true (.lst []),
      .fr (.one 2) (.rng [.bin .Add (.v (.blt "sum" [.v (.var 0)])) (.v (.con (.int 1)))]) [.fr (.one 3) (.rng [.bin .Add (.v (.blt "min" [.v (.var 2), .v (.idx (.v (.var 0)) (.con (.int 0)))])) (.v (.con (.int 1)))]) [.ite (.cmp .LtE (.v (.bin .Sub (.v (.var 2)) (.v (.var 3)))) (.v (.idx (.v (.var 0)) (.con (.int 1))))) [.ex (.app 1 (.tup [.var 3, .bin .Sub (.v (.var 2)) (.v (.var 3))]))] []]],
      .ret (some (.var 1))]⟩
def cf__law_baskets : Cf := ⟨["high", "found", "total", "first", "count"], [1], [], [], [], [], [], []⟩
def F__law_first_less : Fn := ⟨2, 5,
    [.fr (.one 2) (.seq (.v (.call "_law_baskets" [.v (.var 1)]))) [.set 3 false (.idx (.v (.call "_law_bill" [.v (.var 0), .v (.var 2)])) (.con (.int 0))),
      .fr (.one 4) (.rng [.blt "len" [.v (.var 2)]]) [.ite (.cmp .Lt (.v (.idx (.v (.call "_law_bill" [.v (.var 0), .v (.call "_law_more" [.v (.var 2), .v (.var 4), .v (.con (.int 1))])])) (.con (.int 0)))) (.v (.var 3))) [.ret (some (.tup [.con (.str "less"), .var 2, .var 4]))] []]],
      .ret (some (.con (.none)))]⟩
def cf__law_first_less : Cf := ⟨["shop", "high", "basket", "own", "good"], [], [("_law_baskets", []), ("_law_bill", []), ("_law_more", [])], [], [], [], [], []⟩
def F__law_high : Fn := ⟨1, 7,
    [.unp [(.nm 1, false), (.nm 2, false)] (.tup [.con (.int 0), .con (.int 0)]),
      .fr (.one 3) (.seq (.v (.idx (.v (.var 0)) (.con (.int 1))))) [.ite (.cmp .Eq (.v (.idx (.v (.var 3)) (.con (.int 0)))) (.v (.con (.str "over")))) [.par [(1, false), (2, false)] [.bin .Add (.v (.var 1)) (.v (.idx (.v (.var 3)) (.con (.int 2)))), .blt "max" [.v (.var 2), .v (.idx (.v (.var 3)) (.con (.int 1)))]]] [],
      .ite (.and (.cmp .Eq (.v (.idx (.v (.var 3)) (.con (.int 0)))) (.v (.con (.str "each")))) (.cmp .IsNot (.v (.idx (.v (.var 3)) (.con (.int 3)))) (.v (.con (.none))))) [.par [(1, false), (2, false)] [.bin .Add (.v (.var 1)) (.v (.bin .Mult (.v (.idx (.v (.var 3)) (.con (.int 2)))) (.v (.idx (.v (.var 3)) (.con (.int 3)))))), .blt "max" [.v (.var 2), .v (.bin .Mult (.v (.idx (.v (.var 3)) (.con (.int 1)))) (.v (.idx (.v (.var 3)) (.con (.int 3)))))]]] []],
      .set 4 true (.lst []),
      .fr (.one 5) (.rng [.blt "len" [.v (.idx (.v (.var 0)) (.con (.int 0)))]]) [.set 6 false (.con (.int 6)),
      .wh (.cmp .Lt (.v (.idx (.v (.call "_law_amount" [.v (.var 0), .v (.var 5), .v (.var 6)])) (.con (.int 0)))) (.v (.bin .Add (.v (.bin .Mult (.v (.con (.int 2))) (.v (.bin .Add (.v (.var 2)) (.v (.var 1)))))) (.v (.var 1))))) [.aug 6 .Add (.con (.int 1))],
      .ex (.app 4 (.bin .Add (.v (.var 6)) (.v (.con (.int 18)))))],
      .ret (some (.var 4))]⟩
def cf__law_high : Cf := ⟨["shop", "once", "asked", "rule", "found", "good", "count"], [4], [("_law_amount", [])], [], [], [], [], []⟩
def F__law_same_truth : Fn := ⟨2, 2,
    [.ret (some (.and (.isi (.v (.var 0)) "bool") (.cmp .Eq (.v (.var 0)) (.v (.var 1)))))]⟩
def cf__law_same_truth : Cf := ⟨["got", "due"], [], [], [], [], [], [], []⟩
def F_with_more : Fn := ⟨3, 3,
    [.ret (some (.bin .Add (.v (.bin .Add (.v (.sli (.v (.var 0)) none (some (.var 1)))) (.v (.tup [.bin .Add (.v (.idx (.v (.var 0)) (.var 1))) (.v (.var 2))])))) (.v (.sli (.v (.var 0)) (some (.bin .Add (.v (.var 1)) (.v (.con (.int 1))))) none))))]⟩
def cf_with_more : Cf := ⟨["basket", "good", "count"], [], [], [], [], [], [], []⟩
def F_less_in : Fn := ⟨2, 6,
    [.set 2 false (.new "Prices" [.v (.var 0), .v (.blt "tuple" [.v (.lc (.bin .Add (.v (.var 5)) (.v (.con (.int 1)))) (.one 5) (.seq (.v (.var 1))) [] [5])])]),
      .fr (.one 3) (.seq (.v (.call "baskets_by_pieces" [.v (.bin .Mult (.v (.tup [.con (.int 0)])) (.v (.blt "len" [.v (.var 1)]))), .v (.var 1)]))) [.fr (.one 4) (.rng [.blt "len" [.v (.var 1)]]) [.ite (.cmp .Lt (.v (.mth "Prices" "charge" (.v (.var 2)) [.v (.call "with_more" [.v (.var 3), .v (.var 4), .v (.con (.int 1))])])) (.v (.mth "Prices" "charge" (.v (.var 2)) [.v (.var 3)]))) [.ret (some (.tup [.con (.str "less"), .var 3, .var 4]))] []]],
      .ret (some (.con (.none)))]⟩
def cf_less_in : Cf := ⟨["shop", "high", "prices", "basket", "good", "count"], [], [("baskets_by_pieces", []), ("with_more", [])], [], [], ["Prices"], [("charge", "Prices")], []⟩
def F_limits : Fn := ⟨1, 4,
    [.ret (some (.blt "tuple" [.v (.lc (.bin .Add (.v (.var 1)) (.v (.var 2))) (.many [1, 2, 3]) (.seq (.v (.call "periods" [.v (.var 0)]))) [] [1, 2, 3])]))]⟩
def cf_limits : Cf := ⟨["shop", "begin", "step", "growth"], [], [("periods", [])], [], [], [], [], []⟩
def F_found_less : Fn := ⟨1, 1,
    [.ret (some (.call "less_in" [.v (.var 0), .v (.call "limits" [.v (.var 0)])]))]⟩
def cf_found_less : Cf := ⟨["shop"], [], [("less_in", []), ("limits", [])], [], [], [], [], []⟩
def F_first_less : Fn := ⟨1, 2,
    [.ex (.call "need_shop" [.v (.var 0)]),
      .set 1 false (.call "found_less" [.v (.var 0)]),
      .ite (.cmp .Is (.v (.var 1)) (.v (.con (.none)))) [.rai "NoFault"] [],
      .ret (some (.var 1))]⟩
def cf_first_less : Cf := ⟨["shop", "found"], [], [("need_shop", []), ("found_less", [])], [], ["NoFault"], [], [], []⟩
def F__law_first : Fn := ⟨1, 2,
    [.tr 1 [.ret (some (.call "first_less" [.v (.var 0)]))]]⟩
def cf__law_first : Cf := ⟨["shop", "e"], [], [("first_less", [])], [], ["_law_which"], [], [], []⟩
def F_has_less : Fn := ⟨1, 1,
    [.ex (.call "need_shop" [.v (.var 0)]),
      .ret (some (.cmp .IsNot (.v (.call "found_less" [.v (.var 0)])) (.v (.con (.none)))))]⟩
def cf_has_less : Cf := ⟨["shop"], [], [("need_shop", []), ("found_less", [])], [], [], [], [], []⟩
def F_box : Fn := ⟨1, 1,
    [.ex (.call "need_shop" [.v (.var 0)]),
      .ret (some (.call "limits" [.v (.var 0)]))]⟩
def cf_box : Cf := ⟨["shop"], [], [("need_shop", []), ("limits", [])], [], [], [], [], []⟩
def F_shows : Fn := ⟨2, 2,
    [.ite (.or (.not (.isi (.v (.var 1)) "tuple")) (.or (.not (.chn .LtE .LtE (.con (.int 2)) (.blt "len" [.v (.var 1)]) (.con (.int 3)))) (.not (.isi (.v (.idx (.v (.var 1)) (.con (.int 0)))) "str")))) [.ret (some (.con (.bool false)))] [],
      .ite (.not (.call "basket_stands" [.v (.var 0), .v (.idx (.v (.var 1)) (.con (.int 1)))])) [.ret (some (.con (.bool false)))] [],
      .ite (.cmp .Eq (.v (.idx (.v (.var 1)) (.con (.int 0)))) (.v (.con (.str "loss")))) [.ret (some (.and (.cmp .Eq (.v (.blt "len" [.v (.var 1)])) (.v (.con (.int 2)))) (.cmp .Lt (.v (.call "gain_of" [.v (.var 0), .v (.idx (.v (.var 1)) (.con (.int 1)))])) (.v (.con (.int 0))))))] [],
      .ite (.or (.cmp .NotEq (.v (.idx (.v (.var 1)) (.con (.int 0)))) (.v (.con (.str "less")))) (.or (.cmp .NotEq (.v (.blt "len" [.v (.var 1)])) (.v (.con (.int 3)))) (.not (.call "is_integer" [.v (.idx (.v (.var 1)) (.con (.int 2))), .v (.con (.int 0)), .v (.bin .Sub (.v (.blt "len" [.v (.idx (.v (.var 0)) (.con (.int 0)))])) (.v (.con (.int 1))))])))) [.ret (some (.con (.bool false)))] [],
      .ret (some (.cmp .Lt (.v (.call "charge_of" [.v (.var 0), .v (.call "with_more" [.v (.idx (.v (.var 1)) (.con (.int 1))), .v (.idx (.v (.var 1)) (.con (.int 2))), .v (.con (.int 1))])])) (.v (.call "charge_of" [.v (.var 0), .v (.idx (.v (.var 1)) (.con (.int 1)))]))))]⟩
def cf_shows : Cf := ⟨["shop", "value"], [], [("basket_stands", []), ("charge_of", []), ("is_integer", []), ("with_more", []), ("gain_of", [])], [], [], [], [], []⟩
def F_is_fault : Fn := ⟨2, 2,
    [.ex (.call "need_shop" [.v (.var 0)]),
      .ret (some (.call "shows" [.v (.var 0), .v (.var 1)]))]⟩
def cf_is_fault : Cf := ⟨["shop", "value"], [], [("need_shop", []), ("shows", [])], [], [], [], [], []⟩
def F__law_is_loss : Fn := ⟨1, 6,
    [.set 1 false (.call "_law_high" [.v (.var 0)]),
      .fr (.one 2) (.seq (.v (.call "_law_baskets" [.v (.var 1)]))) [.ite (.cmp .Lt (.v (.idx (.v (.call "_law_bill" [.v (.var 0), .v (.var 2)])) (.con (.int 0)))) (.v (.call "_law_costs" [.v (.var 0), .v (.var 2)]))) [.ret (some (.con (.bool true)))] []],
      .fr (.one 3) (.rng [.blt "len" [.v (.var 1)]]) [.set 4 false (.bin .Add (.v (.bin .Add (.v (.bin .Mult (.v (.tup [.con (.int 0)])) (.v (.var 3)))) (.v (.tup [.bin .Add (.v (.idx (.v (.var 1)) (.var 3))) (.v (.con (.int 360)))])))) (.v (.bin .Mult (.v (.tup [.con (.int 0)])) (.v (.bin .Sub (.v (.bin .Sub (.v (.blt "len" [.v (.var 1)])) (.v (.var 3)))) (.v (.con (.int 1)))))))),
      .set 5 false (.call "_law_more" [.v (.var 4), .v (.var 3), .v (.con (.int 360))]),
      .ite (.cmp .Lt (.v (.bin .Sub (.v (.idx (.v (.call "_law_bill" [.v (.var 0), .v (.var 5)])) (.con (.int 0)))) (.v (.idx (.v (.call "_law_bill" [.v (.var 0), .v (.var 4)])) (.con (.int 0)))))) (.v (.bin .Sub (.v (.call "_law_costs" [.v (.var 0), .v (.var 5)])) (.v (.call "_law_costs" [.v (.var 0), .v (.var 4)]))))) [.ret (some (.con (.bool true)))] []],
      .ret (some (.con (.bool false)))]⟩
def cf__law_is_loss : Cf := ⟨["shop", "high", "basket", "good", "far", "later"], [], [("_law_high", []), ("_law_baskets", []), ("_law_more", []), ("_law_costs", []), ("_law_bill", [])], [], [], [], [], []⟩
def F_found_loss : Fn := ⟨1, 12,
    [.set 1 false (.call "limits" [.v (.var 0)]),
      .set 2 false (.new "Prices" [.v (.var 0), .v (.var 1)]),
      .fr (.one 3) (.seq (.v (.call "baskets_by_pieces" [.v (.bin .Mult (.v (.tup [.con (.int 0)])) (.v (.blt "len" [.v (.var 1)]))), .v (.var 1)]))) [.ite (.cmp .Lt (.v (.mth "Prices" "charge" (.v (.var 2)) [.v (.var 3)])) (.v (.blt "sum" [.v (.lc (.bin .Mult (.v (.idx (.v (.var 4)) (.con (.int 1)))) (.v (.var 11))) (.many [4, 11]) (.zip (.v (.idx (.v (.var 0)) (.con (.int 0)))) (.v (.var 3))) [] [4, 11])]))) [.ret (some (.tup [.con (.str "loss"), .var 3]))] []],
      .fr (.many [4, 5]) (.enum (.v (.call "periods" [.v (.var 0)]))) [.unp [(.nm 6, false), (.nm 7, false), (.nm 8, false)] (.var 5),
      .set 9 false (.bin .Sub (.v (.bin .Mult (.v (.idx (.v (.idx (.v (.idx (.v (.var 0)) (.con (.int 0)))) (.var 4))) (.con (.int 1)))) (.v (.var 7)))) (.v (.var 8))),
      .ite (.cmp .Gt (.v (.var 9)) (.v (.con (.int 0)))) [.set 3 false (.call "with_more" [.v (.bin .Mult (.v (.tup [.con (.int 0)])) (.v (.blt "len" [.v (.var 1)]))), .v (.var 4), .v (.var 6)]),
      .set 10 false (.bin .Add (.v (.bin .FloorDiv (.v (.call "gain_of" [.v (.var 0), .v (.var 3)])) (.v (.var 9)))) (.v (.con (.int 1)))),
      .ret (some (.tup [.con (.str "loss"), .call "with_more" [.v (.var 3), .v (.var 4), .v (.bin .Mult (.v (.var 10)) (.v (.var 7)))]]))] []],
      .ret (some (.con (.none)))]⟩
def cf_found_loss : Cf := ⟨["shop", "high", "prices", "basket", "good", "own", "begin", "step", "growth", "fall", "times", "count"], [], [("limits", []), ("baskets_by_pieces", []), ("periods", []), ("with_more", []), ("gain_of", [])], [], [], ["Prices"], [("charge", "Prices")], []⟩
def F_some_loss : Fn := ⟨1, 2,
    [.ex (.call "need_shop" [.v (.var 0)]),
      .set 1 false (.call "found_loss" [.v (.var 0)]),
      .ite (.cmp .Is (.v (.var 1)) (.v (.con (.none)))) [.rai "NoFault"] [],
      .ret (some (.var 1))]⟩
def cf_some_loss : Cf := ⟨["shop", "found"], [], [("need_shop", []), ("found_loss", [])], [], ["NoFault"], [], [], []⟩
def F__law_some : Fn := ⟨1, 2,
    [.tr 1 [.ret (some (.call "some_loss" [.v (.var 0)]))]]⟩
def cf__law_some : Cf := ⟨["shop", "e"], [], [("some_loss", [])], [], ["_law_which"], [], [], []⟩
def F_has_loss : Fn := ⟨1, 1,
    [.ex (.call "need_shop" [.v (.var 0)]),
      .ret (some (.cmp .IsNot (.v (.call "found_loss" [.v (.var 0)])) (.v (.con (.none)))))]⟩
def cf_has_loss : Cf := ⟨["shop"], [], [("need_shop", []), ("found_loss", [])], [], [], [], [], []⟩
def F__law_all_acts : Fn := ⟨1, 5,
    [.set 1 true (.lst []),
      .fr (.many [2, 3]) (.enum (.v (.idx (.v (.var 0)) (.con (.int 1))))) [.ex (.app 1 (.tup [.con (.str "off"), .var 2])),
      .ite (.cmp .In (.v (.idx (.v (.var 3)) (.con (.int 0)))) (.v (.tup [.con (.str "pack"), .con (.str "each")]))) [.ex (.ext 1 (.v (.lc (.tup [.con (.str "most"), .var 2, .var 4]) (.one 4) (.seq (.v (.tup [.con (.int 1), .con (.int 2)]))) [.or (.cmp .Is (.v (.idx (.v (.var 3)) (.neg (.con (.int 1))))) (.v (.con (.none)))) (.cmp .Lt (.v (.var 4)) (.v (.idx (.v (.var 3)) (.neg (.con (.int 1))))))] [4])))] []],
      .ret (some (.blt "sorted" [.r 1]))]⟩
def cf__law_all_acts : Cf := ⟨["shop", "found", "number", "rule", "most"], [1], [], [], [], [], [], []⟩
def F__law_some_of : Fn := ⟨4, 6,
    [.par [(4, true), (5, true)] [.blt "list" [.v (.var 2)], .lst []],
      .wh (.and (.cmp .NotEq (.r 4) (.v (.lst []))) (.cmp .Lt (.v (.blt "len" [.r 5])) (.v (.var 3)))) [.ex (.app 5 (.pop 4 (some (.call "_law_draw" [.v (.var 0), .r 1, .v (.blt "len" [.r 4])]))))],
      .ret (some (.blt "tuple" [.v (.blt "sorted" [.r 5])]))]⟩
def cf__law_some_of : Cf := ⟨["script", "state", "some", "count", "left", "found"], [1, 4, 5], [("_law_draw", [1])], [], [], [], [], []⟩
def F__law_some_acts : Fn := ⟨4, 5,
    [.set 4 false (.call "_law_all_acts" [.v (.var 2)]),
      .ret (some (.ife (.cmp .NotEq (.v (.var 4)) (.v (.lst []))) (.call "_law_some_of" [.v (.var 0), .r 1, .v (.var 4), .v (.call "_law_draw" [.v (.var 0), .r 1, .v (.bin .Add (.v (.var 3)) (.v (.con (.int 1))))])]) (.tup [])))]⟩
def cf__law_some_acts : Cf := ⟨["script", "state", "shop", "most", "some"], [1], [("_law_all_acts", []), ("_law_some_of", [1]), ("_law_draw", [1])], [], [], [], [], []⟩
def F_rises : Fn := ⟨1, 3,
    [.ret (some (.blt "all" [.v (.lc (.cmp .Lt (.v (.var 1)) (.v (.var 2))) (.many [1, 2]) (.zip (.v (.var 0)) (.v (.sli (.v (.var 0)) (some (.con (.int 1))) none))) [] [1, 2])]))]⟩
def cf_rises : Cf := ⟨["some", "one", "other"], [], [], [], [], [], [], []⟩
def F_most_of : Fn := ⟨1, 1,
    [.ret (some (.ife (.cmp .In (.v (.idx (.v (.var 0)) (.con (.int 0)))) (.v (.tup [.con (.str "pack"), .con (.str "each")]))) (.idx (.v (.var 0)) (.neg (.con (.int 1)))) (.con (.int 0))))]⟩
def cf_most_of : Cf := ⟨["rule"], [], [], [], [], [], [], []⟩
def F_is_act : Fn := ⟨2, 3,
    [.ite (.or (.not (.isi (.v (.var 1)) "tuple")) (.or (.not (.chn .LtE .LtE (.con (.int 2)) (.blt "len" [.v (.var 1)]) (.con (.int 3)))) (.not (.isi (.v (.idx (.v (.var 1)) (.con (.int 0)))) "str")))) [.ret (some (.con (.bool false)))] [],
      .ite (.not (.call "is_integer" [.v (.idx (.v (.var 1)) (.con (.int 1))), .v (.con (.int 0)), .v (.bin .Sub (.v (.blt "len" [.v (.idx (.v (.var 0)) (.con (.int 1)))])) (.v (.con (.int 1))))])) [.ret (some (.con (.bool false)))] [],
      .ite (.cmp .Eq (.v (.idx (.v (.var 1)) (.con (.int 0)))) (.v (.con (.str "off")))) [.ret (some (.cmp .Eq (.v (.blt "len" [.v (.var 1)])) (.v (.con (.int 2)))))] [],
      .ite (.or (.cmp .NotEq (.v (.idx (.v (.var 1)) (.con (.int 0)))) (.v (.con (.str "most")))) (.or (.cmp .NotEq (.v (.blt "len" [.v (.var 1)])) (.v (.con (.int 3)))) (.not (.call "is_integer" [.v (.idx (.v (.var 1)) (.con (.int 2))), .v (.con (.int 1)), .v (.con (.int 2))])))) [.ret (some (.con (.bool false)))] [],
      .set 2 false (.call "most_of" [.v (.idx (.v (.idx (.v (.var 0)) (.con (.int 1)))) (.idx (.v (.var 1)) (.con (.int 1))))]),
      .ret (some (.or (.cmp .Is (.v (.var 2)) (.v (.con (.none)))) (.cmp .Lt (.v (.idx (.v (.var 1)) (.con (.int 2)))) (.v (.var 2)))))]⟩
def cf_is_act : Cf := ⟨["shop", "value", "own"], [], [("most_of", []), ("is_integer", [])], [], [], [], [], []⟩
def F_acts_stand : Fn := ⟨2, 3,
    [.ite (.or (.not (.isi (.v (.var 1)) "tuple")) (.or (.cmp .Gt (.v (.blt "len" [.v (.var 1)])) (.v (.con (.int 8)))) (.not (.blt "all" [.v (.lc (.call "is_act" [.v (.var 0), .v (.var 2)]) (.one 2) (.seq (.v (.var 1))) [] [2])])))) [.ret (some (.con (.bool false)))] [],
      .ret (some (.call "rises" [.v (.var 1)]))]⟩
def cf_acts_stand : Cf := ⟨["shop", "value", "one"], [], [("rises", []), ("is_act", [])], [], [], [], [], []⟩
def F_are_acts : Fn := ⟨2, 2,
    [.ex (.call "need_shop" [.v (.var 0)]),
      .ret (some (.call "acts_stand" [.v (.var 0), .v (.var 1)]))]⟩
def cf_are_acts : Cf := ⟨["shop", "value"], [], [("need_shop", []), ("acts_stand", [])], [], [], [], [], []⟩
def F_need_acts : Fn := ⟨2, 2,
    [.ex (.call "need_shop" [.v (.var 0)]),
      .ite (.not (.call "acts_stand" [.v (.var 0), .v (.var 1)])) [.rai "InvalidActs"] []]⟩
def cf_need_acts : Cf := ⟨["shop", "acts"], [], [("need_shop", []), ("acts_stand", [])], [], ["InvalidActs"], [], [], []⟩
def F_kept_rules : Fn := ⟨2, 3,
    [.ret (some (.lc (.var 2) (.one 2) (.rng [.blt "len" [.v (.idx (.v (.var 0)) (.con (.int 1)))]]) [.cmp .NotIn (.v (.tup [.con (.str "off"), .var 2])) (.v (.var 1))] [2]))]⟩
def cf_kept_rules : Cf := ⟨["shop", "acts", "number"], [], [], [], [], [], [], []⟩
def F_under : Fn := ⟨2, 7,
    [.set 2 true (.lst []),
      .fr (.one 3) (.seq (.v (.call "kept_rules" [.v (.var 0), .v (.var 1)]))) [.set 4 false (.idx (.v (.idx (.v (.var 0)) (.con (.int 1)))) (.var 3)),
      .set 5 false (.lc (.idx (.v (.var 6)) (.con (.int 2))) (.one 6) (.seq (.v (.var 1))) [.and (.cmp .Eq (.v (.idx (.v (.var 6)) (.con (.int 0)))) (.v (.con (.str "most")))) (.cmp .Eq (.v (.idx (.v (.var 6)) (.con (.int 1)))) (.v (.var 3)))] [6]),
      .ex (.app 2 (.ife (.cmp .NotEq (.v (.var 5)) (.v (.lst []))) (.bin .Add (.v (.sli (.v (.var 4)) none (some (.neg (.con (.int 1)))))) (.v (.tup [.blt "min" [.v (.var 5)]]))) (.var 4)))],
      .ret (some (.tup [.idx (.v (.var 0)) (.con (.int 0)), .blt "tuple" [.r 2]]))]⟩
def cf_under : Cf := ⟨["shop", "acts", "rules", "number", "rule", "some", "act"], [2], [("kept_rules", [])], [], [], [], [], []⟩
def F_shop_under : Fn := ⟨2, 2,
    [.ex (.call "need_acts" [.v (.var 0), .v (.var 1)]),
      .ret (some (.call "under" [.v (.var 0), .v (.var 1)]))]⟩
def cf_shop_under : Cf := ⟨["shop", "acts"], [], [("need_acts", []), ("under", [])], [], [], [], [], []⟩
def F__law_under : Fn := ⟨2, 7,
    [.set 2 true (.lst []),
      .fr (.many [3, 4]) (.enum (.v (.idx (.v (.var 0)) (.con (.int 1))))) [.set 5 false (.lc (.idx (.v (.var 6)) (.con (.int 2))) (.one 6) (.seq (.v (.var 1))) [.cmp .Eq (.v (.sli (.v (.var 6)) none (some (.con (.int 2))))) (.v (.tup [.con (.str "most"), .var 3]))] [6]),
      .ite (.cmp .NotIn (.v (.tup [.con (.str "off"), .var 3])) (.v (.var 1))) [.ex (.app 2 (.ife (.cmp .NotEq (.v (.var 5)) (.v (.lst []))) (.bin .Add (.v (.sli (.v (.var 4)) none (some (.neg (.con (.int 1)))))) (.v (.tup [.blt "min" [.v (.var 5)]]))) (.var 4)))] []],
      .ret (some (.tup [.idx (.v (.var 0)) (.con (.int 0)), .blt "tuple" [.r 2]]))]⟩
def cf__law_under : Cf := ⟨["shop", "acts", "rules", "number", "rule", "some", "act"], [2], [], [], [], [], [], []⟩
def F_touched : Fn := ⟨4, 6,
    [.set 4 false (.call "kept_rules" [.v (.var 0), .v (.var 1)]),
      .ite (.cmp .NotIn (.v (.idx (.v (.var 2)) (.con (.int 1)))) (.v (.var 4))) [.ret (some (.con (.bool false)))] [],
      .set 5 false (.idx (.v (.call "uses_of" [.v (.call "under" [.v (.var 0), .v (.var 1)]), .v (.var 3)])) (.lix 4 (.idx (.v (.var 2)) (.con (.int 1))))),
      .ret (some (.cmp .Gt (.v (.var 5)) (.v (.ife (.cmp .Eq (.v (.idx (.v (.var 2)) (.con (.int 0)))) (.v (.con (.str "off")))) (.con (.int 0)) (.idx (.v (.var 2)) (.con (.int 2)))))))]⟩
def cf_touched : Cf := ⟨["shop", "acts", "act", "basket", "kept", "count"], [], [("kept_rules", []), ("uses_of", []), ("under", [])], [], [], [], [], []⟩
def F_touches : Fn := ⟨4, 4,
    [.ex (.call "need_acts" [.v (.var 0), .v (.var 1)]),
      .ite (.not (.call "is_act" [.v (.var 0), .v (.var 2)])) [.rai "InvalidAct"] [],
      .ite (.not (.call "basket_stands" [.v (.var 0), .v (.var 3)])) [.rai "InvalidBasket"] [],
      .ret (some (.call "touched" [.v (.var 0), .v (.var 1), .v (.var 2), .v (.var 3)]))]⟩
def cf_touches : Cf := ⟨["shop", "acts", "act", "basket"], [], [("need_acts", []), ("touched", []), ("is_act", []), ("basket_stands", [])], [], ["InvalidAct", "InvalidBasket"], [], [], []⟩
def F__law_touch : Fn := ⟨4, 7,
    [.ite (.cmp .In (.v (.tup [.con (.str "off"), .idx (.v (.var 2)) (.con (.int 1))])) (.v (.var 1))) [.ret (some (.con (.bool false)))] [],
      .set 4 false (.blt "len" [.v (.lc (.var 6) (.one 6) (.seq (.v (.var 1))) [.and (.cmp .Eq (.v (.idx (.v (.var 6)) (.con (.int 0)))) (.v (.con (.str "off")))) (.cmp .Lt (.v (.idx (.v (.var 6)) (.con (.int 1)))) (.v (.idx (.v (.var 2)) (.con (.int 1)))))] [6])]),
      .set 5 false (.idx (.v (.idx (.v (.call "_law_bill" [.v (.call "_law_under" [.v (.var 0), .v (.var 1)]), .v (.var 3)])) (.con (.int 1)))) (.bin .Sub (.v (.idx (.v (.var 2)) (.con (.int 1)))) (.v (.var 4)))),
      .ret (some (.cmp .Gt (.v (.var 5)) (.v (.ife (.cmp .Eq (.v (.idx (.v (.var 2)) (.con (.int 0)))) (.v (.con (.str "off")))) (.con (.int 0)) (.idx (.v (.var 2)) (.con (.int 2)))))))]⟩
def cf__law_touch : Cf := ⟨["shop", "acts", "act", "basket", "gone", "often", "other"], [], [("_law_bill", []), ("_law_under", [])], [], [], [], [], []⟩
def F_offers_stand : Fn := ⟨2, 3,
    [.ite (.or (.not (.isi (.v (.var 1)) "tuple")) (.cmp .Gt (.v (.blt "len" [.v (.var 1)])) (.v (.con (.int 6))))) [.ret (some (.con (.bool false)))] [],
      .fr (.one 2) (.seq (.v (.var 1))) [.ite (.or (.not (.isi (.v (.var 2)) "tuple")) (.or (.cmp .NotEq (.v (.blt "len" [.v (.var 2)])) (.v (.con (.int 2)))) (.or (.not (.call "is_act" [.v (.var 0), .v (.idx (.v (.var 2)) (.con (.int 0)))])) (.not (.call "is_integer" [.v (.idx (.v (.var 2)) (.con (.int 1))), .v (.con (.int 1)), .v (.con (.int 9))]))))) [.ret (some (.con (.bool false)))] []],
      .ret (some (.call "rises" [.v (.lc (.idx (.v (.var 2)) (.con (.int 0))) (.one 2) (.seq (.v (.var 1))) [] [2])]))]⟩
def cf_offers_stand : Cf := ⟨["shop", "value", "one"], [], [("rises", []), ("is_act", []), ("is_integer", [])], [], [], [], [], []⟩
def F_are_offers : Fn := ⟨2, 2,
    [.ex (.call "need_shop" [.v (.var 0)]),
      .ret (some (.call "offers_stand" [.v (.var 0), .v (.var 1)]))]⟩
def cf_are_offers : Cf := ⟨["shop", "value"], [], [("need_shop", []), ("offers_stand", [])], [], [], [], [], []⟩
def F__law_some_case : Fn := ⟨3, 10,
    [.set 3 false (.call "_law_some_shop" [.v (.var 0), .r 1]),
      .ite (.cmp .Gt (.v (.call "_law_draw" [.v (.var 0), .r 1, .v (.con (.int 3))])) (.v (.con (.int 0)))) [.set 4 false (.lc (.var 8) (.one 8) (.seq (.v (.idx (.v (.var 3)) (.con (.int 1))))) [.or (.cmp .NotIn (.v (.idx (.v (.var 8)) (.con (.int 0)))) (.v (.tup [.con (.str "pack"), .con (.str "from")]))) (.cmp .Eq (.v (.idx (.v (.var 8)) (.con (.int 1)))) (.v (.con (.int 0))))] [8]),
      .set 3 false (.tup [.sli (.v (.idx (.v (.var 3)) (.con (.int 0)))) none (some (.con (.int 1))), .blt "tuple" [.v (.var 4)]])] [],
      .par [(5, false), (6, false)] [.call "_law_all_acts" [.v (.var 3)], .tup []],
      .ite (.cmp .NotEq (.v (.var 5)) (.v (.lst []))) [.set 6 false (.call "_law_some_of" [.v (.var 0), .r 1, .v (.var 5), .v (.bin .Sub (.v (.var 2)) (.v (.call "_law_draw" [.v (.var 0), .r 1, .v (.con (.int 2))])))])] [],
      .set 7 false (.blt "tuple" [.v (.lc (.tup [.var 9, .bin .Add (.v (.con (.int 1))) (.v (.call "_law_draw" [.v (.var 0), .r 1, .v (.con (.int 4))]))]) (.one 9) (.seq (.v (.var 6))) [] [9])]),
      .ret (some (.tup [.var 3, .var 7, .call "_law_pick" [.v (.var 0), .r 1, .v (.tup [.tup [.con (.str "less")], .tup [.con (.str "loss")], .tup [.con (.str "less"), .con (.str "loss")]])]]))]⟩
def cf__law_some_case : Cf := ⟨["script", "state", "most", "shop", "rules", "some", "acts", "offers", "rule", "act"], [1], [("_law_some_shop", [1]), ("_law_draw", [1]), ("_law_all_acts", []), ("_law_some_of", [1]), ("_law_pick", [1])], [], [], [], [], []⟩
def F_need_offers : Fn := ⟨2, 2,
    [.ex (.call "need_shop" [.v (.var 0)]),
      .ite (.not (.call "offers_stand" [.v (.var 0), .v (.var 1)])) [.rai "InvalidOffers"] []]⟩
def cf_need_offers : Cf := ⟨["shop", "offers"], [], [("need_shop", []), ("offers_stand", [])], [], ["InvalidOffers"], [], [], []⟩
def F_is_bought : Fn := ⟨2, 7,
    [.set 2 false (.lc (.var 3) (.many [3, 4]) (.seq (.v (.var 0))) [] [3, 4]),
      .ite (.or (.not (.isi (.v (.var 1)) "tuple")) (.not (.blt "all" [.v (.lc (.and (.isi (.v (.var 5)) "tuple") (.cmp .In (.v (.var 5)) (.v (.var 2)))) (.one 5) (.seq (.v (.var 1))) [] [5])]))) [.ret (some (.con (.bool false)))] [],
      .ret (some (.and (.not (.blt "any" [.v (.lc (.blt "any" [.v (.lc (.isi (.v (.var 6)) "bool") (.one 6) (.seq (.v (.var 5))) [] [6])]) (.one 5) (.seq (.v (.var 1))) [] [5])])) (.call "rises" [.v (.var 1)])))]⟩
def cf_is_bought : Cf := ⟨["offers", "value", "own", "act", "cost", "one", "part"], [], [("rises", [])], [], [], [], [], []⟩
def F_need_bought : Fn := ⟨2, 2,
    [.ite (.not (.call "is_bought" [.v (.var 0), .v (.var 1)])) [.rai "InvalidActs"] []]⟩
def cf_need_bought : Cf := ⟨["offers", "acts"], [], [("is_bought", [])], [], ["InvalidActs"], [], [], []⟩
def F_cost_of : Fn := ⟨2, 4,
    [.ret (some (.blt "sum" [.v (.lc (.var 3) (.many [2, 3]) (.seq (.v (.var 0))) [.cmp .In (.v (.var 2)) (.v (.var 1))] [2, 3])]))]⟩
def cf_cost_of : Cf := ⟨["offers", "acts", "act", "cost"], [], [], [], [], [], [], []⟩
def F_price_of : Fn := ⟨3, 3,
    [.ex (.call "need_offers" [.v (.var 0), .v (.var 1)]),
      .ex (.call "need_bought" [.v (.var 1), .v (.var 2)]),
      .ret (some (.call "cost_of" [.v (.var 1), .v (.var 2)]))]⟩
def cf_price_of : Cf := ⟨["shop", "offers", "acts"], [], [("need_offers", []), ("need_bought", []), ("cost_of", [])], [], [], [], [], []⟩
def F__law_price : Fn := ⟨3, 4,
    [.tr 3 [.ret (some (.call "price_of" [.v (.var 0), .v (.var 1), .v (.var 2)]))]]⟩
def cf__law_price : Cf := ⟨["shop", "offers", "acts", "e"], [], [("price_of", [])], [], ["_law_which"], [], [], []⟩
def F__law_subsets : Fn := ⟨1, 4,
    [.set 1 false (.lst [.tup []]),
      .fr (.one 2) (.seq (.v (.var 0))) [.set 1 false (.bin .Add (.v (.var 1)) (.v (.lc (.bin .Add (.v (.var 3)) (.v (.tup [.var 2]))) (.one 3) (.seq (.v (.var 1))) [] [3])))],
      .ret (some (.blt "sorted" [.v (.var 1)]))]⟩
def cf__law_subsets : Cf := ⟨["some", "found", "one", "other"], [], [], [], [], [], [], []⟩
def F_need_kinds : Fn := ⟨3, 3,
    [.ex (.call "need_offers" [.v (.var 0), .v (.var 1)]),
      .ite (.or (.not (.isi (.v (.var 2)) "tuple")) (.cmp .NotIn (.v (.var 2)) (.v (.tup [.tup [.con (.str "less")], .tup [.con (.str "loss")], .tup [.con (.str "less"), .con (.str "loss")]])))) [.rai "InvalidKinds"] []]⟩
def cf_need_kinds : Cf := ⟨["shop", "offers", "kinds"], [], [("need_offers", [])], [], ["InvalidKinds"], [], [], []⟩
def F_fault_under : Fn := ⟨3, 5,
    [.set 3 false (.call "under" [.v (.var 0), .v (.var 2)]),
      .set 4 false (.ife (.cmp .In (.v (.con (.str "less"))) (.v (.var 1))) (.call "found_less" [.v (.var 3)]) (.con (.none))),
      .ret (some (.ife (.and (.cmp .Is (.v (.var 4)) (.v (.con (.none)))) (.cmp .In (.v (.con (.str "loss"))) (.v (.var 1)))) (.call "found_loss" [.v (.var 3)]) (.var 4)))]⟩
def cf_fault_under : Cf := ⟨["shop", "kinds", "acts", "own", "found"], [], [("under", []), ("found_less", []), ("found_loss", [])], [], [], [], [], []⟩
def F_is_cure : Fn := ⟨4, 4,
    [.ex (.call "need_kinds" [.v (.var 0), .v (.var 1), .v (.var 2)]),
      .ex (.call "need_bought" [.v (.var 1), .v (.var 3)]),
      .ret (some (.cmp .Is (.v (.call "fault_under" [.v (.var 0), .v (.var 2), .v (.var 3)])) (.v (.con (.none)))))]⟩
def cf_is_cure : Cf := ⟨["shop", "offers", "kinds", "acts"], [], [("need_kinds", []), ("need_bought", []), ("fault_under", [])], [], [], [], [], []⟩
def F_touching_acts : Fn := ⟨4, 9,
    [.set 4 false (.bin .Add (.v (.lst [.idx (.v (.var 3)) (.con (.int 1))])) (.v (.ife (.cmp .Eq (.v (.idx (.v (.var 3)) (.con (.int 0)))) (.v (.con (.str "less")))) (.lst [.call "with_more" [.v (.idx (.v (.var 3)) (.con (.int 1))), .v (.idx (.v (.var 3)) (.con (.int 2))), .v (.con (.int 1))]]) (.lst [])))),
      .set 5 true (.lst []),
      .fr (.many [6, 7]) (.seq (.v (.var 1))) [.ite (.and (.cmp .NotIn (.v (.var 6)) (.v (.var 2))) (.blt "any" [.v (.lc (.call "touched" [.v (.var 0), .v (.var 2), .v (.var 6), .v (.var 8)]) (.one 8) (.seq (.v (.var 4))) [] [8])])) [.ex (.app 5 (.var 6))] []],
      .ret (some (.var 5))]⟩
def cf_touching_acts : Cf := ⟨["shop", "offers", "acts", "fault", "baskets", "found", "act", "cost", "basket"], [5], [("with_more", []), ("touched", [])], [], [], [], [], []⟩
def F_with_act : Fn := ⟨2, 2,
    [.ret (some (.blt "tuple" [.v (.blt "sorted" [.v (.bin .Add (.v (.var 0)) (.v (.tup [.var 1])))])]))]⟩
def cf_with_act : Cf := ⟨["acts", "act"], [], [], [], [], [], [], []⟩
def F_cheapest : Fn := ⟨3, 12,
    [.nev,
      .wh (.cmp .NotEq (.r 6) (.v (.lst []))) [.set 7 false (.pop 6 none),
      .set 8 false (.call "cost_of" [.v (.var 1), .v (.var 7)]),
      .ite (.or (.cmp .Is (.v (.var 3)) (.v (.con (.none)))) (.cmp .LtE (.v (.var 8)) (.v (.var 3)))) [.set 9 false (.call "fault_under" [.v (.var 0), .v (.var 2), .v (.var 7)]),
      .ite (.cmp .Is (.v (.var 9)) (.v (.con (.none)))) [.ite (.or (.cmp .Is (.v (.var 3)) (.v (.con (.none)))) (.cmp .Lt (.v (.var 8)) (.v (.var 3)))) [.par [(3, false), (4, true)] [.var 8, .lst []]] [],
      .ex (.app 4 (.var 7))] [],
      .fr (.one 10) (.seq (.v (.ife (.cmp .IsNot (.v (.var 9)) (.v (.con (.none)))) (.call "touching_acts" [.v (.var 0), .v (.var 1), .v (.var 7), .v (.var 9)]) (.lst [])))) [.set 11 false (.call "with_act" [.v (.var 7), .v (.var 10)]),
      .ite (.cmp .NotIn (.v (.var 11)) (.r 5)) [.sidx 5 (.var 11) (.con (.bool true)),
      .ex (.app 6 (.var 11))] []]] []],
      .ret (some (.tup [.var 3, .blt "sorted" [.r 4]]))]⟩
def cf_cheapest : Cf := ⟨["shop", "offers", "kinds", "best", "found", "seen", "line", "acts", "cost", "fault", "act", "more"], [4, 5, 6], [("cost_of", []), ("fault_under", []), ("touching_acts", []), ("with_act", [])], [], [], [], [], []⟩
def F_least_price : Fn := ⟨3, 3,
    [.ex (.call "need_kinds" [.v (.var 0), .v (.var 1), .v (.var 2)]),
      .ret (some (.idx (.v (.call "cheapest" [.v (.var 0), .v (.var 1), .v (.var 2)])) (.con (.int 0))))]⟩
def cf_least_price : Cf := ⟨["shop", "offers", "kinds"], [], [("need_kinds", []), ("cheapest", [])], [], [], [], [], []⟩
def F_all_cheapest : Fn := ⟨3, 3,
    [.ex (.call "need_kinds" [.v (.var 0), .v (.var 1), .v (.var 2)]),
      .ret (some (.idx (.v (.call "cheapest" [.v (.var 0), .v (.var 1), .v (.var 2)])) (.con (.int 1))))]⟩
def cf_all_cheapest : Cf := ⟨["shop", "offers", "kinds"], [], [("need_kinds", []), ("cheapest", [])], [], [], [], [], []⟩
def F_sure_acts : Fn := ⟨3, 7,
    [.ex (.call "need_kinds" [.v (.var 0), .v (.var 1), .v (.var 2)]),
      .set 3 false (.idx (.v (.call "cheapest" [.v (.var 0), .v (.var 1), .v (.var 2)])) (.con (.int 1))),
      .ret (some (.lc (.var 4) (.many [4, 5]) (.seq (.v (.var 1))) [.and (.cmp .NotEq (.v (.var 3)) (.v (.lst []))) (.blt "all" [.v (.lc (.cmp .In (.v (.var 4)) (.v (.var 6))) (.one 6) (.seq (.v (.var 3))) [] [6])])] [4, 5]))]⟩
def cf_sure_acts : Cf := ⟨["shop", "offers", "kinds", "some", "act", "cost", "one"], [], [("need_kinds", []), ("cheapest", [])], [], [], [], [], []⟩
def F__law_no_less : Fn := ⟨2, 2,
    [.ret (some (.or (.cmp .Is (.v (.var 0)) (.v (.con (.none)))) (.and (.cmp .IsNot (.v (.var 1)) (.v (.con (.none)))) (.cmp .GtE (.v (.var 0)) (.v (.var 1))))))]⟩
def cf__law_no_less : Cf := ⟨["one", "other"], [], [], [], [], [], [], []⟩
def F_need_number : Fn := ⟨3, 3,
    [.ite (.not (.call "is_integer" [.v (.var 0), .v (.var 1), .v (.var 2)])) [.rai "InvalidNumber"] []]⟩
def cf_need_number : Cf := ⟨["value", "low", "high"], [], [("is_integer", [])], [], ["InvalidNumber"], [], [], []⟩
def F_reason_for : Fn := ⟨5, 5,
    [.ite (.cmp .GtE (.v (.call "cost_of" [.v (.var 1), .v (.var 4)])) (.v (.var 3))) [.ret (some (.tup [.con (.str "dear")]))] [],
      .ret (some (.call "fault_under" [.v (.var 0), .v (.var 2), .v (.var 4)]))]⟩
def cf_reason_for : Cf := ⟨["shop", "offers", "kinds", "number", "acts"], [], [("fault_under", []), ("cost_of", [])], [], [], [], [], []⟩
def F_paper : Fn := ⟨4, 9,
    [.ex (.call "need_kinds" [.v (.var 0), .v (.var 1), .v (.var 2)]),
      .ex (.call "need_number" [.v (.var 3), .v (.con (.int 0)), .v (.con (.int 99))]),
      .nev,
      .wh (.cmp .NotEq (.r 5) (.v (.lst []))) [.set 6 false (.pop 5 none),
      .ite (.cmp .NotIn (.v (.var 6)) (.r 4)) [.set 7 false (.call "reason_for" [.v (.var 0), .v (.var 1), .v (.var 2), .v (.var 3), .v (.var 6)]),
      .ite (.cmp .Is (.v (.var 7)) (.v (.con (.none)))) [.ret (some (.con (.none)))] [],
      .sidx 4 (.var 6) (.var 7),
      .ite (.cmp .NotEq (.v (.var 7)) (.v (.tup [.con (.str "dear")]))) [.ex (.ext 5 (.v (.lc (.call "with_act" [.v (.var 6), .v (.var 8)]) (.one 8) (.seq (.v (.call "touching_acts" [.v (.var 0), .v (.var 1), .v (.var 6), .v (.var 7)]))) [] [8])))] []] []],
      .ret (some (.lc (.tup [.var 6, .idx (.r 4) (.var 6)]) (.one 6) (.seq (.v (.blt "sorted" [.r 4]))) [] [6]))]⟩
def cf_paper : Cf := ⟨["shop", "offers", "kinds", "price", "rows", "line", "acts", "reason", "act"], [4, 5], [("need_kinds", []), ("need_number", []), ("reason_for", []), ("with_act", []), ("touching_acts", [])], [], [], [], [], []⟩
def F_is_right : Fn := ⟨6, 6,
    [.ite (.cmp .Eq (.v (.var 5)) (.v (.tup [.con (.str "dear")]))) [.ret (some (.cmp .GtE (.v (.call "cost_of" [.v (.var 1), .v (.var 4)])) (.v (.var 3))))] [],
      .ret (some (.and (.cmp .In (.v (.idx (.v (.var 5)) (.con (.int 0)))) (.v (.var 2))) (.call "shows" [.v (.call "under" [.v (.var 0), .v (.var 4)]), .v (.var 5)])))]⟩
def cf_is_right : Cf := ⟨["shop", "offers", "kinds", "number", "acts", "reason"], [], [("shows", []), ("cost_of", []), ("under", [])], [], [], [], [], []⟩
def F_is_row : Fn := ⟨2, 2,
    [.ite (.or (.not (.isi (.v (.var 1)) "tuple")) (.or (.cmp .NotEq (.v (.blt "len" [.v (.var 1)])) (.v (.con (.int 2)))) (.not (.call "is_bought" [.v (.var 0), .v (.idx (.v (.var 1)) (.con (.int 0)))])))) [.ret (some (.con (.bool false)))] [],
      .ret (some (.and (.isi (.v (.idx (.v (.var 1)) (.con (.int 1)))) "tuple") (.and (.chn .LtE .LtE (.con (.int 1)) (.blt "len" [.v (.idx (.v (.var 1)) (.con (.int 1)))]) (.con (.int 3))) (.isi (.v (.idx (.v (.idx (.v (.var 1)) (.con (.int 1)))) (.con (.int 0)))) "str"))))]⟩
def cf_is_row : Cf := ⟨["offers", "value"], [], [("is_bought", [])], [], [], [], [], []⟩
def F_is_paper : Fn := ⟨5, 11,
    [.ex (.call "need_kinds" [.v (.var 0), .v (.var 1), .v (.var 2)]),
      .ex (.call "need_number" [.v (.var 3), .v (.con (.int 0)), .v (.con (.int 99))]),
      .ite (.or (.not (.isi (.v (.var 4)) "list")) (.not (.blt "all" [.v (.lc (.call "is_row" [.v (.var 1), .v (.var 8)]) (.one 8) (.seq (.v (.var 4))) [] [8])]))) [.ret (some (.con (.bool false)))] [],
      .set 5 false (.lc (.var 6) (.many [6, 7]) (.seq (.v (.var 4))) [] [6, 7]),
      .ite (.or (.cmp .NotIn (.v (.tup [])) (.v (.var 5))) (.not (.blt "all" [.v (.lc (.cmp .Lt (.v (.var 8)) (.v (.var 9))) (.many [8, 9]) (.zip (.v (.var 5)) (.v (.sli (.v (.var 5)) (some (.con (.int 1))) none))) [] [8, 9])]))) [.ret (some (.con (.bool false)))] [],
      .fr (.many [6, 7]) (.seq (.v (.var 4))) [.ite (.not (.call "is_right" [.v (.var 0), .v (.var 1), .v (.var 2), .v (.var 3), .v (.var 6), .v (.var 7)])) [.ret (some (.con (.bool false)))] [],
      .ite (.cmp .NotEq (.v (.var 7)) (.v (.tup [.con (.str "dear")]))) [.ite (.not (.blt "all" [.v (.lc (.cmp .In (.v (.call "with_act" [.v (.var 6), .v (.var 10)])) (.v (.var 5))) (.one 10) (.seq (.v (.call "touching_acts" [.v (.var 0), .v (.var 1), .v (.var 6), .v (.var 7)]))) [] [10])])) [.ret (some (.con (.bool false)))] []] []],
      .ret (some (.con (.bool true)))]⟩
def cf_is_paper : Cf := ⟨["shop", "offers", "kinds", "price", "value", "some", "acts", "reason", "one", "other", "act"], [], [("need_kinds", []), ("need_number", []), ("is_right", []), ("is_row", []), ("with_act", []), ("touching_acts", [])], [], [], [], [], []⟩
def F__law_is_right : Fn := ⟨6, 8,
    [.ite (.cmp .Eq (.v (.var 5)) (.v (.tup [.con (.str "dear")]))) [.ret (some (.cmp .GtE (.v (.call "price_of" [.v (.var 0), .v (.var 1), .v (.var 4)])) (.v (.var 3))))] [],
      .set 6 false (.call "_law_under" [.v (.var 0), .v (.var 4)]),
      .ite (.cmp .NotIn (.v (.idx (.v (.var 5)) (.con (.int 0)))) (.v (.var 2))) [.ret (some (.con (.bool false)))] [],
      .set 7 false (.idx (.v (.call "_law_bill" [.v (.var 6), .v (.idx (.v (.var 5)) (.con (.int 1)))])) (.con (.int 0))),
      .ite (.cmp .Eq (.v (.idx (.v (.var 5)) (.con (.int 0)))) (.v (.con (.str "loss")))) [.ret (some (.cmp .Lt (.v (.var 7)) (.v (.call "_law_costs" [.v (.var 6), .v (.idx (.v (.var 5)) (.con (.int 1)))]))))] [],
      .ret (some (.cmp .Lt (.v (.idx (.v (.call "_law_bill" [.v (.var 6), .v (.call "_law_more" [.v (.idx (.v (.var 5)) (.con (.int 1))), .v (.idx (.v (.var 5)) (.con (.int 2))), .v (.con (.int 1))])])) (.con (.int 0)))) (.v (.var 7))))]⟩
def cf__law_is_right : Cf := ⟨["shop", "offers", "kinds", "number", "acts", "reason", "own", "first"], [], [("_law_under", []), ("_law_bill", []), ("price_of", []), ("_law_costs", []), ("_law_more", [])], [], [], [], [], []⟩
def F__law_fault_baskets : Fn := ⟨1, 1,
    [.ret (some (.ife (.cmp .Eq (.v (.idx (.v (.var 0)) (.con (.int 0)))) (.v (.con (.str "less")))) (.lst [.idx (.v (.var 0)) (.con (.int 1)), .call "_law_more" [.v (.idx (.v (.var 0)) (.con (.int 1))), .v (.idx (.v (.var 0)) (.con (.int 2))), .v (.con (.int 1))]]) (.lst [.idx (.v (.var 0)) (.con (.int 1))])))]⟩
def cf__law_fault_baskets : Cf := ⟨["fault"], [], [("_law_more", [])], [], [], [], [], []⟩
def F__law_is_true : Fn := ⟨5, 13,
    [.set 5 false (.lc (.var 6) (.many [6, 7]) (.seq (.v (.var 4))) [] [6, 7]),
      .fr (.many [6, 7]) (.seq (.v (.var 4))) [.set 8 false (.call "_law_is_right" [.v (.var 0), .v (.var 1), .v (.var 2), .v (.var 3), .v (.var 6), .v (.var 7)]),
      .ite (.cmp .NotEq (.v (.var 7)) (.v (.tup [.con (.str "dear")]))) [.fr (.many [9, 10]) (.seq (.v (.var 1))) [.set 11 false (.blt "any" [.v (.lc (.call "_law_touch" [.v (.var 0), .v (.var 6), .v (.var 9), .v (.var 12)]) (.one 12) (.seq (.v (.call "_law_fault_baskets" [.v (.var 7)]))) [] [12])]),
      .ite (.and (.cmp .NotIn (.v (.var 9)) (.v (.var 6))) (.var 11)) [.set 8 false (.and (.var 8) (.cmp .In (.v (.blt "tuple" [.v (.blt "sorted" [.v (.bin .Add (.v (.var 6)) (.v (.tup [.var 9])))])])) (.v (.var 5))))] []]] [],
      .ite (.not (.var 8)) [.ret (some (.con (.bool false)))] []],
      .ret (some (.cmp .In (.v (.tup [])) (.v (.var 5))))]⟩
def cf__law_is_true : Cf := ⟨["shop", "offers", "kinds", "number", "rows", "there", "acts", "reason", "right", "act", "cost", "touch", "basket"], [], [("_law_is_right", []), ("_law_touch", []), ("_law_fault_baskets", [])], [], [], [], [], []⟩
def F_idle_rules : Fn := ⟨1, 7,
    [.ex (.call "need_shop" [.v (.var 0)]),
      .nev,
      .fr (.one 2) (.rng [.blt "len" [.v (.idx (.v (.var 0)) (.con (.int 0)))]]) [.fr (.one 3) (.rng [.con (.int 5)]) [.sidx 1 (.call "rule_for" [.v (.var 0), .v (.var 2), .v (.var 3)]) (.con (.bool true))]],
      .set 4 true (.lst []),
      .fr (.many [5, 6]) (.enum (.v (.idx (.v (.var 0)) (.con (.int 1))))) [.ite (.and (.cmp .In (.v (.idx (.v (.var 6)) (.con (.int 0)))) (.v (.tup [.con (.str "pack"), .con (.str "from")]))) (.cmp .NotIn (.v (.var 5)) (.r 1))) [.ex (.app 4 (.var 5))] []],
      .ret (some (.var 4))]⟩
def cf_idle_rules : Cf := ⟨["shop", "used", "good", "count", "found", "number", "rule"], [1, 4], [("need_shop", []), ("rule_for", [])], [], [], [], [], []⟩
def F_need_two : Fn := ⟨2, 2,
    [.ex (.call "need_shop" [.v (.var 0)]),
      .ex (.call "need_shop" [.v (.var 1)]),
      .ite (.cmp .NotEq (.v (.blt "len" [.v (.idx (.v (.var 0)) (.con (.int 0)))])) (.v (.blt "len" [.v (.idx (.v (.var 1)) (.con (.int 0)))]))) [.rai "Different"] []]⟩
def cf_need_two : Cf := ⟨["one", "other"], [], [("need_shop", [])], [], ["Different"], [], [], []⟩
def F_common_limits : Fn := ⟨2, 7,
    [.set 2 true (.lst []),
      .fr (.one 3) (.rng [.blt "len" [.v (.idx (.v (.var 0)) (.con (.int 0)))]]) [.par [(4, false), (5, false)] [.call "period" [.v (.var 0), .v (.var 3)], .call "period" [.v (.var 1), .v (.var 3)]],
      .set 6 false (.bin .Mult (.v (.bin .FloorDiv (.v (.idx (.v (.var 4)) (.con (.int 1)))) (.v (.call "divisor" [.v (.idx (.v (.var 4)) (.con (.int 1))), .v (.idx (.v (.var 5)) (.con (.int 1)))])))) (.v (.idx (.v (.var 5)) (.con (.int 1))))),
      .ex (.app 2 (.bin .Add (.v (.blt "max" [.v (.idx (.v (.var 4)) (.con (.int 0))), .v (.idx (.v (.var 5)) (.con (.int 0)))])) (.v (.bin .Mult (.v (.con (.int 2))) (.v (.var 6))))))],
      .ret (some (.blt "tuple" [.r 2]))]⟩
def cf_common_limits : Cf := ⟨["one", "other", "found", "good", "first", "second", "step"], [2], [("period", []), ("divisor", [])], [], [], [], [], []⟩
def F_first_unlike : Fn := ⟨2, 6,
    [.set 2 false (.call "common_limits" [.v (.var 0), .v (.var 1)]),
      .par [(3, false), (4, false)] [.new "Prices" [.v (.var 0), .v (.var 2)], .new "Prices" [.v (.var 1), .v (.var 2)]],
      .fr (.one 5) (.seq (.v (.call "baskets_by_pieces" [.v (.bin .Mult (.v (.tup [.con (.int 0)])) (.v (.blt "len" [.v (.var 2)]))), .v (.var 2)]))) [.ite (.cmp .NotEq (.v (.mth "Prices" "charge" (.v (.var 3)) [.v (.var 5)])) (.v (.mth "Prices" "charge" (.v (.var 4)) [.v (.var 5)]))) [.ret (some (.var 5))] []],
      .ret (some (.con (.none)))]⟩
def cf_first_unlike : Cf := ⟨["one", "other", "high", "first", "second", "basket"], [], [("common_limits", []), ("baskets_by_pieces", [])], [], [], ["Prices"], [("charge", "Prices")], []⟩
def F_same_charges : Fn := ⟨2, 2,
    [.ex (.call "need_two" [.v (.var 0), .v (.var 1)]),
      .ret (some (.cmp .Is (.v (.call "first_unlike" [.v (.var 0), .v (.var 1)])) (.v (.con (.none)))))]⟩
def cf_same_charges : Cf := ⟨["one", "other"], [], [("need_two", []), ("first_unlike", [])], [], [], [], [], []⟩
def F__law_high_both : Fn := ⟨2, 3,
    [.nev]⟩
def cf__law_high_both : Cf := ⟨["one", "other", "pair"], [], [("_law_high", [])], [], [], [], [], []⟩
def F_parting_basket : Fn := ⟨2, 2,
    [.ex (.call "need_two" [.v (.var 0), .v (.var 1)]),
      .ret (some (.call "first_unlike" [.v (.var 0), .v (.var 1)]))]⟩
def cf_parting_basket : Cf := ⟨["one", "other"], [], [("need_two", []), ("first_unlike", [])], [], [], [], [], []⟩
def F_exchangeable : Fn := ⟨1, 5,
    [.ex (.call "need_shop" [.v (.var 0)]),
      .par [(1, true), (2, false)] [.lst [], .idx (.v (.var 0)) (.con (.int 1))],
      .fr (.one 3) (.rng [.bin .Sub (.v (.blt "len" [.v (.var 2)])) (.v (.con (.int 1)))]) [.set 4 false (.bin .Add (.v (.bin .Add (.v (.sli (.v (.var 2)) none (some (.var 3)))) (.v (.tup [.idx (.v (.var 2)) (.bin .Add (.v (.var 3)) (.v (.con (.int 1)))), .idx (.v (.var 2)) (.var 3)])))) (.v (.sli (.v (.var 2)) (some (.bin .Add (.v (.var 3)) (.v (.con (.int 2))))) none))),
      .ite (.cmp .Is (.v (.call "first_unlike" [.v (.var 0), .v (.tup [.idx (.v (.var 0)) (.con (.int 0)), .var 4])])) (.v (.con (.none)))) [.ex (.app 1 (.var 3))] []],
      .ret (some (.var 1))]⟩
def cf_exchangeable : Cf := ⟨["shop", "found", "rules", "number", "other"], [1], [("need_shop", []), ("first_unlike", [])], [], [], [], [], []⟩
def F__law_one : Fn := ⟨2, 3,
    [.tr 2 [.ite (.cmp .Eq (.v (.var 1)) (.v (.con (.int 0)))) [.ret (some (.call "has_less" [.v (.var 0)]))] [],
      .ite (.cmp .Eq (.v (.var 1)) (.v (.con (.int 1)))) [.ret (some (.call "has_loss" [.v (.var 0)]))] [],
      .ite (.cmp .Eq (.v (.var 1)) (.v (.con (.int 2)))) [.ret (some (.call "box" [.v (.var 0)]))] [],
      .ite (.cmp .Eq (.v (.var 1)) (.v (.con (.int 3)))) [.ret (some (.call "idle_rules" [.v (.var 0)]))] [],
      .ite (.cmp .Eq (.v (.var 1)) (.v (.con (.int 4)))) [.ret (some (.call "exchangeable" [.v (.var 0)]))] [],
      .ite (.cmp .Eq (.v (.var 1)) (.v (.con (.int 5)))) [.ret (some (.call "is_fault" [.v (.var 0), .v (.con (.none))]))] [],
      .ret (some (.ife (.cmp .Eq (.v (.var 1)) (.v (.con (.int 6)))) (.call "first_less" [.v (.var 0)]) (.call "some_loss" [.v (.var 0)])))]]⟩
def cf__law_one : Cf := ⟨["shop", "which", "e"], [], [("has_less", []), ("has_loss", []), ("box", []), ("idle_rules", []), ("exchangeable", []), ("is_fault", []), ("first_less", []), ("some_loss", [])], [], ["_law_which"], [], [], []⟩
def F_item_text : Fn := ⟨1, 1,
    [.nev]⟩
def cf_item_text : Cf := ⟨["item"], [], [], [], [], [], [], []⟩
def F_shop_text : Fn := ⟨1, 7,
    [.nev,
      .nev,
      .ret (some (.bin .Add (.v (.bin .Add (.v (.var 1)) (.v (.con (.str "; "))))) (.v (.ife (.cmp .NotEq (.v (.idx (.v (.var 0)) (.con (.int 1)))) (.v (.tup []))) (.var 2) (.con (.str "none"))))))]⟩
def cf_shop_text : Cf := ⟨["shop", "goods", "rules", "price", "cost", "rule", "item"], [], [("item_text", [])], [], [], [], [], []⟩
def F_format_shop : Fn := ⟨1, 1,
    [.ex (.call "need_shop" [.v (.var 0)]),
      .ret (some (.call "shop_text" [.v (.var 0)]))]⟩
def cf_format_shop : Cf := ⟨["shop"], [], [("need_shop", []), ("shop_text", [])], [], [], [], [], []⟩
def F_number_of : Fn := ⟨1, 2,
    [.ite (.or (.not (.chn .LtE .LtE (.con (.int 1)) (.blt "len" [.v (.var 0)]) (.con (.int 2)))) (.not (.blt "all" [.v (.lc (.cmp .In (.v (.var 1)) (.v (.con w_DIGITS))) (.one 1) (.seq (.v (.var 0))) [] [1])]))) [.ret (some (.con (.none)))] [],
      .nev]⟩
def cf_number_of : Cf := ⟨["word", "sign"], [], [], [("DIGITS", w_DIGITS)], [], [], [], []⟩
def F_item_of : Fn := ⟨1, 1,
    [.ret (some (.ife (.cmp .In (.v (.var 0)) (.v (.con w_WORDS))) (.var 0) (.call "number_of" [.v (.var 0)])))]⟩
def cf_item_of : Cf := ⟨["word"], [], [("number_of", [])], [("WORDS", w_WORDS)], [], [], [], []⟩
def F_parse_shop : Fn := ⟨1, 8,
    [.nev,
      .nev,
      .nev,
      .set 4 false (.tup []),
      .ite (.cmp .NotEq (.v (.var 2)) (.v (.con (.str "none")))) [.nev] [],
      .set 5 false (.tup [.var 3, .var 4]),
      .ite (.or (.not (.call "stands" [.v (.var 5)])) (.cmp .NotEq (.v (.call "shop_text" [.v (.var 5)])) (.v (.var 0)))) [.rai "ParseError"] [],
      .ret (some (.var 5))]⟩
def cf_parse_shop : Cf := ⟨["text", "first", "second", "goods", "rules", "found", "one", "word"], [], [("stands", []), ("shop_text", []), ("number_of", []), ("item_of", [])], [], ["ParseError"], [], [], []⟩
def F__law_read : Fn := ⟨1, 2,
    [.tr 1 [.ret (some (.call "parse_shop" [.v (.var 0)]))]]⟩
def cf__law_read : Cf := ⟨["text", "e"], [], [("parse_shop", [])], [], ["_law_which"], [], [], []⟩
def F__law_put : Fn := ⟨2, 3,
    [.tr 2 [.nev]]⟩
def cf__law_put : Cf := ⟨["till", "good", "e"], [], [], [], ["_law_which"], [], [], []⟩
def F__law_take : Fn := ⟨2, 3,
    [.tr 2 [.nev]]⟩
def cf__law_take : Cf := ⟨["till", "good", "e"], [], [], [], ["_law_which"], [], [], []⟩
def F__law_undo : Fn := ⟨1, 2,
    [.tr 1 [.nev]]⟩
def cf__law_undo : Cf := ⟨["till", "e"], [], [], [], ["_law_which"], [], [], []⟩
def F_naive_less : Fn := ⟨2, 6,
    [.ex (.call "need_shop" [.v (.var 0)]),
      .ex (.call "need_number" [.v (.var 1), .v (.con (.int 0)), .v (.con (.int 40))]),
      .fr (.one 2) (.rng [.bin .Add (.v (.var 1)) (.v (.con (.int 1)))]) [.fr (.one 3) (.rng [.bin .Add (.v (.var 2)) (.v (.con (.int 1)))]) [.set 4 false (.ife (.cmp .Eq (.v (.blt "len" [.v (.idx (.v (.var 0)) (.con (.int 0)))])) (.v (.con (.int 2)))) (.tup [.var 3, .bin .Sub (.v (.var 2)) (.v (.var 3))]) (.tup [.var 3])),
      .ite (.cmp .Eq (.v (.blt "sum" [.v (.var 4)])) (.v (.var 2))) [.fr (.one 5) (.rng [.blt "len" [.v (.var 4)]]) [.ite (.cmp .Lt (.v (.call "charge_of" [.v (.var 0), .v (.call "with_more" [.v (.var 4), .v (.var 5), .v (.con (.int 1))])])) (.v (.call "charge_of" [.v (.var 0), .v (.var 4)]))) [.ret (some (.tup [.con (.str "less"), .var 4, .var 5]))] []]] []]],
      .ret (some (.con (.none)))]⟩
def cf_naive_less : Cf := ⟨["shop", "most", "total", "first", "basket", "good"], [], [("need_shop", []), ("need_number", []), ("charge_of", []), ("with_more", [])], [], [], [], [], []⟩
def F_all_bought : Fn := ⟨1, 5,
    [.set 1 false (.lst [.tup []]),
      .fr (.many [2, 3]) (.seq (.v (.var 0))) [.set 1 false (.bin .Add (.v (.var 1)) (.v (.lc (.bin .Add (.v (.var 4)) (.v (.tup [.var 2]))) (.one 4) (.seq (.v (.var 1))) [] [4])))],
      .ret (some (.blt "sorted" [.v (.var 1)]))]⟩
def cf_all_bought : Cf := ⟨["offers", "found", "act", "cost", "one"], [], [], [], [], [], [], []⟩
def F_naive_least_price : Fn := ⟨3, 5,
    [.ex (.call "need_kinds" [.v (.var 0), .v (.var 1), .v (.var 2)]),
      .set 3 false (.lc (.call "cost_of" [.v (.var 1), .v (.var 4)]) (.one 4) (.seq (.v (.call "all_bought" [.v (.var 1)]))) [.cmp .Is (.v (.call "fault_under" [.v (.var 0), .v (.var 2), .v (.var 4)])) (.v (.con (.none)))] [4]),
      .ret (some (.ife (.cmp .NotEq (.v (.var 3)) (.v (.lst []))) (.blt "min" [.v (.var 3)]) (.con (.none))))]⟩
def cf_naive_least_price : Cf := ⟨["shop", "offers", "kinds", "some", "acts"], [], [("need_kinds", []), ("cost_of", []), ("all_bought", []), ("fault_under", [])], [], [], [], [], []⟩
def F__law_alone : Fn := ⟨2, 3,
    [.tr 2 [.ite (.cmp .Lt (.v (.var 1)) (.v (.con (.int 4)))) [.nev] [],
      .ite (.cmp .Lt (.v (.var 1)) (.v (.con (.int 7)))) [.nev] [],
      .ite (.cmp .Eq (.v (.var 1)) (.v (.con (.int 7)))) [.nev] [],
      .nev]]⟩
def cf__law_alone : Cf := ⟨["shop", "which", "e"], [], [], [], ["_law_which"], [], [], []⟩
def F__law_two : Fn := ⟨3, 4,
    [.tr 3 [.ite (.cmp .Lt (.v (.var 2)) (.v (.con (.int 4)))) [.nev] [],
      .ite (.cmp .Lt (.v (.var 2)) (.v (.con (.int 7)))) [.nev] [],
      .ret (some (.ife (.cmp .Eq (.v (.var 2)) (.v (.con (.int 7)))) (.call "shop_under" [.v (.var 0), .v (.var 1)]) (.call "sure_acts" [.v (.var 0), .v (.var 1), .v (.con (.none))])))]]⟩
def cf__law_two : Cf := ⟨["shop", "more", "which", "e"], [], [("shop_under", []), ("sure_acts", [])], [], ["_law_which"], [], [], []⟩
def F__law_shops : Fn := ⟨3, 4,
    [.tr 3 [.ret (some (.ife (.cmp .Eq (.v (.var 2)) (.v (.con (.int 0)))) (.call "same_charges" [.v (.var 0), .v (.var 1)]) (.call "parting_basket" [.v (.var 0), .v (.var 1)])))]]⟩
def cf__law_shops : Cf := ⟨["one", "other", "which", "e"], [], [("same_charges", []), ("parting_basket", [])], [], ["_law_which"], [], [], []⟩
def U0 : List (Str × Fn) := [(("_law_cell_at" : Str), F__law_cell_at),
  (("_law_mixed" : Str), F__law_mixed),
  (("_law_draw" : Str), F__law_draw),
  (("_law_some_goods" : Str), F__law_some_goods),
  (("_law_pick" : Str), F__law_pick),
  (("_law_some_rule" : Str), F__law_some_rule),
  (("_law_some_shop" : Str), F__law_some_shop),
  (("is_integer" : Str), F_is_integer),
  (("is_good" : Str), F_is_good),
  (("is_most" : Str), F_is_most),
  (("is_rule" : Str), F_is_rule),
  (("stands" : Str), F_stands),
  (("is_shop" : Str), F_is_shop),
  (("need_shop" : Str), F_need_shop),
  (("basket_stands" : Str), F_basket_stands),
  (("is_basket" : Str), F_is_basket),
  (("_law_some_basket" : Str), F__law_some_basket),
  (("need_basket" : Str), F_need_basket),
  (("taken_times" : Str), F_taken_times),
  (("rule_for" : Str), F_rule_for),
  (("amount_of" : Str), F_amount_of),
  (("amount_list" : Str), F_amount_list),
  (("amounts" : Str), F_amounts),
  (("_law_fits" : Str), F__law_fits),
  (("_law_amount" : Str), F__law_amount),
  (("takings" : Str), F_takings),
  (("charge_of" : Str), F_charge_of),
  (("charge" : Str), F_charge),
  (("_law_bill" : Str), F__law_bill),
  (("uses_of" : Str), F_uses_of),
  (("uses" : Str), F_uses),
  (("gain_of" : Str), F_gain_of),
  (("gain" : Str), F_gain),
  (("_law_costs" : Str), F__law_costs),
  (("without" : Str), F_without),
  (("effects" : Str), F_effects),
  (("need_small" : Str), F_need_small),
  (("Prices.__init__" : Str), F_Prices___init__),
  (("Prices" : Str), F_Prices),
  (("baskets_by_pieces" : Str), F_baskets_by_pieces),
  (("first_rule" : Str), F_first_rule),
  (("steady" : Str), F_steady),
  (("endless" : Str), F_endless),
  (("divisor" : Str), F_divisor),
  (("settled" : Str), F_settled),
  (("period" : Str), F_period),
  (("periods" : Str), F_periods),
  (("highest" : Str), F_highest),
  (("Prices.charge" : Str), F_Prices_charge),
  (("least_above" : Str), F_least_above),
  (("fewest_more" : Str), F_fewest_more),
  (("_law_more" : Str), F__law_more),
  (("_law_baskets" : Str), F__law_baskets),
  (("_law_first_less" : Str), F__law_first_less),
  (("_law_high" : Str), F__law_high),
  (("_law_same_truth" : Str), F__law_same_truth),
  (("with_more" : Str), F_with_more),
  (("less_in" : Str), F_less_in),
  (("limits" : Str), F_limits),
  (("found_less" : Str), F_found_less),
  (("first_less" : Str), F_first_less),
  (("_law_first" : Str), F__law_first),
  (("has_less" : Str), F_has_less),
  (("box" : Str), F_box),
  (("shows" : Str), F_shows),
  (("is_fault" : Str), F_is_fault),
  (("_law_is_loss" : Str), F__law_is_loss),
  (("found_loss" : Str), F_found_loss),
  (("some_loss" : Str), F_some_loss),
  (("_law_some" : Str), F__law_some),
  (("has_loss" : Str), F_has_loss),
  (("_law_all_acts" : Str), F__law_all_acts),
  (("_law_some_of" : Str), F__law_some_of),
  (("_law_some_acts" : Str), F__law_some_acts),
  (("rises" : Str), F_rises),
  (("most_of" : Str), F_most_of),
  (("is_act" : Str), F_is_act),
  (("acts_stand" : Str), F_acts_stand),
  (("are_acts" : Str), F_are_acts),
  (("need_acts" : Str), F_need_acts),
  (("kept_rules" : Str), F_kept_rules),
  (("under" : Str), F_under),
  (("shop_under" : Str), F_shop_under),
  (("_law_under" : Str), F__law_under),
  (("touched" : Str), F_touched),
  (("touches" : Str), F_touches),
  (("_law_touch" : Str), F__law_touch),
  (("offers_stand" : Str), F_offers_stand),
  (("are_offers" : Str), F_are_offers),
  (("_law_some_case" : Str), F__law_some_case),
  (("need_offers" : Str), F_need_offers),
  (("is_bought" : Str), F_is_bought),
  (("need_bought" : Str), F_need_bought),
  (("cost_of" : Str), F_cost_of),
  (("price_of" : Str), F_price_of),
  (("_law_price" : Str), F__law_price),
  (("_law_subsets" : Str), F__law_subsets),
  (("need_kinds" : Str), F_need_kinds),
  (("fault_under" : Str), F_fault_under),
  (("is_cure" : Str), F_is_cure),
  (("touching_acts" : Str), F_touching_acts),
  (("with_act" : Str), F_with_act),
  (("cheapest" : Str), F_cheapest),
  (("least_price" : Str), F_least_price),
  (("all_cheapest" : Str), F_all_cheapest),
  (("sure_acts" : Str), F_sure_acts),
  (("_law_no_less" : Str), F__law_no_less),
  (("need_number" : Str), F_need_number),
  (("reason_for" : Str), F_reason_for),
  (("paper" : Str), F_paper),
  (("is_right" : Str), F_is_right),
  (("is_row" : Str), F_is_row),
  (("is_paper" : Str), F_is_paper),
  (("_law_is_right" : Str), F__law_is_right),
  (("_law_fault_baskets" : Str), F__law_fault_baskets),
  (("_law_is_true" : Str), F__law_is_true),
  (("idle_rules" : Str), F_idle_rules),
  (("need_two" : Str), F_need_two),
  (("common_limits" : Str), F_common_limits),
  (("first_unlike" : Str), F_first_unlike),
  (("same_charges" : Str), F_same_charges),
  (("_law_high_both" : Str), F__law_high_both),
  (("parting_basket" : Str), F_parting_basket),
  (("exchangeable" : Str), F_exchangeable),
  (("_law_one" : Str), F__law_one),
  (("item_text" : Str), F_item_text),
  (("shop_text" : Str), F_shop_text),
  (("format_shop" : Str), F_format_shop),
  (("number_of" : Str), F_number_of),
  (("item_of" : Str), F_item_of),
  (("parse_shop" : Str), F_parse_shop),
  (("_law_read" : Str), F__law_read),
  (("_law_put" : Str), F__law_put),
  (("_law_take" : Str), F__law_take),
  (("_law_undo" : Str), F__law_undo),
  (("naive_less" : Str), F_naive_less),
  (("all_bought" : Str), F_all_bought),
  (("naive_least_price" : Str), F_naive_least_price),
  (("_law_alone" : Str), F__law_alone),
  (("_law_two" : Str), F__law_two),
  (("_law_shops" : Str), F__law_shops)]
def ΔU (f : Str) : Option Fn := U0.lookup f
theorem U0_nd : (U0.map (·.1)).Nodup := by decide +kernel
theorem lookup_nd {α : Type} : ∀ {l : List (Str × α)} {f : Str} {x : α}, (l.map (·.1)).Nodup → (f, x) ∈ l → l.lookup f = some x
  | [], _, _, _, h => by cases h
  | (g, y) :: l, f, x, nd, h => by
    rw [List.map_cons, List.nodup_cons] at nd
    rw [List.lookup_cons]
    by_cases e : f = g
    · subst e
      rcases List.mem_cons.mp h with h | h
      · cases h; simp
      · exact absurd (List.mem_map.mpr ⟨_, h, rfl⟩) nd.1
    · rcases List.mem_cons.mp h with h | h
      · cases h; exact absurd rfl e
      · rw [show (f == g) = false by simpa using e]
        exact lookup_nd nd.2 h
theorem uu__law_cell_at : ΔU "_law_cell_at" = some F__law_cell_at := lookup_nd U0_nd (List.mem_of_getElem? (i := 0) rfl)
theorem uu__law_mixed : ΔU "_law_mixed" = some F__law_mixed := lookup_nd U0_nd (List.mem_of_getElem? (i := 1) rfl)
theorem uu__law_draw : ΔU "_law_draw" = some F__law_draw := lookup_nd U0_nd (List.mem_of_getElem? (i := 2) rfl)
theorem uu__law_some_goods : ΔU "_law_some_goods" = some F__law_some_goods := lookup_nd U0_nd (List.mem_of_getElem? (i := 3) rfl)
theorem uu__law_pick : ΔU "_law_pick" = some F__law_pick := lookup_nd U0_nd (List.mem_of_getElem? (i := 4) rfl)
theorem uu__law_some_rule : ΔU "_law_some_rule" = some F__law_some_rule := lookup_nd U0_nd (List.mem_of_getElem? (i := 5) rfl)
theorem uu__law_some_shop : ΔU "_law_some_shop" = some F__law_some_shop := lookup_nd U0_nd (List.mem_of_getElem? (i := 6) rfl)
theorem uu_is_integer : ΔU "is_integer" = some F_is_integer := lookup_nd U0_nd (List.mem_of_getElem? (i := 7) rfl)
theorem uu_is_good : ΔU "is_good" = some F_is_good := lookup_nd U0_nd (List.mem_of_getElem? (i := 8) rfl)
theorem uu_is_most : ΔU "is_most" = some F_is_most := lookup_nd U0_nd (List.mem_of_getElem? (i := 9) rfl)
theorem uu_is_rule : ΔU "is_rule" = some F_is_rule := lookup_nd U0_nd (List.mem_of_getElem? (i := 10) rfl)
theorem uu_stands : ΔU "stands" = some F_stands := lookup_nd U0_nd (List.mem_of_getElem? (i := 11) rfl)
theorem uu_is_shop : ΔU "is_shop" = some F_is_shop := lookup_nd U0_nd (List.mem_of_getElem? (i := 12) rfl)
theorem uu_need_shop : ΔU "need_shop" = some F_need_shop := lookup_nd U0_nd (List.mem_of_getElem? (i := 13) rfl)
theorem uu_basket_stands : ΔU "basket_stands" = some F_basket_stands := lookup_nd U0_nd (List.mem_of_getElem? (i := 14) rfl)
theorem uu_is_basket : ΔU "is_basket" = some F_is_basket := lookup_nd U0_nd (List.mem_of_getElem? (i := 15) rfl)
theorem uu__law_some_basket : ΔU "_law_some_basket" = some F__law_some_basket := lookup_nd U0_nd (List.mem_of_getElem? (i := 16) rfl)
theorem uu_need_basket : ΔU "need_basket" = some F_need_basket := lookup_nd U0_nd (List.mem_of_getElem? (i := 17) rfl)
theorem uu_taken_times : ΔU "taken_times" = some F_taken_times := lookup_nd U0_nd (List.mem_of_getElem? (i := 18) rfl)
theorem uu_rule_for : ΔU "rule_for" = some F_rule_for := lookup_nd U0_nd (List.mem_of_getElem? (i := 19) rfl)
theorem uu_amount_of : ΔU "amount_of" = some F_amount_of := lookup_nd U0_nd (List.mem_of_getElem? (i := 20) rfl)
theorem uu_amount_list : ΔU "amount_list" = some F_amount_list := lookup_nd U0_nd (List.mem_of_getElem? (i := 21) rfl)
theorem uu_amounts : ΔU "amounts" = some F_amounts := lookup_nd U0_nd (List.mem_of_getElem? (i := 22) rfl)
theorem uu__law_fits : ΔU "_law_fits" = some F__law_fits := lookup_nd U0_nd (List.mem_of_getElem? (i := 23) rfl)
theorem uu__law_amount : ΔU "_law_amount" = some F__law_amount := lookup_nd U0_nd (List.mem_of_getElem? (i := 24) rfl)
theorem uu_takings : ΔU "takings" = some F_takings := lookup_nd U0_nd (List.mem_of_getElem? (i := 25) rfl)
theorem uu_charge_of : ΔU "charge_of" = some F_charge_of := lookup_nd U0_nd (List.mem_of_getElem? (i := 26) rfl)
theorem uu_charge : ΔU "charge" = some F_charge := lookup_nd U0_nd (List.mem_of_getElem? (i := 27) rfl)
theorem uu__law_bill : ΔU "_law_bill" = some F__law_bill := lookup_nd U0_nd (List.mem_of_getElem? (i := 28) rfl)
theorem uu_uses_of : ΔU "uses_of" = some F_uses_of := lookup_nd U0_nd (List.mem_of_getElem? (i := 29) rfl)
theorem uu_uses : ΔU "uses" = some F_uses := lookup_nd U0_nd (List.mem_of_getElem? (i := 30) rfl)
theorem uu_gain_of : ΔU "gain_of" = some F_gain_of := lookup_nd U0_nd (List.mem_of_getElem? (i := 31) rfl)
theorem uu_gain : ΔU "gain" = some F_gain := lookup_nd U0_nd (List.mem_of_getElem? (i := 32) rfl)
theorem uu__law_costs : ΔU "_law_costs" = some F__law_costs := lookup_nd U0_nd (List.mem_of_getElem? (i := 33) rfl)
theorem uu_without : ΔU "without" = some F_without := lookup_nd U0_nd (List.mem_of_getElem? (i := 34) rfl)
theorem uu_effects : ΔU "effects" = some F_effects := lookup_nd U0_nd (List.mem_of_getElem? (i := 35) rfl)
theorem uu_need_small : ΔU "need_small" = some F_need_small := lookup_nd U0_nd (List.mem_of_getElem? (i := 36) rfl)
theorem uu_Prices___init__ : ΔU "Prices.__init__" = some F_Prices___init__ := lookup_nd U0_nd (List.mem_of_getElem? (i := 37) rfl)
theorem uu_Prices : ΔU "Prices" = some F_Prices := lookup_nd U0_nd (List.mem_of_getElem? (i := 38) rfl)
theorem uu_baskets_by_pieces : ΔU "baskets_by_pieces" = some F_baskets_by_pieces := lookup_nd U0_nd (List.mem_of_getElem? (i := 39) rfl)
theorem uu_first_rule : ΔU "first_rule" = some F_first_rule := lookup_nd U0_nd (List.mem_of_getElem? (i := 40) rfl)
theorem uu_steady : ΔU "steady" = some F_steady := lookup_nd U0_nd (List.mem_of_getElem? (i := 41) rfl)
theorem uu_endless : ΔU "endless" = some F_endless := lookup_nd U0_nd (List.mem_of_getElem? (i := 42) rfl)
theorem uu_divisor : ΔU "divisor" = some F_divisor := lookup_nd U0_nd (List.mem_of_getElem? (i := 43) rfl)
theorem uu_settled : ΔU "settled" = some F_settled := lookup_nd U0_nd (List.mem_of_getElem? (i := 44) rfl)
theorem uu_period : ΔU "period" = some F_period := lookup_nd U0_nd (List.mem_of_getElem? (i := 45) rfl)
theorem uu_periods : ΔU "periods" = some F_periods := lookup_nd U0_nd (List.mem_of_getElem? (i := 46) rfl)
theorem uu_highest : ΔU "highest" = some F_highest := lookup_nd U0_nd (List.mem_of_getElem? (i := 47) rfl)
theorem uu_Prices_charge : ΔU "Prices.charge" = some F_Prices_charge := lookup_nd U0_nd (List.mem_of_getElem? (i := 48) rfl)
theorem uu_least_above : ΔU "least_above" = some F_least_above := lookup_nd U0_nd (List.mem_of_getElem? (i := 49) rfl)
theorem uu_fewest_more : ΔU "fewest_more" = some F_fewest_more := lookup_nd U0_nd (List.mem_of_getElem? (i := 50) rfl)
theorem uu__law_more : ΔU "_law_more" = some F__law_more := lookup_nd U0_nd (List.mem_of_getElem? (i := 51) rfl)
theorem uu__law_baskets : ΔU "_law_baskets" = some F__law_baskets := lookup_nd U0_nd (List.mem_of_getElem? (i := 52) rfl)
theorem uu__law_first_less : ΔU "_law_first_less" = some F__law_first_less := lookup_nd U0_nd (List.mem_of_getElem? (i := 53) rfl)
theorem uu__law_high : ΔU "_law_high" = some F__law_high := lookup_nd U0_nd (List.mem_of_getElem? (i := 54) rfl)
theorem uu__law_same_truth : ΔU "_law_same_truth" = some F__law_same_truth := lookup_nd U0_nd (List.mem_of_getElem? (i := 55) rfl)
theorem uu_with_more : ΔU "with_more" = some F_with_more := lookup_nd U0_nd (List.mem_of_getElem? (i := 56) rfl)
theorem uu_less_in : ΔU "less_in" = some F_less_in := lookup_nd U0_nd (List.mem_of_getElem? (i := 57) rfl)
theorem uu_limits : ΔU "limits" = some F_limits := lookup_nd U0_nd (List.mem_of_getElem? (i := 58) rfl)
theorem uu_found_less : ΔU "found_less" = some F_found_less := lookup_nd U0_nd (List.mem_of_getElem? (i := 59) rfl)
theorem uu_first_less : ΔU "first_less" = some F_first_less := lookup_nd U0_nd (List.mem_of_getElem? (i := 60) rfl)
theorem uu__law_first : ΔU "_law_first" = some F__law_first := lookup_nd U0_nd (List.mem_of_getElem? (i := 61) rfl)
theorem uu_has_less : ΔU "has_less" = some F_has_less := lookup_nd U0_nd (List.mem_of_getElem? (i := 62) rfl)
theorem uu_box : ΔU "box" = some F_box := lookup_nd U0_nd (List.mem_of_getElem? (i := 63) rfl)
theorem uu_shows : ΔU "shows" = some F_shows := lookup_nd U0_nd (List.mem_of_getElem? (i := 64) rfl)
theorem uu_is_fault : ΔU "is_fault" = some F_is_fault := lookup_nd U0_nd (List.mem_of_getElem? (i := 65) rfl)
theorem uu__law_is_loss : ΔU "_law_is_loss" = some F__law_is_loss := lookup_nd U0_nd (List.mem_of_getElem? (i := 66) rfl)
theorem uu_found_loss : ΔU "found_loss" = some F_found_loss := lookup_nd U0_nd (List.mem_of_getElem? (i := 67) rfl)
theorem uu_some_loss : ΔU "some_loss" = some F_some_loss := lookup_nd U0_nd (List.mem_of_getElem? (i := 68) rfl)
theorem uu__law_some : ΔU "_law_some" = some F__law_some := lookup_nd U0_nd (List.mem_of_getElem? (i := 69) rfl)
theorem uu_has_loss : ΔU "has_loss" = some F_has_loss := lookup_nd U0_nd (List.mem_of_getElem? (i := 70) rfl)
theorem uu__law_all_acts : ΔU "_law_all_acts" = some F__law_all_acts := lookup_nd U0_nd (List.mem_of_getElem? (i := 71) rfl)
theorem uu__law_some_of : ΔU "_law_some_of" = some F__law_some_of := lookup_nd U0_nd (List.mem_of_getElem? (i := 72) rfl)
theorem uu__law_some_acts : ΔU "_law_some_acts" = some F__law_some_acts := lookup_nd U0_nd (List.mem_of_getElem? (i := 73) rfl)
theorem uu_rises : ΔU "rises" = some F_rises := lookup_nd U0_nd (List.mem_of_getElem? (i := 74) rfl)
theorem uu_most_of : ΔU "most_of" = some F_most_of := lookup_nd U0_nd (List.mem_of_getElem? (i := 75) rfl)
theorem uu_is_act : ΔU "is_act" = some F_is_act := lookup_nd U0_nd (List.mem_of_getElem? (i := 76) rfl)
theorem uu_acts_stand : ΔU "acts_stand" = some F_acts_stand := lookup_nd U0_nd (List.mem_of_getElem? (i := 77) rfl)
theorem uu_are_acts : ΔU "are_acts" = some F_are_acts := lookup_nd U0_nd (List.mem_of_getElem? (i := 78) rfl)
theorem uu_need_acts : ΔU "need_acts" = some F_need_acts := lookup_nd U0_nd (List.mem_of_getElem? (i := 79) rfl)
theorem uu_kept_rules : ΔU "kept_rules" = some F_kept_rules := lookup_nd U0_nd (List.mem_of_getElem? (i := 80) rfl)
theorem uu_under : ΔU "under" = some F_under := lookup_nd U0_nd (List.mem_of_getElem? (i := 81) rfl)
theorem uu_shop_under : ΔU "shop_under" = some F_shop_under := lookup_nd U0_nd (List.mem_of_getElem? (i := 82) rfl)
theorem uu__law_under : ΔU "_law_under" = some F__law_under := lookup_nd U0_nd (List.mem_of_getElem? (i := 83) rfl)
theorem uu_touched : ΔU "touched" = some F_touched := lookup_nd U0_nd (List.mem_of_getElem? (i := 84) rfl)
theorem uu_touches : ΔU "touches" = some F_touches := lookup_nd U0_nd (List.mem_of_getElem? (i := 85) rfl)
theorem uu__law_touch : ΔU "_law_touch" = some F__law_touch := lookup_nd U0_nd (List.mem_of_getElem? (i := 86) rfl)
theorem uu_offers_stand : ΔU "offers_stand" = some F_offers_stand := lookup_nd U0_nd (List.mem_of_getElem? (i := 87) rfl)
theorem uu_are_offers : ΔU "are_offers" = some F_are_offers := lookup_nd U0_nd (List.mem_of_getElem? (i := 88) rfl)
theorem uu__law_some_case : ΔU "_law_some_case" = some F__law_some_case := lookup_nd U0_nd (List.mem_of_getElem? (i := 89) rfl)
theorem uu_need_offers : ΔU "need_offers" = some F_need_offers := lookup_nd U0_nd (List.mem_of_getElem? (i := 90) rfl)
theorem uu_is_bought : ΔU "is_bought" = some F_is_bought := lookup_nd U0_nd (List.mem_of_getElem? (i := 91) rfl)
theorem uu_need_bought : ΔU "need_bought" = some F_need_bought := lookup_nd U0_nd (List.mem_of_getElem? (i := 92) rfl)
theorem uu_cost_of : ΔU "cost_of" = some F_cost_of := lookup_nd U0_nd (List.mem_of_getElem? (i := 93) rfl)
theorem uu_price_of : ΔU "price_of" = some F_price_of := lookup_nd U0_nd (List.mem_of_getElem? (i := 94) rfl)
theorem uu__law_price : ΔU "_law_price" = some F__law_price := lookup_nd U0_nd (List.mem_of_getElem? (i := 95) rfl)
theorem uu__law_subsets : ΔU "_law_subsets" = some F__law_subsets := lookup_nd U0_nd (List.mem_of_getElem? (i := 96) rfl)
theorem uu_need_kinds : ΔU "need_kinds" = some F_need_kinds := lookup_nd U0_nd (List.mem_of_getElem? (i := 97) rfl)
theorem uu_fault_under : ΔU "fault_under" = some F_fault_under := lookup_nd U0_nd (List.mem_of_getElem? (i := 98) rfl)
theorem uu_is_cure : ΔU "is_cure" = some F_is_cure := lookup_nd U0_nd (List.mem_of_getElem? (i := 99) rfl)
theorem uu_touching_acts : ΔU "touching_acts" = some F_touching_acts := lookup_nd U0_nd (List.mem_of_getElem? (i := 100) rfl)
theorem uu_with_act : ΔU "with_act" = some F_with_act := lookup_nd U0_nd (List.mem_of_getElem? (i := 101) rfl)
theorem uu_cheapest : ΔU "cheapest" = some F_cheapest := lookup_nd U0_nd (List.mem_of_getElem? (i := 102) rfl)
theorem uu_least_price : ΔU "least_price" = some F_least_price := lookup_nd U0_nd (List.mem_of_getElem? (i := 103) rfl)
theorem uu_all_cheapest : ΔU "all_cheapest" = some F_all_cheapest := lookup_nd U0_nd (List.mem_of_getElem? (i := 104) rfl)
theorem uu_sure_acts : ΔU "sure_acts" = some F_sure_acts := lookup_nd U0_nd (List.mem_of_getElem? (i := 105) rfl)
theorem uu__law_no_less : ΔU "_law_no_less" = some F__law_no_less := lookup_nd U0_nd (List.mem_of_getElem? (i := 106) rfl)
theorem uu_need_number : ΔU "need_number" = some F_need_number := lookup_nd U0_nd (List.mem_of_getElem? (i := 107) rfl)
theorem uu_reason_for : ΔU "reason_for" = some F_reason_for := lookup_nd U0_nd (List.mem_of_getElem? (i := 108) rfl)
theorem uu_paper : ΔU "paper" = some F_paper := lookup_nd U0_nd (List.mem_of_getElem? (i := 109) rfl)
theorem uu_is_right : ΔU "is_right" = some F_is_right := lookup_nd U0_nd (List.mem_of_getElem? (i := 110) rfl)
theorem uu_is_row : ΔU "is_row" = some F_is_row := lookup_nd U0_nd (List.mem_of_getElem? (i := 111) rfl)
theorem uu_is_paper : ΔU "is_paper" = some F_is_paper := lookup_nd U0_nd (List.mem_of_getElem? (i := 112) rfl)
theorem uu__law_is_right : ΔU "_law_is_right" = some F__law_is_right := lookup_nd U0_nd (List.mem_of_getElem? (i := 113) rfl)
theorem uu__law_fault_baskets : ΔU "_law_fault_baskets" = some F__law_fault_baskets := lookup_nd U0_nd (List.mem_of_getElem? (i := 114) rfl)
theorem uu__law_is_true : ΔU "_law_is_true" = some F__law_is_true := lookup_nd U0_nd (List.mem_of_getElem? (i := 115) rfl)
theorem uu_idle_rules : ΔU "idle_rules" = some F_idle_rules := lookup_nd U0_nd (List.mem_of_getElem? (i := 116) rfl)
theorem uu_need_two : ΔU "need_two" = some F_need_two := lookup_nd U0_nd (List.mem_of_getElem? (i := 117) rfl)
theorem uu_common_limits : ΔU "common_limits" = some F_common_limits := lookup_nd U0_nd (List.mem_of_getElem? (i := 118) rfl)
theorem uu_first_unlike : ΔU "first_unlike" = some F_first_unlike := lookup_nd U0_nd (List.mem_of_getElem? (i := 119) rfl)
theorem uu_same_charges : ΔU "same_charges" = some F_same_charges := lookup_nd U0_nd (List.mem_of_getElem? (i := 120) rfl)
theorem uu__law_high_both : ΔU "_law_high_both" = some F__law_high_both := lookup_nd U0_nd (List.mem_of_getElem? (i := 121) rfl)
theorem uu_parting_basket : ΔU "parting_basket" = some F_parting_basket := lookup_nd U0_nd (List.mem_of_getElem? (i := 122) rfl)
theorem uu_exchangeable : ΔU "exchangeable" = some F_exchangeable := lookup_nd U0_nd (List.mem_of_getElem? (i := 123) rfl)
theorem uu__law_one : ΔU "_law_one" = some F__law_one := lookup_nd U0_nd (List.mem_of_getElem? (i := 124) rfl)
theorem uu_item_text : ΔU "item_text" = some F_item_text := lookup_nd U0_nd (List.mem_of_getElem? (i := 125) rfl)
theorem uu_shop_text : ΔU "shop_text" = some F_shop_text := lookup_nd U0_nd (List.mem_of_getElem? (i := 126) rfl)
theorem uu_format_shop : ΔU "format_shop" = some F_format_shop := lookup_nd U0_nd (List.mem_of_getElem? (i := 127) rfl)
theorem uu_number_of : ΔU "number_of" = some F_number_of := lookup_nd U0_nd (List.mem_of_getElem? (i := 128) rfl)
theorem uu_item_of : ΔU "item_of" = some F_item_of := lookup_nd U0_nd (List.mem_of_getElem? (i := 129) rfl)
theorem uu_parse_shop : ΔU "parse_shop" = some F_parse_shop := lookup_nd U0_nd (List.mem_of_getElem? (i := 130) rfl)
theorem uu__law_read : ΔU "_law_read" = some F__law_read := lookup_nd U0_nd (List.mem_of_getElem? (i := 131) rfl)
theorem uu__law_put : ΔU "_law_put" = some F__law_put := lookup_nd U0_nd (List.mem_of_getElem? (i := 132) rfl)
theorem uu__law_take : ΔU "_law_take" = some F__law_take := lookup_nd U0_nd (List.mem_of_getElem? (i := 133) rfl)
theorem uu__law_undo : ΔU "_law_undo" = some F__law_undo := lookup_nd U0_nd (List.mem_of_getElem? (i := 134) rfl)
theorem uu_naive_less : ΔU "naive_less" = some F_naive_less := lookup_nd U0_nd (List.mem_of_getElem? (i := 135) rfl)
theorem uu_all_bought : ΔU "all_bought" = some F_all_bought := lookup_nd U0_nd (List.mem_of_getElem? (i := 136) rfl)
theorem uu_naive_least_price : ΔU "naive_least_price" = some F_naive_least_price := lookup_nd U0_nd (List.mem_of_getElem? (i := 137) rfl)
theorem uu__law_alone : ΔU "_law_alone" = some F__law_alone := lookup_nd U0_nd (List.mem_of_getElem? (i := 138) rfl)
theorem uu__law_two : ΔU "_law_two" = some F__law_two := lookup_nd U0_nd (List.mem_of_getElem? (i := 139) rfl)
theorem uu__law_shops : ΔU "_law_shops" = some F__law_shops := lookup_nd U0_nd (List.mem_of_getElem? (i := 140) rfl)
theorem exΔ : ∃ Δ : Str → Option Fn, Δ = ΔU := ⟨ΔU, rfl⟩
/-- the table, out of the reach of reckoning -/
noncomputable def Δ0 : Str → Option Fn := Classical.choose exΔ
theorem Δ0_eq : Δ0 = ΔU := Classical.choose_spec exΔ
theorem u__law_cell_at : Δ0 "_law_cell_at" = some F__law_cell_at := by rw [Δ0_eq]; exact uu__law_cell_at
theorem u__law_mixed : Δ0 "_law_mixed" = some F__law_mixed := by rw [Δ0_eq]; exact uu__law_mixed
theorem u__law_draw : Δ0 "_law_draw" = some F__law_draw := by rw [Δ0_eq]; exact uu__law_draw
theorem u__law_some_goods : Δ0 "_law_some_goods" = some F__law_some_goods := by rw [Δ0_eq]; exact uu__law_some_goods
theorem u__law_pick : Δ0 "_law_pick" = some F__law_pick := by rw [Δ0_eq]; exact uu__law_pick
theorem u__law_some_rule : Δ0 "_law_some_rule" = some F__law_some_rule := by rw [Δ0_eq]; exact uu__law_some_rule
theorem u__law_some_shop : Δ0 "_law_some_shop" = some F__law_some_shop := by rw [Δ0_eq]; exact uu__law_some_shop
theorem u_is_integer : Δ0 "is_integer" = some F_is_integer := by rw [Δ0_eq]; exact uu_is_integer
theorem u_is_good : Δ0 "is_good" = some F_is_good := by rw [Δ0_eq]; exact uu_is_good
theorem u_is_most : Δ0 "is_most" = some F_is_most := by rw [Δ0_eq]; exact uu_is_most
theorem u_is_rule : Δ0 "is_rule" = some F_is_rule := by rw [Δ0_eq]; exact uu_is_rule
theorem u_stands : Δ0 "stands" = some F_stands := by rw [Δ0_eq]; exact uu_stands
theorem u_is_shop : Δ0 "is_shop" = some F_is_shop := by rw [Δ0_eq]; exact uu_is_shop
theorem u_need_shop : Δ0 "need_shop" = some F_need_shop := by rw [Δ0_eq]; exact uu_need_shop
theorem u_basket_stands : Δ0 "basket_stands" = some F_basket_stands := by rw [Δ0_eq]; exact uu_basket_stands
theorem u_is_basket : Δ0 "is_basket" = some F_is_basket := by rw [Δ0_eq]; exact uu_is_basket
theorem u__law_some_basket : Δ0 "_law_some_basket" = some F__law_some_basket := by rw [Δ0_eq]; exact uu__law_some_basket
theorem u_need_basket : Δ0 "need_basket" = some F_need_basket := by rw [Δ0_eq]; exact uu_need_basket
theorem u_taken_times : Δ0 "taken_times" = some F_taken_times := by rw [Δ0_eq]; exact uu_taken_times
theorem u_rule_for : Δ0 "rule_for" = some F_rule_for := by rw [Δ0_eq]; exact uu_rule_for
theorem u_amount_of : Δ0 "amount_of" = some F_amount_of := by rw [Δ0_eq]; exact uu_amount_of
theorem u_amount_list : Δ0 "amount_list" = some F_amount_list := by rw [Δ0_eq]; exact uu_amount_list
theorem u_amounts : Δ0 "amounts" = some F_amounts := by rw [Δ0_eq]; exact uu_amounts
theorem u__law_fits : Δ0 "_law_fits" = some F__law_fits := by rw [Δ0_eq]; exact uu__law_fits
theorem u__law_amount : Δ0 "_law_amount" = some F__law_amount := by rw [Δ0_eq]; exact uu__law_amount
theorem u_takings : Δ0 "takings" = some F_takings := by rw [Δ0_eq]; exact uu_takings
theorem u_charge_of : Δ0 "charge_of" = some F_charge_of := by rw [Δ0_eq]; exact uu_charge_of
theorem u_charge : Δ0 "charge" = some F_charge := by rw [Δ0_eq]; exact uu_charge
theorem u__law_bill : Δ0 "_law_bill" = some F__law_bill := by rw [Δ0_eq]; exact uu__law_bill
theorem u_uses_of : Δ0 "uses_of" = some F_uses_of := by rw [Δ0_eq]; exact uu_uses_of
theorem u_uses : Δ0 "uses" = some F_uses := by rw [Δ0_eq]; exact uu_uses
theorem u_gain_of : Δ0 "gain_of" = some F_gain_of := by rw [Δ0_eq]; exact uu_gain_of
theorem u_gain : Δ0 "gain" = some F_gain := by rw [Δ0_eq]; exact uu_gain
theorem u__law_costs : Δ0 "_law_costs" = some F__law_costs := by rw [Δ0_eq]; exact uu__law_costs
theorem u_without : Δ0 "without" = some F_without := by rw [Δ0_eq]; exact uu_without
theorem u_effects : Δ0 "effects" = some F_effects := by rw [Δ0_eq]; exact uu_effects
theorem u_need_small : Δ0 "need_small" = some F_need_small := by rw [Δ0_eq]; exact uu_need_small
theorem u_Prices___init__ : Δ0 "Prices.__init__" = some F_Prices___init__ := by rw [Δ0_eq]; exact uu_Prices___init__
theorem u_Prices : Δ0 "Prices" = some F_Prices := by rw [Δ0_eq]; exact uu_Prices
theorem u_baskets_by_pieces : Δ0 "baskets_by_pieces" = some F_baskets_by_pieces := by rw [Δ0_eq]; exact uu_baskets_by_pieces
theorem u_first_rule : Δ0 "first_rule" = some F_first_rule := by rw [Δ0_eq]; exact uu_first_rule
theorem u_steady : Δ0 "steady" = some F_steady := by rw [Δ0_eq]; exact uu_steady
theorem u_endless : Δ0 "endless" = some F_endless := by rw [Δ0_eq]; exact uu_endless
theorem u_divisor : Δ0 "divisor" = some F_divisor := by rw [Δ0_eq]; exact uu_divisor
theorem u_settled : Δ0 "settled" = some F_settled := by rw [Δ0_eq]; exact uu_settled
theorem u_period : Δ0 "period" = some F_period := by rw [Δ0_eq]; exact uu_period
theorem u_periods : Δ0 "periods" = some F_periods := by rw [Δ0_eq]; exact uu_periods
theorem u_highest : Δ0 "highest" = some F_highest := by rw [Δ0_eq]; exact uu_highest
theorem u_Prices_charge : Δ0 "Prices.charge" = some F_Prices_charge := by rw [Δ0_eq]; exact uu_Prices_charge
theorem u_least_above : Δ0 "least_above" = some F_least_above := by rw [Δ0_eq]; exact uu_least_above
theorem u_fewest_more : Δ0 "fewest_more" = some F_fewest_more := by rw [Δ0_eq]; exact uu_fewest_more
theorem u__law_more : Δ0 "_law_more" = some F__law_more := by rw [Δ0_eq]; exact uu__law_more
theorem u__law_baskets : Δ0 "_law_baskets" = some F__law_baskets := by rw [Δ0_eq]; exact uu__law_baskets
theorem u__law_first_less : Δ0 "_law_first_less" = some F__law_first_less := by rw [Δ0_eq]; exact uu__law_first_less
theorem u__law_high : Δ0 "_law_high" = some F__law_high := by rw [Δ0_eq]; exact uu__law_high
theorem u__law_same_truth : Δ0 "_law_same_truth" = some F__law_same_truth := by rw [Δ0_eq]; exact uu__law_same_truth
theorem u_with_more : Δ0 "with_more" = some F_with_more := by rw [Δ0_eq]; exact uu_with_more
theorem u_less_in : Δ0 "less_in" = some F_less_in := by rw [Δ0_eq]; exact uu_less_in
theorem u_limits : Δ0 "limits" = some F_limits := by rw [Δ0_eq]; exact uu_limits
theorem u_found_less : Δ0 "found_less" = some F_found_less := by rw [Δ0_eq]; exact uu_found_less
theorem u_first_less : Δ0 "first_less" = some F_first_less := by rw [Δ0_eq]; exact uu_first_less
theorem u__law_first : Δ0 "_law_first" = some F__law_first := by rw [Δ0_eq]; exact uu__law_first
theorem u_has_less : Δ0 "has_less" = some F_has_less := by rw [Δ0_eq]; exact uu_has_less
theorem u_box : Δ0 "box" = some F_box := by rw [Δ0_eq]; exact uu_box
theorem u_shows : Δ0 "shows" = some F_shows := by rw [Δ0_eq]; exact uu_shows
theorem u_is_fault : Δ0 "is_fault" = some F_is_fault := by rw [Δ0_eq]; exact uu_is_fault
theorem u__law_is_loss : Δ0 "_law_is_loss" = some F__law_is_loss := by rw [Δ0_eq]; exact uu__law_is_loss
theorem u_found_loss : Δ0 "found_loss" = some F_found_loss := by rw [Δ0_eq]; exact uu_found_loss
theorem u_some_loss : Δ0 "some_loss" = some F_some_loss := by rw [Δ0_eq]; exact uu_some_loss
theorem u__law_some : Δ0 "_law_some" = some F__law_some := by rw [Δ0_eq]; exact uu__law_some
theorem u_has_loss : Δ0 "has_loss" = some F_has_loss := by rw [Δ0_eq]; exact uu_has_loss
theorem u__law_all_acts : Δ0 "_law_all_acts" = some F__law_all_acts := by rw [Δ0_eq]; exact uu__law_all_acts
theorem u__law_some_of : Δ0 "_law_some_of" = some F__law_some_of := by rw [Δ0_eq]; exact uu__law_some_of
theorem u__law_some_acts : Δ0 "_law_some_acts" = some F__law_some_acts := by rw [Δ0_eq]; exact uu__law_some_acts
theorem u_rises : Δ0 "rises" = some F_rises := by rw [Δ0_eq]; exact uu_rises
theorem u_most_of : Δ0 "most_of" = some F_most_of := by rw [Δ0_eq]; exact uu_most_of
theorem u_is_act : Δ0 "is_act" = some F_is_act := by rw [Δ0_eq]; exact uu_is_act
theorem u_acts_stand : Δ0 "acts_stand" = some F_acts_stand := by rw [Δ0_eq]; exact uu_acts_stand
theorem u_are_acts : Δ0 "are_acts" = some F_are_acts := by rw [Δ0_eq]; exact uu_are_acts
theorem u_need_acts : Δ0 "need_acts" = some F_need_acts := by rw [Δ0_eq]; exact uu_need_acts
theorem u_kept_rules : Δ0 "kept_rules" = some F_kept_rules := by rw [Δ0_eq]; exact uu_kept_rules
theorem u_under : Δ0 "under" = some F_under := by rw [Δ0_eq]; exact uu_under
theorem u_shop_under : Δ0 "shop_under" = some F_shop_under := by rw [Δ0_eq]; exact uu_shop_under
theorem u__law_under : Δ0 "_law_under" = some F__law_under := by rw [Δ0_eq]; exact uu__law_under
theorem u_touched : Δ0 "touched" = some F_touched := by rw [Δ0_eq]; exact uu_touched
theorem u_touches : Δ0 "touches" = some F_touches := by rw [Δ0_eq]; exact uu_touches
theorem u__law_touch : Δ0 "_law_touch" = some F__law_touch := by rw [Δ0_eq]; exact uu__law_touch
theorem u_offers_stand : Δ0 "offers_stand" = some F_offers_stand := by rw [Δ0_eq]; exact uu_offers_stand
theorem u_are_offers : Δ0 "are_offers" = some F_are_offers := by rw [Δ0_eq]; exact uu_are_offers
theorem u__law_some_case : Δ0 "_law_some_case" = some F__law_some_case := by rw [Δ0_eq]; exact uu__law_some_case
theorem u_need_offers : Δ0 "need_offers" = some F_need_offers := by rw [Δ0_eq]; exact uu_need_offers
theorem u_is_bought : Δ0 "is_bought" = some F_is_bought := by rw [Δ0_eq]; exact uu_is_bought
theorem u_need_bought : Δ0 "need_bought" = some F_need_bought := by rw [Δ0_eq]; exact uu_need_bought
theorem u_cost_of : Δ0 "cost_of" = some F_cost_of := by rw [Δ0_eq]; exact uu_cost_of
theorem u_price_of : Δ0 "price_of" = some F_price_of := by rw [Δ0_eq]; exact uu_price_of
theorem u__law_price : Δ0 "_law_price" = some F__law_price := by rw [Δ0_eq]; exact uu__law_price
theorem u__law_subsets : Δ0 "_law_subsets" = some F__law_subsets := by rw [Δ0_eq]; exact uu__law_subsets
theorem u_need_kinds : Δ0 "need_kinds" = some F_need_kinds := by rw [Δ0_eq]; exact uu_need_kinds
theorem u_fault_under : Δ0 "fault_under" = some F_fault_under := by rw [Δ0_eq]; exact uu_fault_under
theorem u_is_cure : Δ0 "is_cure" = some F_is_cure := by rw [Δ0_eq]; exact uu_is_cure
theorem u_touching_acts : Δ0 "touching_acts" = some F_touching_acts := by rw [Δ0_eq]; exact uu_touching_acts
theorem u_with_act : Δ0 "with_act" = some F_with_act := by rw [Δ0_eq]; exact uu_with_act
theorem u_cheapest : Δ0 "cheapest" = some F_cheapest := by rw [Δ0_eq]; exact uu_cheapest
theorem u_least_price : Δ0 "least_price" = some F_least_price := by rw [Δ0_eq]; exact uu_least_price
theorem u_all_cheapest : Δ0 "all_cheapest" = some F_all_cheapest := by rw [Δ0_eq]; exact uu_all_cheapest
theorem u_sure_acts : Δ0 "sure_acts" = some F_sure_acts := by rw [Δ0_eq]; exact uu_sure_acts
theorem u__law_no_less : Δ0 "_law_no_less" = some F__law_no_less := by rw [Δ0_eq]; exact uu__law_no_less
theorem u_need_number : Δ0 "need_number" = some F_need_number := by rw [Δ0_eq]; exact uu_need_number
theorem u_reason_for : Δ0 "reason_for" = some F_reason_for := by rw [Δ0_eq]; exact uu_reason_for
theorem u_paper : Δ0 "paper" = some F_paper := by rw [Δ0_eq]; exact uu_paper
theorem u_is_right : Δ0 "is_right" = some F_is_right := by rw [Δ0_eq]; exact uu_is_right
theorem u_is_row : Δ0 "is_row" = some F_is_row := by rw [Δ0_eq]; exact uu_is_row
theorem u_is_paper : Δ0 "is_paper" = some F_is_paper := by rw [Δ0_eq]; exact uu_is_paper
theorem u__law_is_right : Δ0 "_law_is_right" = some F__law_is_right := by rw [Δ0_eq]; exact uu__law_is_right
theorem u__law_fault_baskets : Δ0 "_law_fault_baskets" = some F__law_fault_baskets := by rw [Δ0_eq]; exact uu__law_fault_baskets
theorem u__law_is_true : Δ0 "_law_is_true" = some F__law_is_true := by rw [Δ0_eq]; exact uu__law_is_true
theorem u_idle_rules : Δ0 "idle_rules" = some F_idle_rules := by rw [Δ0_eq]; exact uu_idle_rules
theorem u_need_two : Δ0 "need_two" = some F_need_two := by rw [Δ0_eq]; exact uu_need_two
theorem u_common_limits : Δ0 "common_limits" = some F_common_limits := by rw [Δ0_eq]; exact uu_common_limits
theorem u_first_unlike : Δ0 "first_unlike" = some F_first_unlike := by rw [Δ0_eq]; exact uu_first_unlike
theorem u_same_charges : Δ0 "same_charges" = some F_same_charges := by rw [Δ0_eq]; exact uu_same_charges
theorem u__law_high_both : Δ0 "_law_high_both" = some F__law_high_both := by rw [Δ0_eq]; exact uu__law_high_both
theorem u_parting_basket : Δ0 "parting_basket" = some F_parting_basket := by rw [Δ0_eq]; exact uu_parting_basket
theorem u_exchangeable : Δ0 "exchangeable" = some F_exchangeable := by rw [Δ0_eq]; exact uu_exchangeable
theorem u__law_one : Δ0 "_law_one" = some F__law_one := by rw [Δ0_eq]; exact uu__law_one
theorem u_item_text : Δ0 "item_text" = some F_item_text := by rw [Δ0_eq]; exact uu_item_text
theorem u_shop_text : Δ0 "shop_text" = some F_shop_text := by rw [Δ0_eq]; exact uu_shop_text
theorem u_format_shop : Δ0 "format_shop" = some F_format_shop := by rw [Δ0_eq]; exact uu_format_shop
theorem u_number_of : Δ0 "number_of" = some F_number_of := by rw [Δ0_eq]; exact uu_number_of
theorem u_item_of : Δ0 "item_of" = some F_item_of := by rw [Δ0_eq]; exact uu_item_of
theorem u_parse_shop : Δ0 "parse_shop" = some F_parse_shop := by rw [Δ0_eq]; exact uu_parse_shop
theorem u__law_read : Δ0 "_law_read" = some F__law_read := by rw [Δ0_eq]; exact uu__law_read
theorem u__law_put : Δ0 "_law_put" = some F__law_put := by rw [Δ0_eq]; exact uu__law_put
theorem u__law_take : Δ0 "_law_take" = some F__law_take := by rw [Δ0_eq]; exact uu__law_take
theorem u__law_undo : Δ0 "_law_undo" = some F__law_undo := by rw [Δ0_eq]; exact uu__law_undo
theorem u_naive_less : Δ0 "naive_less" = some F_naive_less := by rw [Δ0_eq]; exact uu_naive_less
theorem u_all_bought : Δ0 "all_bought" = some F_all_bought := by rw [Δ0_eq]; exact uu_all_bought
theorem u_naive_least_price : Δ0 "naive_least_price" = some F_naive_least_price := by rw [Δ0_eq]; exact uu_naive_least_price
theorem u__law_alone : Δ0 "_law_alone" = some F__law_alone := by rw [Δ0_eq]; exact uu__law_alone
theorem u__law_two : Δ0 "_law_two" = some F__law_two := by rw [Δ0_eq]; exact uu__law_two
theorem u__law_shops : Δ0 "_law_shops" = some F__law_shops := by rw [Δ0_eq]; exact uu__law_shops
end D

namespace D
open PySem L2
/-! ## running the text by rewriting -/
section
variable {Γ : Gam} {e : SEnv} {wf : Nat}
@[simp] theorem bind_okE {α β : Type} {a : α} {f : α → SEnv → Res β} : (Res.ok a e).bind f = f a e := id rfl
@[simp] theorem bind_exc {α β : Type} {c : Str} {f : α → SEnv → Res β} : (Res.exc c e : Res α).bind f = .exc c e := id rfl
@[simp] theorem bind_bad {α β : Type} {f : α → SEnv → Res β} : (Res.bad : Res α).bind f = .bad := id rfl
@[simp] theorem toW_val {w : W} : (Slot.val w).toW = w := id rfl
@[simp] theorem toW_own {io : Bool} {xs : List W} : (Slot.own io xs).toW = .list xs := id rfl
@[simp] theorem toW_s {x : Slot} : (RV.s x).toW = x.toW := id rfl
@[simp] theorem toW_t {xs : List Slot} : (RV.t xs).toW = .tuple (xs.map Slot.toW) := id rfl
@[simp] theorem get_w {x : W} : (Opd.w x).get e = some x := id rfl
@[simp] theorem optR_some {α : Type} {a : α} : optR (some a) e = .ok a e := id rfl
@[simp] theorem optR_none {α : Type} : optR (none : Option α) e = .bad := id rfl
@[simp] theorem get_r' {i : Nat} : (Opd.r i).get e = match e[i]? with | some (some (.own _ xs)) => some (.list xs) | _ => none := by unfold Opd.get; rfl
/-! ### what comes next, by name: nothing of it is rewritten before its turn -/
/-- by a truth value -/
def condB {α : Type} (w : W) (a b : Res α) : Res α := match w with
  | .bool true => a
  | .bool false => b
  | _ => .bad
noncomputable def kBin2 (op : Operator) (x : Opd) (y : Opd) (e : SEnv) : Res RV := match x.get e, y.get e with
    | some x, some y => optR (binop op x y) e
    | _, _ => .bad
noncomputable def kBin1 (Γ : Gam) (op : Operator) (b : A) (x : Opd) (e : SEnv) : Res RV := (evA Γ b e).bind (kBin2 op x)
@[simp] theorem k_bin1 {op : Operator} {b : A} {x : Opd} : kBin1 Γ op b x e = (evA Γ b e).bind (kBin2 op x) := id rfl
@[simp] theorem k_bin2 {op : Operator} {x y : Opd} : kBin2 op x y e = match x.get e, y.get e with
    | some x, some y => optR (binop op x y) e
    | _, _ => .bad := by unfold kBin2; rfl
@[simp] theorem ev_bin {op : Operator} {a b : A} : evE Γ (.bin op a b) e = (evA Γ a e).bind (kBin1 Γ op b) := by rw [evE] <;> rfl
noncomputable def kCmp2 (op : CmpOp) (x : Opd) (y : Opd) (e : SEnv) : Res RV := match x.get e, y.get e with
    | some x, some y => optR ((cmpop op x y).map fun b => .s (.val (.bool b))) e
    | _, _ => .bad
noncomputable def kCmp1 (Γ : Gam) (op : CmpOp) (b : A) (x : Opd) (e : SEnv) : Res RV := (evA Γ b e).bind (kCmp2 op x)
@[simp] theorem k_cmp1 {op : CmpOp} {b : A} {x : Opd} : kCmp1 Γ op b x e = (evA Γ b e).bind (kCmp2 op x) := id rfl
@[simp] theorem k_cmp2 {op : CmpOp} {x y : Opd} : kCmp2 op x y e = match x.get e, y.get e with
    | some x, some y => optR ((cmpop op x y).map fun b => .s (.val (.bool b))) e
    | _, _ => .bad := by unfold kCmp2; rfl
@[simp] theorem ev_cmp {op : CmpOp} {a b : A} : evE Γ (.cmp op a b) e = (evA Γ a e).bind (kCmp1 Γ op b) := by rw [evE] <;> rfl
@[simp] theorem ev_var {i : Nat} : evE Γ (.var i) e = match e[i]? with
    | some (some (.val w)) => .ok (.s (.val w)) e
    | some (some (.own false xs)) => .ok (.s (.val (.list xs))) (e.set i (some (.val (.list xs))))
    | _ => .bad := by
  unfold evE; rfl
@[simp] theorem ev_con {w : W} : evE Γ (.con w) e = .ok (.s (.val w)) e := by unfold evE; rfl
noncomputable def kNeg (x : RV) (e : SEnv) : Res RV := match x.toW with
    | .int i => .ok (.s (.val (.int (-i)))) e
    | _ => .bad
@[simp] theorem k_neg {i : Int} : kNeg (.s (.val (.int i))) e = .ok (.s (.val (.int (-i)))) e := id rfl
@[simp] theorem ev_neg {a : E} : evE Γ (.neg a) e = (evE Γ a e).bind kNeg := by rw [evE] <;> rfl
noncomputable def kChn3 (o2 : CmpOp) (y z : RV) (e : SEnv) : Res RV := optR ((cmpop o2 y.toW z.toW).map fun b => .s (.val (.bool b))) e
noncomputable def kChnB (Γ : Gam) (o2 : CmpOp) (c : E) (y : RV) (t : Bool) (e : SEnv) : Res RV := if t then (evE Γ c e).bind (kChn3 o2 y) else .ok (.s (.val (.bool false))) e
noncomputable def kChn2 (Γ : Gam) (o1 o2 : CmpOp) (c : E) (x y : RV) (e : SEnv) : Res RV := (optR (cmpop o1 x.toW y.toW) e).bind (kChnB Γ o2 c y)
noncomputable def kChn1 (Γ : Gam) (o1 o2 : CmpOp) (b c : E) (x : RV) (e : SEnv) : Res RV := (evE Γ b e).bind (kChn2 Γ o1 o2 c x)
@[simp] theorem k_chn1 {o1 o2 : CmpOp} {b c : E} {x : RV} : kChn1 Γ o1 o2 b c x e = (evE Γ b e).bind (kChn2 Γ o1 o2 c x) := id rfl
@[simp] theorem k_chn2 {o1 o2 : CmpOp} {c : E} {x y : RV} : kChn2 Γ o1 o2 c x y e = (optR (cmpop o1 x.toW y.toW) e).bind (kChnB Γ o2 c y) := id rfl
@[simp] theorem k_chnT {o2 : CmpOp} {c : E} {y : RV} : kChnB Γ o2 c y true e = (evE Γ c e).bind (kChn3 o2 y) := id rfl
@[simp] theorem k_chnF {o2 : CmpOp} {c : E} {y : RV} : kChnB Γ o2 c y false e = .ok (.s (.val (.bool false))) e := id rfl
@[simp] theorem k_chn3 {o2 : CmpOp} {y z : RV} : kChn3 o2 y z e = optR ((cmpop o2 y.toW z.toW).map fun b => .s (.val (.bool b))) e := id rfl
@[simp] theorem ev_chn {o1 o2 : CmpOp} {a b c : E} : evE Γ (.chn o1 o2 a b c) e = (evE Γ a e).bind (kChn1 Γ o1 o2 b c) := by
  rw [evE]
  congr 1; funext x e
  unfold kChn1
  congr 1; funext y e
  unfold kChn2
  cases cmpop o1 x.toW y.toW with
  | none => rfl
  | some t => cases t <;> rfl
noncomputable def kNot (x : RV) (e : SEnv) : Res RV := match x.toW with
    | .bool b => .ok (.s (.val (.bool (!b)))) e
    | _ => .bad
@[simp] theorem k_not {b : Bool} : kNot (.s (.val (.bool b))) e = .ok (.s (.val (.bool (!b)))) e := id rfl
@[simp] theorem ev_not {a : E} : evE Γ (.not a) e = (evE Γ a e).bind kNot := by rw [evE] <;> rfl
noncomputable def kTl (y : RV) (e : SEnv) : Res RV := .ok (.s (.val y.toW)) e
@[simp] theorem k_tl {y : RV} : kTl y e = .ok (.s (.val y.toW)) e := id rfl
noncomputable def kAnd (Γ : Gam) (b : E) (x : RV) (e : SEnv) : Res RV := condB x.toW ((evE Γ b e).bind kTl) (.ok (.s (.val (.bool false))) e)
@[simp] theorem k_andT {b : E} : kAnd Γ b (.s (.val (.bool true))) e = (evE Γ b e).bind kTl := id rfl
@[simp] theorem k_andF {b : E} : kAnd Γ b (.s (.val (.bool false))) e = .ok (.s (.val (.bool false))) e := id rfl
@[simp] theorem ev_and {a b : E} : evE Γ (.and a b) e = (evE Γ a e).bind (kAnd Γ b) := by rw [evE] <;> rfl
noncomputable def kOr (Γ : Gam) (b : E) (x : RV) (e : SEnv) : Res RV := condB x.toW (.ok (.s (.val (.bool true))) e) ((evE Γ b e).bind kTl)
@[simp] theorem k_orT {b : E} : kOr Γ b (.s (.val (.bool true))) e = .ok (.s (.val (.bool true))) e := id rfl
@[simp] theorem k_orF {b : E} : kOr Γ b (.s (.val (.bool false))) e = (evE Γ b e).bind kTl := id rfl
@[simp] theorem ev_or {a b : E} : evE Γ (.or a b) e = (evE Γ a e).bind (kOr Γ b) := by rw [evE] <;> rfl
noncomputable def kIfe (Γ : Gam) (a b : E) (x : RV) (e : SEnv) : Res RV := condB x.toW (evE Γ a e) (evE Γ b e)
@[simp] theorem k_ifeT {a b : E} : kIfe Γ a b (.s (.val (.bool true))) e = evE Γ a e := id rfl
@[simp] theorem k_ifeF {a b : E} : kIfe Γ a b (.s (.val (.bool false))) e = evE Γ b e := id rfl
@[simp] theorem ev_ife {t a b : E} : evE Γ (.ife t a b) e = (evE Γ t e).bind (kIfe Γ a b) := by rw [evE] <;> rfl
noncomputable def kTup (xs : List Slot) (e : SEnv) : Res RV := if fits xs.length then .ok (.t xs) e else .bad
@[simp] theorem k_tup {xs : List Slot} : kTup xs e = if fits xs.length then .ok (.t xs) e else .bad := id rfl
@[simp] theorem ev_tup {es : List E} : evE Γ (.tup es) e = (evEs Γ es e).bind kTup := by rw [evE] <;> rfl
noncomputable def kLst (xs : List Slot) (e : SEnv) : Res RV := if fits xs.length then .ok (.s (.own false (xs.map Slot.toW))) e else .bad
@[simp] theorem k_lst {xs : List Slot} : kLst xs e = if fits xs.length then .ok (.s (.own false (xs.map Slot.toW))) e else .bad := id rfl
@[simp] theorem ev_lst {es : List E} : evE Γ (.lst es) e = (evEs Γ es e).bind kLst := by rw [evE] <;> rfl
noncomputable def kIdx2 (x : Opd) (y : RV) (e : SEnv) : Res RV := match x.get e with
    | some x => optR ((idxop x y.toW).map fun w => .s (.val w)) e
    | none => .bad
noncomputable def kIdx1 (Γ : Gam) (i : E) (x : Opd) (e : SEnv) : Res RV := (evE Γ i e).bind (kIdx2 x)
@[simp] theorem k_idx1 {i : E} {x : Opd} : kIdx1 Γ i x e = (evE Γ i e).bind (kIdx2 x) := id rfl
@[simp] theorem k_idx2 {x : Opd} {y : RV} : kIdx2 x y e = match x.get e with
    | some x => optR ((idxop x y.toW).map fun w => .s (.val w)) e
    | none => .bad := by unfold kIdx2; rfl
@[simp] theorem ev_idx {a : A} {i : E} : evE Γ (.idx a i) e = (evA Γ a e).bind (kIdx1 Γ i) := by rw [evE] <;> rfl
noncomputable def kSli3 (x : Opd) (l h : Option Int) (e : SEnv) : Res RV := match x.get e with
    | some x => optR (sliop x l h) e
    | none => .bad
noncomputable def kSli2 (Γ : Gam) (hi : Option E) (x : Opd) (l : Option Int) (e : SEnv) : Res RV := (evO Γ hi e).bind (kSli3 x l)
noncomputable def kSli1 (Γ : Gam) (lo hi : Option E) (x : Opd) (e : SEnv) : Res RV := (evO Γ lo e).bind (kSli2 Γ hi x)
@[simp] theorem k_sli1 {lo hi : Option E} {x : Opd} : kSli1 Γ lo hi x e = (evO Γ lo e).bind (kSli2 Γ hi x) := id rfl
@[simp] theorem k_sli2 {hi : Option E} {x : Opd} {l : Option Int} : kSli2 Γ hi x l e = (evO Γ hi e).bind (kSli3 x l) := id rfl
@[simp] theorem k_sli3 {x : Opd} {l h : Option Int} : kSli3 x l h e = match x.get e with
    | some x => optR (sliop x l h) e
    | none => .bad := by unfold kSli3; rfl
noncomputable def kRev (k : Option Nat) (x : Opd) (e : SEnv) : Res RV := match x.get e with
    | some x => optR (revop x k) e
    | none => .bad
@[simp] theorem k_rev {x : Opd} {k : Option Nat} : kRev k x e = match x.get e with
    | some x => optR (revop x k) e
    | none => .bad := by unfold kRev; rfl
@[simp] theorem ev_rev {a : A} {k : Option Nat} : evE Γ (.rev a k) e = (evA Γ a e).bind (kRev k) := by rw [evE] <;> rfl
@[simp] theorem rev_list {xs : List W} {k : Option Nat} : revop (.list xs) k = some (.s (.own false (revL xs k))) := id rfl
@[simp] theorem rev_tuple {xs : List W} {k : Option Nat} : revop (.tuple xs) k = some (.s (.val (.tuple (revL xs k)))) := id rfl
@[simp] theorem ev_sli {a : A} {lo hi : Option E} : evE Γ (.sli a lo hi) e = (evA Γ a e).bind (kSli1 Γ lo hi) := by rw [evE] <;> rfl
noncomputable def kBlt (f : String) (os : List Opd) (e : SEnv) : Res RV := match getAll e os with
    | some ws => optR (bltop f ws) e
    | none => .bad
@[simp] theorem k_blt {f : String} {os : List Opd} : kBlt f os e = match getAll e os with
    | some ws => optR (bltop f ws) e
    | none => .bad := by unfold kBlt; rfl
@[simp] theorem ev_blt {f : String} {as : List A} : evE Γ (.blt f as) e = (evAs Γ as e).bind (kBlt f) := by rw [evE] <;> rfl
noncomputable def kIsi (T : String) (x : Opd) (e : SEnv) : Res RV := match x.get e with
    | some x => optR ((isiop x T).map fun b => .s (.val (.bool b))) e
    | none => .bad
@[simp] theorem k_isi {T : String} {x : Opd} : kIsi T x e = match x.get e with
    | some x => optR ((isiop x T).map fun b => .s (.val (.bool b))) e
    | none => .bad := by unfold kIsi; rfl
@[simp] theorem ev_isi {a : A} {T : String} : evE Γ (.isi a T) e = (evA Γ a e).bind (kIsi T) := by rw [evE] <;> rfl
/-- a call, of what was read -/
noncomputable def callR0 (Γ : Gam) (f : Str) (os : List Opd) (e : SEnv) : Res RV := match slotsOf e os with
    | some ss => if !refsNd os then .bad else match Γ.call f ss with
      | .ok r outs => match putOuts e os outs with
        | some e => .ok r e
        | none => .bad
      | .exc c outs => match putOuts e os outs with
        | some e => .exc c e
        | none => .bad
      | .bad => .bad
    | none => .bad
theorem callR {c : Str → List Slot → CRes} {f : Str} {os : List Opd} : callR0 ⟨c⟩ f os e = match slotsOf e os with
    | some ss => if !refsNd os then .bad else match c f ss with
      | .ok r outs => match putOuts e os outs with
        | some e => .ok r e
        | none => .bad
      | .exc c outs => match putOuts e os outs with
        | some e => .exc c e
        | none => .bad
      | .bad => .bad
    | none => .bad := by
  unfold callR0
  rfl
@[simp] theorem ev_call {f : Str} {as : List A} : evE Γ (.call f as) e = (evAs Γ as e).bind (callR0 Γ f) := by rw [evE] <;> rfl
noncomputable def kApp (i : Nat) (r : RV) (e : SEnv) : Res RV := match e[i]? with
    | some (some (.own io xs)) => if xs.length < sizeLine then .ok (.s (.val .none)) (e.set i (some (.own io (xs ++ [r.toW])))) else .bad
    | _ => .bad
@[simp] theorem k_app {i : Nat} {r : RV} : kApp i r e = match e[i]? with
    | some (some (.own io xs)) => if xs.length < sizeLine then .ok (.s (.val .none)) (e.set i (some (.own io (xs ++ [r.toW])))) else .bad
    | _ => .bad := by unfold kApp; rfl
@[simp] theorem ev_app {i : Nat} {x : E} : evE Γ (.app i x) e = if !isOwn e i then .bad else (evE Γ x e).bind (kApp i) := by rw [evE] <;> rfl
noncomputable def kExt (i : Nat) (o : Opd) (e : SEnv) : Res RV := match o.get e, e[i]? with
    | some (.list ys), some (some (.own io xs)) => if xs.length + ys.length ≤ sizeLine then .ok (.s (.val .none)) (e.set i (some (.own io (xs ++ ys)))) else .bad
    | _, _ => .bad
@[simp] theorem k_ext {i : Nat} {o : Opd} : kExt i o e = match o.get e, e[i]? with
    | some (.list ys), some (some (.own io xs)) => if xs.length + ys.length ≤ sizeLine then .ok (.s (.val .none)) (e.set i (some (.own io (xs ++ ys)))) else .bad
    | _, _ => .bad := by unfold kExt; rfl
@[simp] theorem ev_ext {i : Nat} {a : A} : evE Γ (.ext i a) e = if !isOwn e i then .bad else (evA Γ a e).bind (kExt i) := by rw [evE] <;> rfl
@[simp] theorem ev_pop0 {i : Nat} : evE Γ (.pop i none) e = match e[i]? with
    | some (some (.own io xs)) => match xs[xs.length - 1]? with
      | some y => .ok (.s (.val y)) (e.set i (some (.own io xs.dropLast)))
      | none => .bad
    | _ => .bad := by
  rw [evE] <;> rfl
noncomputable def kPop (i : Nat) (r : RV) (e : SEnv) : Res RV := match r.toW, e[i]? with
    | .int j, some (some (.own io xs)) => if 0 ≤ j ∧ j < xs.length ∧ j < 1000000 then match xs[j.toNat]? with
      | some y => .ok (.s (.val y)) (e.set i (some (.own io (xs.eraseIdx j.toNat))))
      | none => .bad
      else .bad
    | _, _ => .bad
@[simp] theorem k_pop {i : Nat} {r : RV} : kPop i r e = match r.toW, e[i]? with
    | .int j, some (some (.own io xs)) => if 0 ≤ j ∧ j < xs.length ∧ j < 1000000 then match xs[j.toNat]? with
      | some y => .ok (.s (.val y)) (e.set i (some (.own io (xs.eraseIdx j.toNat))))
      | none => .bad
      else .bad
    | _, _ => .bad := by unfold kPop; rfl
@[simp] theorem ev_pop1 {i : Nat} {k : E} : evE Γ (.pop i (some k)) e = if !isOwn e i then .bad else (evE Γ k e).bind (kPop i) := by rw [evE] <;> rfl
@[simp] theorem ev_mov {i : Nat} : evE Γ (.mov i) e = match e[i]? with
    | some (some (.own false xs)) => .ok (.s (.own false xs)) (e.set i none)
    | _ => .bad := by
  unfold evE; rfl
noncomputable def kLix (xs : List W) (r : RV) (e : SEnv) : Res RV := if shp (.list xs) && shp r.toW then match xs.findIdx? (fun z => PyData.eqv z r.toW) with
      | some j => .ok (.s (.val (.int (j : Nat)))) e
      | none => .bad
      else .bad
@[simp] theorem ev_lix {i : Nat} {x : E} : evE Γ (.lix i x) e = match e[i]? with
    | some (some (.val (.list xs))) => (evE Γ x e).bind (kLix xs)
    | _ => .bad := by
  rw [evE] <;> rfl
noncomputable def kPk (k : Nat) (r : RV) (e : SEnv) : Res RV := match r with
    | .t xs => match xs[k]? with
      | some s => .ok (.s s) e
      | none => .bad
    | .s _ => .bad
@[simp] theorem k_pk {k : Nat} {xs : List Slot} : kPk k (.t xs) e = match xs[k]? with
      | some s => .ok (.s s) e
      | none => .bad := id rfl
@[simp] theorem ev_pk {x : E} {k : Nat} : evE Γ (.pk x k) e = (evE Γ x e).bind (kPk k) := by rw [evE] <;> rfl
noncomputable def kV (r : RV) (e : SEnv) : Res Opd := .ok (.w r.toW) e
@[simp] theorem k_v {r : RV} : kV r e = .ok (.w r.toW) e := id rfl
@[simp] theorem evA_v' {x : E} : evA Γ (.v x) e = (evE Γ x e).bind kV := by rw [evA] <;> rfl
@[simp] theorem evA_r {i : Nat} : evA Γ (.r i) e = match e[i]? with
    | some (some (.own _ _)) => .ok (.r i) e
    | some (some (.val w)) => .ok (.w w) e
    | _ => .bad := by
  rw [evA] <;> rfl
@[simp] theorem evAs_nil : evAs Γ [] e = .ok [] e := by rw [evAs]
noncomputable def kAs2 (o : Opd) (os : List Opd) (e : SEnv) : Res (List Opd) := .ok (o :: os) e
noncomputable def kAs1 (Γ : Gam) (as : List A) (o : Opd) (e : SEnv) : Res (List Opd) := (evAs Γ as e).bind (kAs2 o)
@[simp] theorem k_as2 {o : Opd} {os : List Opd} : kAs2 o os e = .ok (o :: os) e := id rfl
@[simp] theorem k_as1 {as : List A} {o : Opd} : kAs1 Γ as o e = (evAs Γ as e).bind (kAs2 o) := id rfl
@[simp] theorem evAs_cons {a : A} {as : List A} : evAs Γ (a :: as) e = (evA Γ a e).bind (kAs1 Γ as) := by rw [evAs] <;> rfl
@[simp] theorem evEs_nil : evEs Γ [] e = .ok [] e := by rw [evEs]
def slOf : RV → Slot
  | .s x => x
  | .t xs => .val (.tuple (xs.map Slot.toW))
@[simp] theorem slOf_s {x : Slot} : slOf (.s x) = x := id rfl
@[simp] theorem slOf_t {xs : List Slot} : slOf (.t xs) = .val (.tuple (xs.map Slot.toW)) := id rfl
noncomputable def kEs2 (o : RV) (os : List Slot) (e : SEnv) : Res (List Slot) := .ok (slOf o :: os) e
noncomputable def kEs1 (Γ : Gam) (as : List E) (o : RV) (e : SEnv) : Res (List Slot) := (evEs Γ as e).bind (kEs2 o)
@[simp] theorem k_es2 {o : RV} {os : List Slot} : kEs2 o os e = .ok (slOf o :: os) e := id rfl
@[simp] theorem k_es1 {as : List E} {o : RV} : kEs1 Γ as o e = (evEs Γ as e).bind (kEs2 o) := id rfl
@[simp] theorem evEs_cons {a : E} {as : List E} : evEs Γ (a :: as) e = (evE Γ a e).bind (kEs1 Γ as) := by
  rw [evEs]
  congr 1
@[simp] theorem evO_none : evO Γ none e = .ok none e := by rw [evO]
noncomputable def kO (r : RV) (e : SEnv) : Res (Option Int) := match r.toW with
    | .int i => .ok (some i) e
    | _ => .bad
@[simp] theorem k_o {i : Int} : kO (.s (.val (.int i))) e = .ok (some i) e := id rfl
@[simp] theorem evO_some {a : E} : evO Γ (some a) e = (evE Γ a e).bind kO := by rw [evO] <;> rfl
@[simp] theorem evIfs_nil : evIfs Γ [] e = .ok true e := by rw [evIfs]
noncomputable def kB (r : RV) (e : SEnv) : Res Bool := match r.toW with
    | .bool b => .ok b e
    | _ => .bad
@[simp] theorem k_b {b : Bool} : kB (.s (.val (.bool b))) e = .ok b e := id rfl
@[simp] theorem evIfs_one {a : E} : evIfs Γ [a] e = (evE Γ a e).bind kB := by rw [evIfs] <;> rfl
noncomputable def kSeq (o : Opd) (e : SEnv) : Res (List Opd × List W × List W) := match o.get e with
    | some x => match seqOf x with
      | some xs => .ok ([o], [x], xs) e
      | none => .bad
    | none => .bad
@[simp] theorem k_seq {o : Opd} : kSeq o e = match o.get e with
    | some x => match seqOf x with
      | some xs => .ok ([o], [x], xs) e
      | none => .bad
    | none => .bad := by unfold kSeq; rfl
@[simp] theorem evIt_seq {a : A} : evIt Γ (.seq a) e = (evA Γ a e).bind kSeq := by rw [evIt] <;> rfl
noncomputable def kRng (xs : List Slot) (e : SEnv) : Res (List Opd × List W × List W) := match rngOf (xs.map Slot.toW) with
    | some ys => .ok ([], [], ys) e
    | none => .bad
@[simp] theorem k_rng {xs : List Slot} : kRng xs e = match rngOf (xs.map Slot.toW) with
    | some ys => .ok ([], [], ys) e
    | none => .bad := by unfold kRng; rfl
@[simp] theorem evIt_rng {es : List E} : evIt Γ (.rng es) e = (evEs Γ es e).bind kRng := by rw [evIt] <;> rfl
noncomputable def kEnum (o : Opd) (e : SEnv) : Res (List Opd × List W × List W) := match o.get e with
    | some x => match seqOf x with
      | some xs => .ok ([o], [x], enumW xs) e
      | none => .bad
    | none => .bad
@[simp] theorem k_enum {o : Opd} : kEnum o e = match o.get e with
    | some x => match seqOf x with
      | some xs => .ok ([o], [x], enumW xs) e
      | none => .bad
    | none => .bad := by unfold kEnum; rfl
@[simp] theorem evIt_enum {a : A} : evIt Γ (.enum a) e = (evA Γ a e).bind kEnum := by rw [evIt] <;> rfl
noncomputable def kZip2 (o o2 : Opd) (e : SEnv) : Res (List Opd × List W × List W) := match o.get e, o2.get e with
    | some (.list xs), some (.list ys) => .ok ([o, o2], [.list xs, .list ys], zipW xs ys) e
    | some (.tuple xs), some (.tuple ys) => .ok ([o, o2], [.tuple xs, .tuple ys], zipW xs ys) e
    | some (.list xs), some (.tuple ys) => .ok ([o, o2], [.list xs, .tuple ys], zipW xs ys) e
    | some (.tuple xs), some (.list ys) => .ok ([o, o2], [.tuple xs, .list ys], zipW xs ys) e
    | _, _ => .bad
noncomputable def kZip1 (Γ : Gam) (b : A) (o : Opd) (e : SEnv) : Res (List Opd × List W × List W) := (evA Γ b e).bind (kZip2 o)
@[simp] theorem k_zip1 {b : A} {o : Opd} : kZip1 Γ b o e = (evA Γ b e).bind (kZip2 o) := id rfl
@[simp] theorem k_zip2 {o o2 : Opd} : kZip2 o o2 e = match o.get e, o2.get e with
    | some (.list xs), some (.list ys) => .ok ([o, o2], [.list xs, .list ys], zipW xs ys) e
    | some (.tuple xs), some (.tuple ys) => .ok ([o, o2], [.tuple xs, .tuple ys], zipW xs ys) e
    | some (.list xs), some (.tuple ys) => .ok ([o, o2], [.list xs, .tuple ys], zipW xs ys) e
    | some (.tuple xs), some (.list ys) => .ok ([o, o2], [.tuple xs, .list ys], zipW xs ys) e
    | _, _ => .bad := by unfold kZip2; rfl
@[simp] theorem evIt_zip {a b : A} : evIt Γ (.zip a b) e = (evA Γ a e).bind (kZip1 Γ b) := by rw [evIt] <;> rfl
@[simp] theorem getAll_nil : getAll e [] = some [] := id rfl
@[simp] theorem getAll_cons {o : Opd} {os : List Opd} : getAll e (o :: os) = match o.get e, getAll e os with
    | some x, some xs => some (x :: xs)
    | _, _ => none := by
  rw [getAll] <;> rfl
@[simp] theorem slotsOf_nil : slotsOf e [] = some [] := id rfl
@[simp] theorem slotsOf_w {x : W} {os : List Opd} : slotsOf e (.w x :: os) = (slotsOf e os).map (.val x :: ·) := id rfl
@[simp] theorem slotsOf_r {i : Nat} {os : List Opd} : slotsOf e (.r i :: os) = match e[i]? with
    | some (some (.own _ xs)) => (slotsOf e os).map (.own true xs :: ·)
    | _ => none := by
  rw [slotsOf] <;> rfl
@[simp] theorem refsNd_nil : refsNd [] = true := id rfl
@[simp] theorem refsNd_w {x : W} {os : List Opd} : refsNd (.w x :: os) = refsNd os := id rfl
@[simp] theorem refsNd_r {i : Nat} {os : List Opd} : refsNd (.r i :: os) = (!hasRef i os && refsNd os) := id rfl
@[simp] theorem hasRef_nil {i : Nat} : hasRef i [] = false := id rfl
@[simp] theorem hasRef_w {i : Nat} {x : W} {os : List Opd} : hasRef i (.w x :: os) = hasRef i os := id rfl
@[simp] theorem hasRef_r {i j : Nat} {os : List Opd} : hasRef i (.r j :: os) = ((i == j) || hasRef i os) := id rfl
@[simp] theorem putOuts_nil : putOuts e [] [] = some e := id rfl
@[simp] theorem putOuts_w {x : W} {os : List Opd} {outs : List (List W)} : putOuts e (.w x :: os) outs = putOuts e os outs := by cases outs <;> rfl
@[simp] theorem putOuts_r {i : Nat} {os : List Opd} {xs : List W} {outs : List (List W)} : putOuts e (.r i :: os) (xs :: outs) = match e[i]? with
    | some (some (.own io _)) => putOuts (e.set i (some (.own io xs))) os outs
    | _ => none := by
  rw [putOuts] <;> rfl
@[simp] theorem outsOf_nil : outsOf [] e = some [] := id rfl
@[simp] theorem outsOf_val {w : W} {ss : List Slot} {x : Option Slot} : outsOf (.val w :: ss) (x :: e) = outsOf ss e := id rfl
@[simp] theorem outsOf_own {io : Bool} {xs ys : List W} {ss : List Slot} : outsOf (.own io xs :: ss) (some (.own true ys) :: e) = (outsOf ss e).map (ys :: ·) := id rfl
theorem isOwn_of {i : Nat} {io : Bool} {xs : List W} (h : e[i]? = some (some (.own io xs))) : isOwn e i = true := by
  unfold isOwn
  rw [h]
@[simp] theorem isOwn_eq {i : Nat} : isOwn e i = match e[i]? with | some (some (.own _ _)) => true | _ => false := by unfold isOwn; rfl
@[simp] theorem evSs_nil : evSs Γ wf [] e = .ok .nx e := by rw [evSs]
noncomputable def kSs (Γ : Gam) (wf : Nat) (xs : List S) (f : Fl) (e : SEnv) : Res Fl := match f with
    | .nx => evSs Γ wf xs e
    | .rt r => .ok (.rt r) e
@[simp] theorem k_ssN {xs : List S} : kSs Γ wf xs .nx e = evSs Γ wf xs e := id rfl
@[simp] theorem k_ssR {xs : List S} {r : RV} : kSs Γ wf xs (.rt r) e = .ok (.rt r) e := id rfl
@[simp] theorem evSs_cons {x : S} {xs : List S} : evSs Γ wf (x :: xs) e = (evS Γ wf x e).bind (kSs Γ wf xs) := by rw [evSs] <;> rfl
@[simp] theorem evT_eq {t : E} : evT Γ t e = (evE Γ t e).bind kB := id rfl
noncomputable def kSet (i : Nat) (r : RV) (e : SEnv) : Res Fl := if i < e.length then .ok .nx (e.set i (some (.val r.toW))) else .bad
@[simp] theorem k_set {i : Nat} {r : RV} : kSet i r e = if i < e.length then .ok .nx (e.set i (some (.val r.toW))) else .bad := id rfl
@[simp] theorem evS_set {i : Nat} {x : E} : evS Γ wf (.set i false x) e = (evE Γ x e).bind (kSet i) := by rw [evS] <;> rfl
noncomputable def kSetM (i : Nat) (r : RV) (e : SEnv) : Res Fl := match r with
    | .s (.own false xs) => if i < e.length then .ok .nx (e.set i (some (.own false xs))) else .bad
    | _ => .bad
@[simp] theorem k_setM {i : Nat} {xs : List W} : kSetM i (.s (.own false xs)) e = if i < e.length then .ok .nx (e.set i (some (.own false xs))) else .bad := id rfl
@[simp] theorem evS_setM {i : Nat} {x : E} : evS Γ wf (.set i true x) e = (evE Γ x e).bind (kSetM i) := by
  rw [evS]
  congr 1
  funext r e
  cases r with
  | s x =>
    cases x with
    | val w => rfl
    | own io xs => cases io <;> rfl
  | t xs => rfl
noncomputable def kNx (u : Unit) (e : SEnv) : Res Fl := .ok .nx e
@[simp] theorem k_nx {u : Unit} : kNx u e = .ok .nx e := id rfl
noncomputable def kUnp (Γ : Gam) (ts : List (T1 × Bool)) (r : RV) (e : SEnv) : Res Fl := match slotsRV r with
    | some xs => if xs.length = ts.length then (setT1 Γ ts xs e).bind kNx else .bad
    | none => .bad
@[simp] theorem k_unp {ts : List (T1 × Bool)} {r : RV} : kUnp Γ ts r e = match slotsRV r with
    | some xs => if xs.length = ts.length then (setT1 Γ ts xs e).bind kNx else .bad
    | none => .bad := by unfold kUnp; rfl
@[simp] theorem evS_unp {ts : List (T1 × Bool)} {x : E} : evS Γ wf (.unp ts x) e = (evE Γ x e).bind (kUnp Γ ts) := by rw [evS] <;> rfl
noncomputable def kPar (is : List (Nat × Bool)) (xs : List Slot) (e : SEnv) : Res Fl := match parSet is xs e with
    | some e => .ok .nx e
    | none => .bad
@[simp] theorem k_par {is : List (Nat × Bool)} {xs : List Slot} : kPar is xs e = match parSet is xs e with
    | some e => .ok .nx e
    | none => .bad := by unfold kPar; rfl
@[simp] theorem evS_par {is : List (Nat × Bool)} {es : List E} : evS Γ wf (.par is es) e = (evEs Γ es e).bind (kPar is) := by rw [evS] <;> rfl
noncomputable def kAug (i : Nat) (op : Operator) (w : W) (r : RV) (e : SEnv) : Res Fl := match op, w, r.toW with
      | .Add, .int a, .int b => .ok .nx (e.set i (some (.val (.int (a + b)))))
      | .Sub, .int a, .int b => .ok .nx (e.set i (some (.val (.int (a - b)))))
      | _, _, _ => .bad
@[simp] theorem k_augA {i : Nat} {a b : Int} : kAug i .Add (.int a) (.s (.val (.int b))) e = .ok .nx (e.set i (some (.val (.int (a + b))))) := id rfl
@[simp] theorem k_augS {i : Nat} {a b : Int} : kAug i .Sub (.int a) (.s (.val (.int b))) e = .ok .nx (e.set i (some (.val (.int (a - b))))) := id rfl
@[simp] theorem evS_aug {i : Nat} {op : Operator} {x : E} : evS Γ wf (.aug i op x) e = match e[i]? with
    | some (some (.val w)) => (evE Γ x e).bind (kAug i op w)
    | _ => .bad := by
  rw [evS] <;> rfl
noncomputable def kSub (i : Nat) (r : RV) (k : RV) (e : SEnv) : Res Fl := match k.toW, e[i]? with
    | .int k, some (some (.own io ys)) => match ixN ys.length k with
      | some n => .ok .nx (e.set i (some (.own io (ys.set n r.toW))))
      | none => .bad
    | _, _ => .bad
@[simp] theorem k_sub {i : Nat} {r k : RV} : kSub i r k e = match k.toW, e[i]? with
    | .int k, some (some (.own io ys)) => match ixN ys.length k with
      | some n => .ok .nx (e.set i (some (.own io (ys.set n r.toW))))
      | none => .bad
    | _, _ => .bad := by unfold kSub; rfl
noncomputable def kSidx (Γ : Gam) (i : Nat) (j : E) (r : RV) (e : SEnv) : Res Fl := if !isOwn e i then .bad else (evE Γ j e).bind (kSub i r)
@[simp] theorem k_sidx {i : Nat} {j : E} {r : RV} : kSidx Γ i j r e = if !isOwn e i then .bad else (evE Γ j e).bind (kSub i r) := id rfl
@[simp] theorem evS_sidx {i : Nat} {j x : E} : evS Γ wf (.sidx i j x) e = (evE Γ x e).bind (kSidx Γ i j) := by rw [evS] <;> rfl
noncomputable def kEx (r : RV) (e : SEnv) : Res Fl := .ok .nx e
@[simp] theorem k_ex {r : RV} : kEx r e = .ok .nx e := id rfl
@[simp] theorem evS_ex {x : E} : evS Γ wf (.ex x) e = (evE Γ x e).bind kEx := by rw [evS] <;> rfl
@[simp] theorem evS_ret0 : evS Γ wf (.ret none) e = .ok (.rt (.s (.val .none))) e := by rw [evS]
noncomputable def kRet (r : RV) (e : SEnv) : Res Fl := .ok (.rt r) e
@[simp] theorem k_ret {r : RV} : kRet r e = .ok (.rt r) e := id rfl
@[simp] theorem evS_ret {x : E} : evS Γ wf (.ret (some x)) e = (evE Γ x e).bind kRet := by rw [evS] <;> rfl
noncomputable def kIte (Γ : Gam) (wf : Nat) (a b : List S) (r : RV) (e : SEnv) : Res Fl := condB r.toW (evSs Γ wf a e) (evSs Γ wf b e)
@[simp] theorem k_iteT {a b : List S} : kIte Γ wf a b (.s (.val (.bool true))) e = evSs Γ wf a e := id rfl
@[simp] theorem k_iteF {a b : List S} : kIte Γ wf a b (.s (.val (.bool false))) e = evSs Γ wf b e := id rfl
@[simp] theorem evS_ite {t : E} {a b : List S} : evS Γ wf (.ite t a b) e = (evE Γ t e).bind (kIte Γ wf a b) := by
  rw [evS]
  unfold evT
  cases evE Γ t e with
  | ok r e1 =>
    show (Res.bind (match r.toW with | .bool b => .ok b e1 | _ => .bad) fun c e => if c then evSs Γ wf a e else evSs Γ wf b e) = _
    rw [bind_okE]
    unfold kIte
    cases r.toW with
    | bool b => cases b <;> rfl
    | _ => rfl
  | exc c e1 => rfl
  | bad => rfl
noncomputable def kFr (Γ : Gam) (wf : Nat) (tg : Tg) (body : List S) (p : List Opd × List W × List W) (e : SEnv) : Res Fl := frLoop (fun e => evSs Γ wf body e) tg (watchOf p.1 p.2.1) p.2.2 e
@[simp] theorem k_fr {tg : Tg} {body : List S} {os : List Opd} {ws items : List W} : kFr Γ wf tg body (os, ws, items) e = frLoop (evSs Γ wf body) tg (watchOf os ws) items e := id rfl
@[simp] theorem evS_fr {tg : Tg} {it : It} {body : List S} : evS Γ wf (.fr tg it body) e = (evIt Γ it e).bind (kFr Γ wf tg body) := by rw [evS] <;> rfl
@[simp] theorem evS_wh {t : E} {body : List S} : evS Γ wf (.wh t body) e = whLoop (evT Γ t) (evSs Γ wf body) wf e := by rw [evS]
@[simp] theorem evS_rai {c : Str} : evS Γ wf (.rai c) e = .exc c e := by rw [evS]
@[simp] theorem evS_pas : evS Γ wf .pas e = .ok .nx e := by rw [evS]
@[simp] theorem setT1_nil : setT1 Γ [] [] e = .ok () e := by rw [setT1]
@[simp] theorem setT1_nm {i : Nat} {m : Bool} {ts : List (T1 × Bool)} {x : Slot} {xs : List Slot} : setT1 Γ ((.nm i, m) :: ts) (x :: xs) e = match setSlot m i x e with
    | some e => setT1 Γ ts xs e
    | none => .bad := by
  rw [setT1] <;> rfl
noncomputable def kT1 (Γ : Gam) (i : Nat) (ts : List (T1 × Bool)) (x : Slot) (xs : List Slot) (r : RV) (e : SEnv) : Res Unit := match r.toW, e[i]? with
    | .int k, some (some (.own io ys)) => match ixN ys.length k with
      | some n => setT1 Γ ts xs (e.set i (some (.own io (ys.set n x.toW))))
      | none => .bad
    | _, _ => .bad
@[simp] theorem k_t1 {i : Nat} {ts : List (T1 × Bool)} {x : Slot} {xs : List Slot} {r : RV} : kT1 Γ i ts x xs r e = match r.toW, e[i]? with
    | .int k, some (some (.own io ys)) => match ixN ys.length k with
      | some n => setT1 Γ ts xs (e.set i (some (.own io (ys.set n x.toW))))
      | none => .bad
    | _, _ => .bad := by unfold kT1; rfl
@[simp] theorem setT1_sub {i : Nat} {j : E} {m : Bool} {ts : List (T1 × Bool)} {x : Slot} {xs : List Slot} : setT1 Γ ((.sub i j, m) :: ts) (x :: xs) e = if !isOwn e i then .bad else (evE Γ j e).bind (kT1 Γ i ts x xs) := by
  rw [setT1] <;> rfl
@[simp] theorem setSlot_f {i : Nat} {x : Slot} : setSlot false i x e = if i < e.length then some (e.set i (some (.val x.toW))) else none := id rfl
@[simp] theorem setSlot_t {i : Nat} {xs : List W} : setSlot true i (.own false xs) e = if i < e.length then some (e.set i (some (.own false xs))) else none := id rfl
@[simp] theorem parSet_nil : parSet [] [] e = some e := id rfl
@[simp] theorem parSet_cons {i : Nat} {m : Bool} {is : List (Nat × Bool)} {x : Slot} {xs : List Slot} : parSet ((i, m) :: is) (x :: xs) e = match setSlot m i x e with
    | some e => parSet is xs e
    | none => none := by
  rw [parSet] <;> rfl
@[simp] theorem slotsRV_t {xs : List Slot} : slotsRV (.t xs) = some xs := id rfl
@[simp] theorem slotsRV_s {ws : List W} : slotsRV (.s (.val (.tuple ws))) = some (ws.map Slot.val) := id rfl
@[simp] theorem seqOf_list {xs : List W} : seqOf (.list xs) = some xs := id rfl
@[simp] theorem seqOf_tuple {xs : List W} : seqOf (.tuple xs) = some xs := id rfl
@[simp] theorem idx_list {xs : List W} {i : Int} : idxop (.list xs) (.int i) = atI xs i := id rfl
@[simp] theorem idx_tuple {xs : List W} {i : Int} : idxop (.tuple xs) (.int i) = atI xs i := id rfl
@[simp] theorem cmp_lt {i j : Int} : cmpop .Lt (.int i) (.int j) = some (decide (i < j)) := id rfl
@[simp] theorem cmp_le {i j : Int} : cmpop .LtE (.int i) (.int j) = some (decide (i ≤ j)) := id rfl
@[simp] theorem cmp_gt {i j : Int} : cmpop .Gt (.int i) (.int j) = some (decide (j < i)) := id rfl
@[simp] theorem cmp_ge {i j : Int} : cmpop .GtE (.int i) (.int j) = some (decide (j ≤ i)) := id rfl
@[simp] theorem cmp_eqI {i j : Int} : cmpop .Eq (.int i) (.int j) = some (decide (i = j)) := by
  unfold cmpop
  have h : eqOk (.int i) (.int j) = true := rfl
  simp only [h, if_true, PyData.eqv]
  by_cases h : i = j <;> simp [h]
@[simp] theorem cmp_neI {i j : Int} : cmpop .NotEq (.int i) (.int j) = some (!decide (i = j)) := by
  unfold cmpop
  have h : eqOk (.int i) (.int j) = true := rfl
  simp only [h, if_true, PyData.eqv]
  by_cases h : i = j <;> simp [h]
@[simp] theorem cmp_eqS {i j : Str} : cmpop .Eq (.str i) (.str j) = some (decide (i = j)) := by
  unfold cmpop
  have h : eqOk (.str i) (.str j) = true := rfl
  simp only [h, if_true, PyData.eqv]
  by_cases h : i = j <;> simp [h]
@[simp] theorem cmp_neS {i j : Str} : cmpop .NotEq (.str i) (.str j) = some (!decide (i = j)) := by
  unfold cmpop
  have h : eqOk (.str i) (.str j) = true := rfl
  simp only [h, if_true, PyData.eqv]
  by_cases h : i = j <;> simp [h]
def isNoneW : W → Bool
  | .none => true
  | _ => false
@[simp] theorem isN_none : isNoneW .none = true := id rfl
@[simp] theorem isN_bool {b : Bool} : isNoneW (.bool b) = false := id rfl
@[simp] theorem isN_int {b : Int} : isNoneW (.int b) = false := id rfl
@[simp] theorem isN_str {b : Str} : isNoneW (.str b) = false := id rfl
@[simp] theorem isN_list {b : List W} : isNoneW (.list b) = false := id rfl
@[simp] theorem isN_tuple {b : List W} : isNoneW (.tuple b) = false := id rfl
@[simp] theorem cmp_isN {x : W} : cmpop .Is x .none = some (isNoneW x) := by cases x <;> rfl
@[simp] theorem cmp_isnN {x : W} : cmpop .IsNot x .none = some (!isNoneW x) := by cases x <;> rfl
@[simp] theorem cmp_isB {a b : Bool} : cmpop .Is (.bool a) (.bool b) = some (decide (a = b)) := id rfl
@[simp] theorem cmp_isnB {a b : Bool} : cmpop .IsNot (.bool a) (.bool b) = some (!decide (a = b)) := id rfl
end
@[simp] theorem isi_int_none : isiop .none "int" = some false := id rfl
@[simp] theorem isi_int_bool {b : Bool} : isiop (.bool b) "int" = some true := id rfl
@[simp] theorem isi_int_int {i : Int} : isiop (.int i) "int" = some true := id rfl
@[simp] theorem isi_int_str {s : Str} : isiop (.str s) "int" = some false := id rfl
@[simp] theorem isi_int_list {xs : List W} : isiop (.list xs) "int" = some false := id rfl
@[simp] theorem isi_int_tuple {xs : List W} : isiop (.tuple xs) "int" = some false := id rfl
@[simp] theorem isi_bool_none : isiop .none "bool" = some false := id rfl
@[simp] theorem isi_bool_bool {b : Bool} : isiop (.bool b) "bool" = some true := id rfl
@[simp] theorem isi_bool_int {i : Int} : isiop (.int i) "bool" = some false := id rfl
@[simp] theorem isi_bool_str {s : Str} : isiop (.str s) "bool" = some false := id rfl
@[simp] theorem isi_bool_list {xs : List W} : isiop (.list xs) "bool" = some false := id rfl
@[simp] theorem isi_bool_tuple {xs : List W} : isiop (.tuple xs) "bool" = some false := id rfl
@[simp] theorem isi_str_none : isiop .none "str" = some false := id rfl
@[simp] theorem isi_str_bool {b : Bool} : isiop (.bool b) "str" = some false := id rfl
@[simp] theorem isi_str_int {i : Int} : isiop (.int i) "str" = some false := id rfl
@[simp] theorem isi_str_str {s : Str} : isiop (.str s) "str" = some true := id rfl
@[simp] theorem isi_str_list {xs : List W} : isiop (.list xs) "str" = some false := id rfl
@[simp] theorem isi_str_tuple {xs : List W} : isiop (.tuple xs) "str" = some false := id rfl
@[simp] theorem isi_tuple_none : isiop .none "tuple" = some false := id rfl
@[simp] theorem isi_tuple_bool {b : Bool} : isiop (.bool b) "tuple" = some false := id rfl
@[simp] theorem isi_tuple_int {i : Int} : isiop (.int i) "tuple" = some false := id rfl
@[simp] theorem isi_tuple_str {s : Str} : isiop (.str s) "tuple" = some false := id rfl
@[simp] theorem isi_tuple_list {xs : List W} : isiop (.list xs) "tuple" = some false := id rfl
@[simp] theorem isi_tuple_tuple {xs : List W} : isiop (.tuple xs) "tuple" = some true := id rfl
@[simp] theorem isi_list_none : isiop .none "list" = some false := id rfl
@[simp] theorem isi_list_bool {b : Bool} : isiop (.bool b) "list" = some false := id rfl
@[simp] theorem isi_list_int {i : Int} : isiop (.int i) "list" = some false := id rfl
@[simp] theorem isi_list_str {s : Str} : isiop (.str s) "list" = some false := id rfl
@[simp] theorem isi_list_list {xs : List W} : isiop (.list xs) "list" = some true := id rfl
@[simp] theorem isi_list_tuple {xs : List W} : isiop (.tuple xs) "list" = some false := id rfl
@[simp] theorem bltop_len {x : W} : bltop "len" [x] = (seqOf x).map fun xs => .s (.val (.int xs.length)) := by unfold bltop; simp
@[simp] theorem bltop_tuple {x : W} : bltop "tuple" [x] = (seqOf x).map fun xs => .s (.val (.tuple xs)) := by unfold bltop; simp
@[simp] theorem bltop_list {x : W} : bltop "list" [x] = (seqOf x).map fun xs => .s (.own false xs) := by unfold bltop; simp
@[simp] theorem bltop_min {i j : Int} : bltop "min" [.int i, .int j] = some (.s (.val (.int (if j < i then j else i)))) := by unfold bltop; simp
@[simp] theorem bltop_max {i j : Int} : bltop "max" [.int i, .int j] = some (.s (.val (.int (if j > i then j else i)))) := by unfold bltop; simp
@[simp] theorem bltop_sum {xs : List W} : bltop "sum" [.list xs] = (allI xs).map fun ns => .s (.val (.int ns.sum)) := by unfold bltop; simp
@[simp] theorem bltop_sumT {xs : List W} : bltop "sum" [.tuple xs] = (allI xs).map fun ns => .s (.val (.int ns.sum)) := by unfold bltop; simp
@[simp] theorem bltop_any {xs : List W} : bltop "any" [.list xs] = (allB xs).map fun bs => .s (.val (.bool (bs.any id))) := by unfold bltop; simp
@[simp] theorem bltop_all {xs : List W} : bltop "all" [.list xs] = (allB xs).map fun bs => .s (.val (.bool (bs.all id))) := by unfold bltop; simp
@[simp] theorem binop_add {i j : Int} : binop .Add (.int i) (.int j) = some (.s (.val (.int (i + j)))) := id rfl
@[simp] theorem binop_sub {i j : Int} : binop .Sub (.int i) (.int j) = some (.s (.val (.int (i - j)))) := id rfl
/-- a whole number within a machine word -/
theorem binop_mul {i j : Int} (h : mulOk i j = true) : binop .Mult (.int i) (.int j) = some (.s (.val (.int (i * j)))) := by
  show (if mulOk i j then _ else _) = _
  rw [h]; rfl
@[simp] theorem ixN_nat {n k : Nat} : ixN n (k : Int) = if k < n then some k else none := by
  unfold ixN
  rw [if_pos (Int.natCast_nonneg k)]
  by_cases h : k < n
  · rw [if_pos (by exact_mod_cast h), if_pos h]; simp
  · rw [if_neg (by exact_mod_cast h), if_neg h]
theorem ixN_of {n : Nat} {i : Int} (h : 0 ≤ i) : ixN n i = if i.toNat < n then some i.toNat else none := by
  have := ixN_nat (n := n) (k := i.toNat)
  rw [show ((i.toNat : Nat) : Int) = i by omega] at this
  exact this
theorem atI_of {α : Type} {xs : List α} {i : Int} (h : 0 ≤ i) : atI xs i = xs[i.toNat]? := by
  unfold atI
  rw [ixN_of h]
  by_cases hl : i.toNat < xs.length
  · rw [if_pos hl]; rfl
  · rw [if_neg hl, List.getElem?_eq_none (by omega)]; rfl
@[simp] theorem atI_0 {α : Type} {xs : List α} : atI xs 0 = xs[0]? := atI_of (Int.le_refl 0)
@[simp] theorem atI_1 {α : Type} {xs : List α} : atI xs 1 = xs[1]? := atI_of (by decide)
@[simp] theorem atI_2 {α : Type} {xs : List α} : atI xs 2 = xs[2]? := atI_of (by decide)
@[simp] theorem atI_3 {α : Type} {xs : List α} : atI xs 3 = xs[3]? := atI_of (by decide)
@[simp] theorem atI_4 {α : Type} {xs : List α} : atI xs 4 = xs[4]? := atI_of (by decide)
@[simp] theorem atI_nat {α : Type} {xs : List α} {k : Nat} : atI xs (k : Int) = xs[k]? := by
  rw [atI_of (Int.natCast_nonneg k)]; simp
/-- a call enters the def's body -/
theorem call_in {Δ : Str → Option Fn} {wf n : Nat} {f : Str} {fn : Fn} {ss : List Slot} (h : Δ f = some fn) : callN Δ wf (n + 1) f ss = runFn ⟨callN Δ wf n⟩ wf fn ss := by
  show (match Δ f with | some fn => runFn ⟨callN Δ wf n⟩ wf fn ss | none => .bad) = _
  rw [h]
def nd : W → Bool
  | .dict _ => false
  | _ => true
/-! ### comprehensions over a plain sequence -/
theorem lc_map {Γ : Gam} {elt : E} {i : Nat} {os : List Opd} {ws : List W} {ifs : List E} {g : W → Option W} : ∀ (items : List W) (e : SEnv) (acc : List W), i < e.length → getAll (e.set i none) os = some ws → (acc.length + items.length ≤ sizeLine) →
    (∀ x ∈ items, ((evIfs Γ ifs (e.set i (some (.val x)))).bind fun b e => if b then (evE Γ elt e).bind fun y e => .ok (some y.toW) e else .ok none e) = .ok (g x) (e.set i (some (.val x)))) →
    lcLoop (fun e => (evIfs Γ ifs e).bind fun b e => if b then (evE Γ elt e).bind fun y e => .ok (some y.toW) e else .ok none e) (.one i) [i] (watchOf os ws) items (e.set i none) acc = .ok (acc ++ items.filterMap g) (e.set i none)
  | [], e, acc, hi, hw, hl, h => by
    unfold lcLoop
    rw [if_pos (show watchOf os ws (e.set i none) from hw)]
    simp
  | x :: items, e, acc, hi, hw, hl, h => by
    unfold lcLoop
    rw [if_pos (show watchOf os ws (e.set i none) from hw)]
    have s1 : setTg (.one i) x (e.set i none) = some (e.set i (some (.val x))) := by
      show (if i < (e.set i none).length then some ((e.set i none).set i (some (.val x))) else none) = _
      rw [if_pos (by simpa using hi), List.set_set]
    rw [s1]
    simp only
    rw [h x List.mem_cons_self]
    have w1 : wipeE (e.set i (some (.val x))) [i] = e.set i none := by
      show (wipeE (e.set i (some (.val x))) []).set i none = _
      unfold wipeE
      rw [List.set_set]
    simp only [bind_okE]
    cases hg : g x with
    | none =>
      simp only []
      rw [w1, lc_map items e acc hi hw (by simp at hl; omega) fun y hy => h y (List.mem_cons_of_mem _ hy)]
      rw [List.filterMap_cons_none hg]
    | some y =>
      simp only []
      rw [if_pos (by simp at hl ⊢; omega), w1, lc_map items e (acc ++ [y]) hi hw (by simp at hl ⊢; omega) fun y hy => h y (List.mem_cons_of_mem _ hy)]
      rw [List.filterMap_cons_some hg, List.append_assoc]
      rfl
/-- the slot of a comprehension's name is free, or holds a value -/
def freeAt (e : SEnv) (i : Nat) : Prop := e[i]? = some none ∨ ∃ w, e[i]? = some (some (.val w))
theorem back_free {e : SEnv} {i : Nat} (h : freeAt e i) : backE e (e.set i none) [i] = e := by
  show (backE e (e.set i none) []).set i _ = e
  unfold backE
  rcases h with h | ⟨w, h⟩
  · rw [h]
    simp only [List.set_set]
    obtain ⟨hi, he⟩ := List.getElem?_eq_some_iff.mp h
    rw [← he, List.set_getElem_self]
  · rw [h]
    simp only [List.set_set]
    obtain ⟨hi, he⟩ := List.getElem?_eq_some_iff.mp h
    rw [← he, List.set_getElem_self]
theorem lc_seq {Γ : Gam} {elt : E} {i : Nat} {it : It} {os : List Opd} {ws items : List W} {ifs : List E} {g : W → Option W} {e : SEnv} (hit : evIt Γ it e = .ok (os, ws, items) e) (hf : freeAt e i) (hw : getAll (e.set i none) os = some ws) (hl : items.length ≤ sizeLine)
    (h : ∀ x ∈ items, ((evIfs Γ ifs (e.set i (some (.val x)))).bind fun b e => if b then (evE Γ elt e).bind fun y e => .ok (some y.toW) e else .ok none e) = .ok (g x) (e.set i (some (.val x)))) :
    evE Γ (.lc elt (.one i) it ifs [i]) e = .ok (.s (.own false (items.filterMap g))) e := by
  have hi : i < e.length := by
    rcases hf with h | ⟨w, h⟩ <;> exact (List.getElem?_eq_some_iff.mp h).1
  unfold evE
  rw [hit]
  simp only [bind_okE]
  have := lc_map (Γ := Γ) (elt := elt) (ifs := ifs) (g := g) items e [] hi hw (by simpa using hl) h
  have w1 : wipeE e [i] = e.set i none := rfl
  rw [w1, this]
  simp only [List.nil_append]
  rw [back_free hf]
end D

namespace D
open PySem L2
/-- integers between bounds, by the program -/
def isIntB : W → Int → Int → Bool
  | .int i, lo, hi => decide (lo ≤ i) && decide (i ≤ hi)
  | _, _, _ => false
section
variable {lo hi : Int}
@[simp] theorem isIntB_int {i : Int} : isIntB (.int i) lo hi = (decide (lo ≤ i) && decide (i ≤ hi)) := rfl
@[simp] theorem isIntB_none : isIntB .none lo hi = false := rfl
@[simp] theorem isIntB_bool {b : Bool} : isIntB (.bool b) lo hi = false := rfl
@[simp] theorem isIntB_str {x : Str} : isIntB (.str x) lo hi = false := rfl
@[simp] theorem isIntB_list {x : List W} : isIntB (.list x) lo hi = false := rfl
@[simp] theorem isIntB_tuple {x : List W} : isIntB (.tuple x) lo hi = false := rfl
end
def isGoodB : W → Bool
  | .tuple [a, b] => isIntB a 1 9 && isIntB b 0 9
  | _ => false
def isMostB : W → Bool
  | .none => true
  | v => isIntB v 1 2
/-- what is_integer gives -/
def rInt (v : W) (lo hi : Int) : CRes := if nd v then .ok (.s (.val (.bool (isIntB v lo hi)))) [] else .bad
section
variable {Δ : Str → Option Fn} {wf n : Nat}
theorem c_is_integer {v : W} {lo hi : Int} (h : Δ "is_integer" = some F_is_integer) :
    callN Δ wf (n + 1) "is_integer" [.val v, .val (.int lo), .val (.int hi)] = rInt v lo hi := by
  rw [call_in h]
  cases v <;> simp [runFn, F_is_integer, rInt, nd]
  · rename_i i
    by_cases h1 : lo ≤ i <;> simp [h1]
  · simp [isiop]
theorem c_is_most {v : W} (h : Δ "is_integer" = some F_is_integer) (h2 : Δ "is_most" = some F_is_most) (hv : nd v = true) :
    callN Δ wf (n + 2) "is_most" [.val v] = .ok (.s (.val (.bool (isMostB v)))) [] := by
  rw [call_in h2]
  cases v <;> simp [runFn, F_is_most, isMostB, nd, callR, c_is_integer h, rInt] at hv ⊢
def ndA (xs : List W) : Bool := xs.all nd
theorem c_is_good {v : W} (h : Δ "is_integer" = some F_is_integer) (h2 : Δ "is_good" = some F_is_good) (hv : nd v = true) (hs : ∀ xs, v = .tuple xs → ndA xs = true) :
    callN Δ wf (n + 2) "is_good" [.val v] = .ok (.s (.val (.bool (isGoodB v)))) [] := by
  rw [call_in h2]
  cases v with
  | tuple xs =>
    have hx := hs xs rfl
    match xs, hx with
    | [], _ => simp [runFn, F_is_good, isGoodB]
    | [a], _ => simp [runFn, F_is_good, isGoodB]
    | [a, b], hx =>
      simp [ndA] at hx
      simp [runFn, F_is_good, isGoodB, callR, c_is_integer h, rInt, hx]
      cases isIntB a 1 9 <;> simp [callR, c_is_integer h, rInt, hx]
    | a :: b :: c :: r, _ =>
      have : ¬ ((r.length : Int) + 1 + 1 + 1 = 2) := by omega
      simp [runFn, F_is_good, isGoodB, this]
  | dict => cases hv
  | _ => simp [runFn, F_is_good, isGoodB]
end
end D

namespace D
open PySem L2
abbrev sPack : Str := "pack"
abbrev sFrom : Str := "from"
abbrev sOver : Str := "over"
abbrev sEach : Str := "each"
@[simp] theorem mulOk_2 {j : Int} : mulOk 2 j = true := by simp [mulOk]
@[simp] theorem w_pf : (("pack" : Str) = "from") = False := eq_false (by decide +kernel)
@[simp] theorem w_po : (("pack" : Str) = "over") = False := eq_false (by decide +kernel)
@[simp] theorem w_pe : (("pack" : Str) = "each") = False := eq_false (by decide +kernel)
@[simp] theorem w_fp : (("from" : Str) = "pack") = False := eq_false (by decide +kernel)
@[simp] theorem w_fo : (("from" : Str) = "over") = False := eq_false (by decide +kernel)
@[simp] theorem w_fe : (("from" : Str) = "each") = False := eq_false (by decide +kernel)
@[simp] theorem w_op : (("over" : Str) = "pack") = False := eq_false (by decide +kernel)
@[simp] theorem w_of : (("over" : Str) = "from") = False := eq_false (by decide +kernel)
@[simp] theorem w_oe : (("over" : Str) = "each") = False := eq_false (by decide +kernel)
@[simp] theorem w_ep : (("each" : Str) = "pack") = False := eq_false (by decide +kernel)
@[simp] theorem w_ef : (("each" : Str) = "from") = False := eq_false (by decide +kernel)
@[simp] theorem w_eo : (("each" : Str) = "over") = False := eq_false (by decide +kernel)
def intOf : W → Int
  | .int i => i
  | _ => 0
@[simp] theorem intOf_int {i : Int} : intOf (.int i) = i := rfl
theorem isIntB_cases {v : W} {lo hi : Int} (h : isIntB v lo hi = true) : ∃ i, v = .int i ∧ lo ≤ i ∧ i ≤ hi := by
  cases v with
  | int i => simp at h; exact ⟨_, rfl, h⟩
  | _ => exact absurd h (by simp [isIntB])
/-- min(6, x) as the program has it -/
def min6 (x : Int) : Int := if x < 6 then x else 6
def isRuleB (count : Int) : W → Bool
  | .tuple [.str k, a, b] => decide (k = "over") && isIntB a 2 12 && isIntB b 1 (min6 (intOf a))
  | .tuple [.str k, a, b, c] => (decide (k = "from") && isIntB a 0 (count - 1) && isIntB b 2 4 && isIntB c 1 9)
      || (decide (k = "each") && isIntB a 2 6 && isIntB b 1 (intOf a) && isMostB c && (!isNoneW c || decide (2 * intOf b ≤ intOf a)))
  | .tuple [.str k, a, b, c, d] => decide (k = "pack") && isIntB a 0 (count - 1) && isIntB b 2 3 && isIntB c (intOf b) 30 && isMostB d
  | _ => false
section
variable {Δ : Str → Option Fn} {wf n : Nat}
theorem rInt_nd {v : W} {lo hi : Int} (h : nd v = true) : rInt v lo hi = .ok (.s (.val (.bool (isIntB v lo hi)))) [] := by unfold rInt; rw [h]; rfl
theorem c_is_rule {v : W} {count : Int} (h : Δ "is_integer" = some F_is_integer) (h1 : Δ "is_most" = some F_is_most) (h2 : Δ "is_rule" = some F_is_rule) (hv : nd v = true) (hs : ∀ xs, v = .tuple xs → ndA xs = true) :
    callN Δ wf (n + 3) "is_rule" [.val (.int count), .val v] = .ok (.s (.val (.bool (isRuleB count v)))) [] := by
  rw [call_in h2]
  cases v with
  | tuple xs =>
    have hx := hs xs rfl
    match xs, hx with
    | [], _ => simp [runFn, F_is_rule, isRuleB]
    | [a], _ => simp [runFn, F_is_rule, isRuleB]
    | [a, b], _ => simp [runFn, F_is_rule, isRuleB]
    | [x, a, b], hx =>
      simp [ndA] at hx
      cases x with
      | str k =>
        by_cases k1 : k = "pack"
        · subst k1; simp [runFn, F_is_rule, isRuleB]
        · by_cases k2 : k = "from"
          · subst k2; simp [runFn, F_is_rule, isRuleB]
          · by_cases k3 : k = "over"
            · subst k3
              simp [runFn, F_is_rule, isRuleB, callR, c_is_integer h, rInt_nd hx.2.1]
              cases ha : isIntB a 2 12 with
              | false => simp
              | true =>
                obtain ⟨i, rfl, i1, i2⟩ := isIntB_cases ha
                simp [callR, c_is_integer h, rInt_nd hx.2.2, min6]
                rfl
            · simp [runFn, F_is_rule, isRuleB, k1, k2, k3]
              by_cases k4 : k = "each" <;> simp [k4]
      | dict => simp [nd] at hx
      | _ => simp [runFn, F_is_rule, isRuleB]
    | [x, a, b, c], hx =>
      simp [ndA] at hx
      cases x with
      | str k =>
        by_cases k1 : k = "pack"
        · subst k1; simp [runFn, F_is_rule, isRuleB]
        · by_cases k2 : k = "from"
          · subst k2
            simp [runFn, F_is_rule, isRuleB, callR, c_is_integer h, rInt_nd hx.2.1]
            cases ha : isIntB a 0 (count - 1) with
            | false => simp
            | true =>
              simp [callR, c_is_integer h, rInt_nd hx.2.2.1]
              cases hb : isIntB b 2 4 <;> simp [callR, c_is_integer h, rInt_nd hx.2.2.2]
          · by_cases k3 : k = "over"
            · subst k3
              simp [runFn, F_is_rule, isRuleB]
            · by_cases k4 : k = "each"
              · subst k4
                simp [runFn, F_is_rule, isRuleB, callR, c_is_integer h, rInt_nd hx.2.1]
                cases ha : isIntB a 2 6 with
                | false => simp
                | true =>
                  obtain ⟨i, rfl, i1, i2⟩ := isIntB_cases ha
                  simp [callR, c_is_integer h, rInt_nd hx.2.2.1]
                  cases hb : isIntB b 1 i with
                  | false => simp
                  | true =>
                    obtain ⟨j, rfl, j1, j2⟩ := isIntB_cases hb
                    simp [callR, c_is_most h h1 hx.2.2.2]
                    cases hc : isMostB c with
                    | false => simp
                    | true =>
                      simp
                      cases hd : isNoneW c <;> simp [binop_mul] <;> rfl
              · simp [runFn, F_is_rule, isRuleB, k1, k2, k3, k4]
      | dict => simp [nd] at hx
      | _ => simp [runFn, F_is_rule, isRuleB]
    | [x, a, b, c, d], hx =>
      simp [ndA] at hx
      cases x with
      | str k =>
        by_cases k1 : k = "pack"
        · subst k1
          simp [runFn, F_is_rule, isRuleB, callR, c_is_integer h, rInt_nd hx.2.1]
          cases ha : isIntB a 0 (count - 1) with
          | false => simp
          | true =>
            simp [callR, c_is_integer h, rInt_nd hx.2.2.1]
            cases hb : isIntB b 2 3 with
            | false => simp
            | true =>
              obtain ⟨j, rfl, j1, j2⟩ := isIntB_cases hb
              simp [callR, c_is_integer h, rInt_nd hx.2.2.2.1]
              cases hc : isIntB c j 30 <;> simp [callR, c_is_most h h1 hx.2.2.2.2]
        · by_cases k2 : k = "from"
          · subst k2; simp [runFn, F_is_rule, isRuleB]
          · by_cases k3 : k = "over"
            · subst k3; simp [runFn, F_is_rule, isRuleB]
            · simp [runFn, F_is_rule, isRuleB, k1, k2, k3]
              by_cases k4 : k = "each" <;> simp [k4]
      | dict => simp [nd] at hx
      | _ => simp [runFn, F_is_rule, isRuleB]
    | x :: a :: b :: c :: d :: f :: r, hx =>
      simp [ndA] at hx
      have l1 : ¬ ((r.length : Int) + 1 + 1 + 1 + 1 + 1 + 1 < 3) := by omega
      have l2 : ¬ ((r.length : Int) + 1 + 1 + 1 + 1 + 1 + 1 = 5) := by omega
      have l3 : ¬ ((r.length : Int) + 1 + 1 + 1 + 1 + 1 + 1 = 4) := by omega
      have l4 : ¬ ((r.length : Int) + 1 + 1 + 1 + 1 + 1 + 1 = 3) := by omega
      cases x with
      | str k =>
        by_cases k1 : k = "pack"
        · subst k1; simp [runFn, F_is_rule, isRuleB, l1, l2, l3, l4]
        · by_cases k2 : k = "from"
          · subst k2; simp [runFn, F_is_rule, isRuleB, l1, l2, l3, l4]
          · by_cases k3 : k = "over"
            · subst k3; simp [runFn, F_is_rule, isRuleB, l1, l2, l3, l4]
            · simp [runFn, F_is_rule, isRuleB, k1, k2, k3, l1, l2, l3, l4]
              by_cases k4 : k = "each" <;> simp [k4, l3]
      | dict => simp [nd] at hx
      | _ => simp [runFn, F_is_rule, isRuleB, l1]
  | dict => cases hv
  | _ => simp [runFn, F_is_rule, isRuleB]
end
end D

namespace D
open PySem L2
/-! ## what the laws draw -/
def divN : Nat → Int → Int
  | 0, x => x
  | n + 1, x => divN n (x / 1000003)
abbrev wInts (ns : List Int) : W := .list (ns.map .int)
def cellV (ns : List Int) (k : Nat) : Int :=
  if k < ns.length then (ns[k]?).getD 0 else if ns = [] then 0 else
    (ns[k % ns.length]?).getD 0 * 31 + k + divN (min (k / ns.length) 60) ((ns[k % ns.length]?).getD 0) * 101
def mixV (ns : List Int) (k : Nat) (many : Int) : Int := ((cellV ns k * 1103515245 + 7919 * k + 12345) % 2147483647) ^ 5 % 2147483647 % 999983 % many
theorem mixV_lt {ns : List Int} {k : Nat} {many : Int} (h : 0 < many) : 0 ≤ mixV ns k many ∧ mixV ns k many < many :=
  ⟨Int.emod_nonneg _ (by omega), Int.emod_lt_of_pos _ h⟩
theorem okDs_ints : ∀ (n : Nat) (ns : List Int), okDs n (ns.map .int) = true
  | n, [] => by cases n <;> rfl
  | n, i :: ns => by
    show (okD n (.int i) && okDs n (ns.map .int)) = true
    rw [okDs_ints n ns]
    cases n <;> rfl
theorem cmp_script {ns : List Int} : cmpop .Eq (wInts ns) (.list []) = some (decide (ns = [])) := by
  unfold cmpop
  have h : eqOk (wInts ns) (.list []) = true := by
    show (false || (shp (wInts ns) && shp (.list []))) = true
    have : shp (wInts ns) = true := okDs_ints 39 ns
    rw [this]; rfl
  simp only [h, if_true]
  cases ns with
  | nil => rfl
  | cons a r => simp [PyData.eqv, PyData.eqvAll]
theorem mod_ok {i j : Int} (h : 0 < j) : binop .Mod (.int i) (.int j) = some (.s (.val (.int (i % j)))) := by
  show (if decide (0 < j) = true then _ else _) = _
  rw [if_pos (by simpa using h)]
theorem div_ok {i j : Int} (h : 0 < j) (h2 : j < 1073741824) : binop .FloorDiv (.int i) (.int j) = some (.s (.val (.int (i / j)))) := by
  show (if (decide (0 < j) && decide (j < 1073741824)) = true then _ else _) = _
  rw [if_pos (by simp [h, h2])]
theorem mul_ok {i j : Int} (h : mulOk i j = true) : binop .Mult (.int i) (.int j) = some (.s (.val (.int (i * j)))) := binop_mul h
theorem mulOk_r {i j : Int} (h1 : -(2 ^ 64) < j) (h2 : j < 2 ^ 64) : mulOk i j = true := by
  unfold mulOk
  simp [h1, h2]
  right
  exact ⟨by omega, by omega⟩
theorem mulOk_l {i j : Int} (h1 : -(2 ^ 64) < i) (h2 : i < 2 ^ 64) : mulOk i j = true := by
  unfold mulOk
  simp [h1, h2]
  left
  exact ⟨by omega, by omega⟩
theorem pow_ok {i : Int} (h : 0 ≤ i) (h2 : i < 2 ^ 64) : binop .Pow (.int i) (.int 5) = some (.s (.val (.int (i ^ 5)))) := by
  show (if (decide (0 ≤ (5 : Int)) && decide ((5 : Int) ≤ 1000000) && decide (i.natAbs < 2 ^ 64)) = true then _ else _) = _
  rw [if_pos]
  · rfl
  · have : i.natAbs < 2 ^ 64 := by omega
    simp only [this]; rfl
theorem rng_ok {j : Int} (h1 : -(2 ^ 62) ≤ j) (h2 : j < 2 ^ 62) : rngOf [.int j] = some ((List.range j.toNat).map fun k => .int (k : Nat)) := by
  show (if (decide (-(2 ^ 62) ≤ j) && decide (j < 2 ^ 62)) = true then _ else _) = _
  rw [if_pos (by simp only [Bool.and_eq_true, decide_eq_true_eq]; exact ⟨h1, h2⟩)]
section
variable {Δ : Str → Option Fn} {wf n : Nat}
theorem cell_loop {Γ : Gam} {S K : Option Slot} {os : List Opd} {ws : List W} (hw : ∀ e, watchOf os ws e) : ∀ (items : List W) (s : Int) (a : Option Slot),
    ∃ a', frLoop (evSs Γ wf [.set 2 false (.bin .FloorDiv (.v (.var 2)) (.v (.con (.int 1000003))))]) (.one 3) (watchOf os ws) items [S, K, some (.val (.int s)), a] = .ok .nx [S, K, some (.val (.int (divN items.length s))), a']
  | [], s, a => ⟨a, by
    unfold frLoop
    rw [if_pos (hw _)]
    rfl⟩
  | x :: items, s, a => by
    obtain ⟨a', h⟩ := cell_loop hw items (s / 1000003) (some (.val x))
    refine ⟨a', ?_⟩
    unfold frLoop
    rw [if_pos (hw _)]
    have s1 : setTg (.one 3) x [S, K, some (.val (.int s)), a] = some [S, K, some (.val (.int s)), some (.val x)] := rfl
    rw [s1]
    simp only
    have s2 : evSs Γ wf [.set 2 false (.bin .FloorDiv (.v (.var 2)) (.v (.con (.int 1000003))))] [S, K, some (.val (.int s)), some (.val x)] = .ok .nx [S, K, some (.val (.int (s / 1000003))), some (.val x)] := by
      simp [div_ok]
    rw [s2]
    simp only [bind_okE]
    rw [h]
    rfl
theorem cell_3 {ns : List Int} {k q : Nat} {x : Int} {Γ : Gam} (h1' : ¬ ((k : Int) < (ns.length : Int))) (cm : cmpop .Eq (.list (ns.map .int)) (.list []) = some false) (b1 : binop .Mod (.int k) (.int ns.length) = some (.s (.val (.int ((k % ns.length : Nat) : Int)))))
    (b2 : binop .FloorDiv (.int k) (.int ns.length) = some (.s (.val (.int ((k / ns.length : Nat) : Int))))) (hx' : (ns.map PyData.int)[k % ns.length]? = some (.int x)) (m2 : bltop "min" [.int ((k / ns.length : Nat) : Int), .int 60] = some (.s (.val (.int (q : Int)))))
    (r1 : rngOf [.int (q : Int)] = some ((List.range q).map fun k => .int (k : Nat))) (b3 : binop .Mult (.int x) (.int 31) = some (.s (.val (.int (x * 31))))) (b4 : binop .Mult (.int (divN q x)) (.int 101) = some (.s (.val (.int (divN q x * 101)))))
    {a' : Option Slot} (hl : frLoop (evSs Γ wf [.set 2 false (.bin .FloorDiv (.v (.var 2)) (.v (.con (.int 1000003))))]) (.one 3) (watchOf [] []) ((List.range q).map fun k => .int (k : Nat)) [some (.val (.list (ns.map .int))), some (.val (.int k)), some (.val (.int x)), none] = .ok .nx [some (.val (.list (ns.map .int))), some (.val (.int k)), some (.val (.int (divN q x))), a']) :
    runFn Γ wf F__law_cell_at [.val (.list (ns.map .int)), .val (.int k)] = .ok (.s (.val (.int (x * 31 + k + divN q x * 101)))) [] := by
  simp [runFn, F__law_cell_at, -bltop_min, h1', fits, cm, b1, b2, hx', m2, r1, hl, b3, b4, -Int.natCast_ediv, -Int.natCast_emod, -List.getElem?_map]
theorem c_cell {ns : List Int} {k : Nat} (h : Δ "_law_cell_at" = some F__law_cell_at) (hn : ns.length ≤ 63) (hk : k < 1000000) :
    callN Δ wf (n + 1) "_law_cell_at" [.val (wInts ns), .val (.int k)] = .ok (.s (.val (.int (cellV ns k)))) [] := by
  rw [call_in h]
  by_cases h1 : k < ns.length
  · have : (k : Int) < (ns.length : Int) := by exact_mod_cast h1
    simp [runFn, F__law_cell_at, this, h1, cellV, wInts]
  · have h1' : ¬ ((k : Int) < (ns.length : Int)) := by exact_mod_cast h1
    by_cases h2 : ns = []
    · subst h2
      have h1'' : ¬ ((k : Int) < 0) := by omega
      have := cmp_script (ns := [])
      simp [wInts] at this
      simp [runFn, F__law_cell_at, cellV, wInts, this, fits, h1'']
    · have hp : 0 < ns.length := List.length_pos_iff.mpr h2
      have hm : k % ns.length < ns.length := Nat.mod_lt _ hp
      have ha : (0 : Int) < (ns.length : Int) := by exact_mod_cast hp
      have hb : (ns.length : Int) < 1073741824 := by omega
      have e1 : (k : Int) % (ns.length : Int) = ((k % ns.length : Nat) : Int) := by simp
      have e2 : (k : Int) / (ns.length : Int) = ((k / ns.length : Nat) : Int) := by simp
      obtain ⟨x, hx⟩ : ∃ x, ns[k % ns.length]? = some x := ⟨_, List.getElem?_eq_getElem hm⟩
      have m1 : (if (60 : Int) < ((k / ns.length : Nat) : Int) then (60 : Int) else ((k / ns.length : Nat) : Int)) = ((min (k / ns.length) 60 : Nat) : Int) := by
        by_cases q : k / ns.length ≤ 60
        · rw [if_neg (by omega), Nat.min_eq_left q]
        · rw [if_pos (by omega), Nat.min_eq_right (by omega)]; rfl
      generalize hq : min (k / ns.length) 60 = q at m1
      have hq60 : q ≤ 60 := by rw [← hq]; exact Nat.min_le_right _ _
      obtain ⟨a', hl⟩ := cell_loop (wf := wf) (Γ := ⟨callN Δ wf n⟩) (S := some (.val (wInts ns))) (K := some (.val (.int k))) (os := []) (ws := []) (fun e => rfl) ((List.range q).map fun k => .int (k : Nat)) x none
      rw [List.length_map, List.length_range] at hl
      have cm := cmp_script (ns := ns)
      simp only [h2, decide_false] at cm
      have r1 : rngOf [.int (q : Int)] = some ((List.range q).map fun k => .int (k : Nat)) := by
        rw [rng_ok (by omega) (by omega)]; simp
      have o1 : mulOk x 31 = true := mulOk_r (by omega) (by omega)
      have o2 : mulOk (divN q x) 101 = true := mulOk_r (by omega) (by omega)
      have b1 := mod_ok (i := (k : Int)) ha
      have b2 := div_ok (i := (k : Int)) ha hb
      have b3 := mul_ok o1
      have b4 := mul_ok o2
      rw [e1] at b1
      rw [e2] at b2
      simp only [wInts] at hl cm ⊢
      have cv : cellV ns k = x * 31 + k + divN q x * 101 := by
        unfold cellV
        rw [if_neg h1, if_neg h2, hx, hq]; rfl
      have hx' : (ns.map PyData.int)[k % ns.length]? = some (.int x) := by rw [List.getElem?_map, hx]; rfl
      have m2 : bltop "min" [.int ((k / ns.length : Nat) : Int), .int 60] = some (.s (.val (.int (q : Int)))) := by rw [bltop_min, m1]
      rw [cv]
      exact cell_3 h1' cm b1 b2 hx' m2 r1 b3 b4 hl
end
end D

namespace D
open PySem L2
theorem sizeLine_big : 1000000 < sizeLine := by rw [sizeLine_eq]; decide
@[simp] theorem fits_0 : fits 0 = true := decide_eq_true (by have := sizeLine_big; omega)
@[simp] theorem fits_1 : fits 1 = true := decide_eq_true (by have := sizeLine_big; omega)
@[simp] theorem fits_2 : fits 2 = true := decide_eq_true (by have := sizeLine_big; omega)
@[simp] theorem fits_3 : fits 3 = true := decide_eq_true (by have := sizeLine_big; omega)
@[simp] theorem fits_4 : fits 4 = true := decide_eq_true (by have := sizeLine_big; omega)
@[simp] theorem fits_5 : fits 5 = true := decide_eq_true (by have := sizeLine_big; omega)
@[simp] theorem fits_6 : fits 6 = true := decide_eq_true (by have := sizeLine_big; omega)
@[simp] theorem fits_7 : fits 7 = true := decide_eq_true (by have := sizeLine_big; omega)
@[simp] theorem fits_8 : fits 8 = true := decide_eq_true (by have := sizeLine_big; omega)
@[simp] theorem fits_9 : fits 9 = true := decide_eq_true (by have := sizeLine_big; omega)
/-- the drawing functions stand in the table -/
structure Drw (Δ : Str → Option Fn) : Prop where
  cell : Δ "_law_cell_at" = some F__law_cell_at
  mixed : Δ "_law_mixed" = some F__law_mixed
  draw : Δ "_law_draw" = some F__law_draw
section
variable {Δ : Str → Option Fn} {wf n : Nat}
theorem c_mixed {ns : List Int} {k : Nat} {many : Int} (h : Drw Δ) (hn : ns.length ≤ 63) (hk : k < 1000000) (hm : 0 < many) :
    callN Δ wf (n + 2) "_law_mixed" [.val (wInts ns), .val (.int k), .val (.int many)] = .ok (.s (.val (.int (mixV ns k many)))) [] := by
  rw [call_in h.mixed]
  have c1 := c_cell (wf := wf) (n := n) h.cell hn hk
  have o1 : binop .Mult (.int (cellV ns k)) (.int 1103515245) = some (.s (.val (.int (cellV ns k * 1103515245)))) := mul_ok (mulOk_r (by omega) (by omega))
  have o2 : binop .Mult (.int 7919) (.int (k : Int)) = some (.s (.val (.int (7919 * k)))) := mul_ok (mulOk_l (by omega) (by omega))
  have o3 := mod_ok (i := cellV ns k * 1103515245 + 7919 * k + 12345) (j := 2147483647) (by omega)
  have p0 := Int.emod_nonneg (cellV ns k * 1103515245 + 7919 * k + 12345) (b := 2147483647) (by omega)
  have p1 := Int.emod_lt_of_pos (cellV ns k * 1103515245 + 7919 * k + 12345) (b := 2147483647) (by omega)
  unfold mixV
  generalize (cellV ns k * 1103515245 + 7919 * k + 12345) % 2147483647 = z at *
  have o4 := pow_ok (i := z) p0 (by omega)
  have o5 := mod_ok (i := z ^ 5) (j := 2147483647) (by omega)
  have o6 := mod_ok (i := z ^ 5 % 2147483647) (j := 999983) (by omega)
  have o7 := mod_ok (i := z ^ 5 % 2147483647 % 999983) (j := many) hm
  simp [runFn, F__law_mixed, callR, c1, o1, o2, o3, o4, o5, o6, o7]
theorem c_draw {ns : List Int} {xs : List W} {many : Int} (h : Drw Δ) (hn : ns.length ≤ 63) (hk : xs.length + 1 < 1000000) (hm : 0 < many) :
    callN Δ wf (n + 3) "_law_draw" [.val (wInts ns), .own true xs, .val (.int many)] = .ok (.s (.val (.int (mixV ns (xs.length + 1) many)))) [xs ++ [.int 0]] := by
  rw [call_in h.draw]
  have c1 := c_mixed (wf := wf) (n := n) (k := xs.length + 1) h hn hk hm
  have l1 : xs.length < sizeLine := by have := sizeLine_big; omega
  have e1 : (xs.length : Int) + 1 = ((xs.length + 1 : Nat) : Int) := by omega
  simp [runFn, F__law_draw, callR, l1, e1, c1, -Int.natCast_add]
end
end D

namespace D
open PySem L2
/-! ### draws by number -/
def zeros (m : Nat) : List W := List.replicate m (.int 0)
theorem zeros_len {m : Nat} : (zeros m).length = m := by simp [zeros]
theorem zeros_succ {m : Nat} : zeros m ++ [.int 0] = zeros (m + 1) := by simp [zeros, List.replicate_succ']
/-- the m-th draw -/
def dr (ns : List Int) (m : Nat) (many : Int) : Int := mixV ns (m + 1) many
theorem dr_lt {ns : List Int} {m : Nat} {many : Int} (h : 0 < many) : 0 ≤ dr ns m many ∧ dr ns m many < many := mixV_lt h
@[simp] theorem watch_nil {e : SEnv} : watchOf [] [] e = True := by simp [watchOf]
@[simp] theorem setTg_one {i : Nat} {w : W} {e : SEnv} : setTg (.one i) w e = if i < e.length then some (e.set i (some (.val w))) else none := id rfl
@[simp] theorem wipeE_nil {e : SEnv} : wipeE e [] = e := id rfl
@[simp] theorem wipeE_cons {e : SEnv} {v : Nat} {vs : List Nat} : wipeE e (v :: vs) = (wipeE e vs).set v none := id rfl
@[simp] theorem backE_nil {old e : SEnv} : backE old e [] = e := id rfl
@[simp] theorem backE_cons {old e : SEnv} {v : Nat} {vs : List Nat} : backE old e (v :: vs) = (backE old e vs).set v (match old[v]? with | some (some (.val w)) => some (.val w) | _ => none) := id rfl
section
variable {Γ : Gam} {e : SEnv}
noncomputable def kLcB (Γ : Gam) (elt : E) (b : Bool) (e : SEnv) : Res (Option W) := if b then (evE Γ elt e).bind fun y e => .ok (some y.toW) e else .ok none e
noncomputable def lcBody (Γ : Gam) (elt : E) (ifs : List E) (e : SEnv) : Res (Option W) := (evIfs Γ ifs e).bind (kLcB Γ elt)
noncomputable def kSome (y : RV) (e : SEnv) : Res (Option W) := .ok (some y.toW) e
@[simp] theorem k_some {y : RV} : kSome y e = .ok (some y.toW) e := id rfl
@[simp] theorem k_lcT {elt : E} : kLcB Γ elt true e = (evE Γ elt e).bind kSome := id rfl
@[simp] theorem k_lcF {elt : E} : kLcB Γ elt false e = .ok none e := id rfl
@[simp] theorem lcBody_eq {elt : E} {ifs : List E} : lcBody Γ elt ifs e = (evIfs Γ ifs e).bind (kLcB Γ elt) := id rfl
noncomputable def kLcN (body : SEnv → Res (Option W)) (tg : Tg) (own : List Nat) (watch : SEnv → Prop) (xs : List W) (acc : List W) (o : Option W) (e : SEnv) : Res (List W) := match o with
        | some y => if decide (acc.length < sizeLine) then lcLoop body tg own watch xs (wipeE e own) (acc ++ [y]) else .bad
        | none => lcLoop body tg own watch xs (wipeE e own) acc
@[simp] theorem k_lcN {body : SEnv → Res (Option W)} {tg : Tg} {own : List Nat} {watch : SEnv → Prop} {xs acc : List W} : kLcN body tg own watch xs acc none e = lcLoop body tg own watch xs (wipeE e own) acc := id rfl
@[simp] theorem k_lcS {body : SEnv → Res (Option W)} {tg : Tg} {own : List Nat} {watch : SEnv → Prop} {xs acc : List W} {y : W} : kLcN body tg own watch xs acc (some y) e = if acc.length < sizeLine then lcLoop body tg own watch xs (wipeE e own) (acc ++ [y]) else .bad := by
  unfold kLcN
  simp
theorem lc_nil {body : SEnv → Res (Option W)} {tg : Tg} {own : List Nat} {watch : SEnv → Prop} {acc : List W} (h : watch e) : lcLoop body tg own watch [] e acc = .ok acc e := by
  unfold lcLoop
  rw [if_pos h]
theorem lc_cons {body : SEnv → Res (Option W)} {tg : Tg} {own : List Nat} {watch : SEnv → Prop} {x : W} {xs acc : List W} (h : watch e) : lcLoop body tg own watch (x :: xs) e acc = match setTg tg x e with
      | none => .bad
      | some e1 => (body e1).bind (kLcN body tg own watch xs acc) := by
  conv => lhs; unfold lcLoop
  rw [if_pos h]
  cases setTg tg x e with
  | none => rfl
  | some e1 => rfl
noncomputable def kLcE (e1 : SEnv) (own : List Nat) (ys : List W) (e2 : SEnv) : Res RV := .ok (.s (.own false ys)) (backE e1 e2 own)
noncomputable def kLc (Γ : Gam) (elt : E) (tg : Tg) (ifs : List E) (own : List Nat) (p : List Opd × List W × List W) (e1 : SEnv) : Res RV :=
  match lcLoop (lcBody Γ elt ifs) tg own (watchOf p.1 p.2.1) p.2.2 (wipeE e1 own) [] with
      | .ok ys e2 => .ok (.s (.own false ys)) (backE e1 e2 own)
      | _ => .bad
theorem ev_lc {elt : E} {tg : Tg} {it : It} {ifs : List E} {own : List Nat} : evE Γ (.lc elt tg it ifs own) e = (evIt Γ it e).bind (kLc Γ elt tg ifs own) := by
  rw [evE]; rfl
theorem k_lc {elt : E} {tg : Tg} {ifs : List E} {own : List Nat} {os : List Opd} {ws items ys : List W} {e2 : SEnv} (h : lcLoop (lcBody Γ elt ifs) tg own (watchOf os ws) items (wipeE e own) [] = .ok ys e2) :
    kLc Γ elt tg ifs own (os, ws, items) e = .ok (.s (.own false ys)) (backE e e2 own) := by
  unfold kLc
  simp only [h]
end
section
variable {Δ : Str → Option Fn} {wf n : Nat} {ns : List Int}
theorem c_dr {m : Nat} {many : Int} (h : Drw Δ) (hn : ns.length ≤ 63) (hk : m + 1 < 1000000) (hm : 0 < many) :
    callN Δ wf (n + 3) "_law_draw" [.val (wInts ns), .own true (zeros m), .val (.int many)] = .ok (.s (.val (.int (dr ns m many)))) [zeros (m + 1)] := by
  rw [c_draw h hn (by rw [zeros_len]; exact hk) hm, zeros_len, zeros_succ]
  rfl
theorem c_pick {m : Nat} {ws : List W} (h : Drw Δ) (hp : Δ "_law_pick" = some F__law_pick) (hn : ns.length ≤ 63) (hk : m + 1 < 1000000) (hw : 0 < ws.length) :
    callN Δ wf (n + 4) "_law_pick" [.val (wInts ns), .own true (zeros m), .val (.tuple ws)] = .ok (.s (.val ((ws[(dr ns m ws.length).toNat]?).getD .none))) [zeros (m + 1)] := by
  rw [call_in hp]
  have hw' : (0 : Int) < (ws.length : Int) := by exact_mod_cast hw
  have d0 := c_dr (ns := ns) (wf := wf) (n := n) (m := m) (many := ws.length) h hn hk hw'
  obtain ⟨b1, b2⟩ := dr_lt (ns := ns) (m := m) hw'
  obtain ⟨x, hx⟩ : ∃ x, ws[(dr ns m ws.length).toNat]? = some x := ⟨_, List.getElem?_eq_getElem (by omega)⟩
  have a1 := atI_of (xs := ws) b1
  rw [hx] at a1
  simp [runFn, F__law_pick, callR, d0, hx, a1]
/-- a good -/
def gdW (g : Int × Int) : W := .tuple [.int g.1, .int g.2]
def gdOk (g : Int × Int) : Prop := (3 ≤ g.1 ∧ g.1 ≤ 9) ∧ 0 ≤ g.2 ∧ g.2 ≤ 7
theorem c_goods {m : Nat} (h : Drw Δ) (hg : Δ "_law_some_goods" = some F__law_some_goods) (hn : ns.length ≤ 63) (hk : m + 10 < 1000000) :
    ∃ (gs : List (Int × Int)) (m' : Nat), callN Δ wf (n + 4) "_law_some_goods" [.val (wInts ns), .own true (zeros m)] = .ok (.s (.val (.tuple (gs.map gdW)))) [zeros m'] ∧ (gs.length = 1 ∨ gs.length = 2) ∧ (∀ g ∈ gs, gdOk g) ∧ m' ≤ m + 5 := by
  rw [call_in hg]
  have d0 := c_dr (ns := ns) (wf := wf) (n := n) (m := m) (many := 3) h hn (by omega) (by omega)
  have d1 := c_dr (ns := ns) (wf := wf) (n := n) (m := m + 1) (many := 7) h hn (by omega) (by omega)
  have d2 := c_dr (ns := ns) (wf := wf) (n := n) (m := m + 1 + 1) (many := 8) h hn (by omega) (by omega)
  have d3 := c_dr (ns := ns) (wf := wf) (n := n) (m := m + 1 + 1 + 1) (many := 7) h hn (by omega) (by omega)
  have d4 := c_dr (ns := ns) (wf := wf) (n := n) (m := m + 1 + 1 + 1 + 1) (many := 8) h hn (by omega) (by omega)
  have s0 : 0 < sizeLine := by have := sizeLine_big; omega
  have s1 : 1 < sizeLine := by have := sizeLine_big; omega
  by_cases hz : dr ns m 3 = 0
  · refine ⟨[(3 + dr ns (m + 1) 7, dr ns (m + 1 + 1) 8), (3 + dr ns (m + 1 + 1 + 1) 7, dr ns (m + 1 + 1 + 1 + 1) 8)], m + 1 + 1 + 1 + 1 + 1, ?_, .inr rfl, ?_, by omega⟩
    · have r : rngOf [.int 2] = some [.int 0, .int 1] := by rw [rng_ok (by omega) (by omega)]; rfl
      simp [runFn, F__law_some_goods, callR, d0, hz, ev_lc, r, kLc, lc_cons, lc_nil, d1, d2, d3, d4, s0, s1, gdW]
    · intro g hg
      have b1 := dr_lt (ns := ns) (m := m + 1) (many := 7) (by omega)
      have b2 := dr_lt (ns := ns) (m := m + 1 + 1) (many := 8) (by omega)
      have b3 := dr_lt (ns := ns) (m := m + 1 + 1 + 1) (many := 7) (by omega)
      have b4 := dr_lt (ns := ns) (m := m + 1 + 1 + 1 + 1) (many := 8) (by omega)
      simp only [List.mem_cons, List.not_mem_nil, or_false] at hg
      rcases hg with rfl | rfl
      · exact ⟨⟨by simp; omega, by simp; omega⟩, by simp; omega, by simp; omega⟩
      · exact ⟨⟨by simp; omega, by simp; omega⟩, by simp; omega, by simp; omega⟩
  · refine ⟨[(3 + dr ns (m + 1) 7, dr ns (m + 1 + 1) 8)], m + 1 + 1 + 1, ?_, .inl rfl, ?_, by omega⟩
    · have r : rngOf [.int 1] = some [.int 0] := by rw [rng_ok (by omega) (by omega)]; rfl
      simp [runFn, F__law_some_goods, callR, d0, hz, ev_lc, r, kLc, lc_cons, lc_nil, d1, d2, d3, d4, s0, s1, gdW]
    · intro g hg
      have b1 := dr_lt (ns := ns) (m := m + 1) (many := 7) (by omega)
      have b2 := dr_lt (ns := ns) (m := m + 1 + 1) (many := 8) (by omega)
      simp only [List.mem_cons, List.not_mem_nil, or_false] at hg
      subst hg
      exact ⟨⟨by simp; omega, by simp; omega⟩, by simp; omega, by simp; omega⟩
end
end D

namespace D
open PySem L2
/-- a rule -/
inductive Rl where
  | pack (g s p : Int) (m : Option Int)
  | frm (g t p : Int)
  | over (w d : Int)
  | each (w k : Int) (m : Option Int)
def opW : Option Int → W
  | none => .none
  | some i => .int i
@[simp] theorem opW_n : opW none = .none := id rfl
@[simp] theorem opW_s {i : Int} : opW (some i) = .int i := id rfl
def Rl.w : Rl → W
  | .pack g s p m => .tuple [.str "pack", .int g, .int s, .int p, opW m]
  | .frm g t p => .tuple [.str "from", .int g, .int t, .int p]
  | .over w d => .tuple [.str "over", .int w, .int d]
  | .each w k m => .tuple [.str "each", .int w, .int k, opW m]
def mostOk (m : Option Int) : Prop := m = none ∨ m = some 1 ∨ m = some 2
def Rl.ok (c : Int) : Rl → Prop
  | .pack g s p m => (0 ≤ g ∧ g < c) ∧ (2 ≤ s ∧ s ≤ 3) ∧ (s ≤ p ∧ p ≤ 30) ∧ mostOk m
  | .frm g t p => (0 ≤ g ∧ g < c) ∧ (2 ≤ t ∧ t ≤ 4) ∧ 1 ≤ p ∧ p ≤ 9
  | .over w d => (2 ≤ w ∧ w ≤ 12) ∧ 1 ≤ d ∧ d ≤ 6 ∧ d ≤ w
  | .each w k m => (2 ≤ w ∧ w ≤ 6) ∧ (1 ≤ k ∧ k ≤ w) ∧ mostOk m ∧ 2 * k ≤ w
/-- packs are not much cheaper than their pieces -/
def pkOk (gs : List (Int × Int)) : Rl → Prop
  | .pack g s p _ => ∀ x, gs[g.toNat]? = some x → s * x.1 - (2 * s + 1) ≤ p
  | _ => True
/-- each, of no most -/
def Rl.open_ : Rl → Bool
  | .each _ _ none => true
  | _ => false
section
variable {Δ : Str → Option Fn} {wf n : Nat} {ns : List Int}
structure Drs (Δ : Str → Option Fn) : Prop extends Drw Δ where
  pick : Δ "_law_pick" = some F__law_pick
  goods : Δ "_law_some_goods" = some F__law_some_goods
  rule : Δ "_law_some_rule" = some F__law_some_rule
theorem pick4 {x : Int} (h : 0 ≤ x ∧ x < 4) : ∃ m, mostOk m ∧ (([PyData.none, .none, .int 1, .int 2] : List W)[x.toNat]?).getD .none = opW m := by
  have : x = 0 ∨ x = 1 ∨ x = 2 ∨ x = 3 := by omega
  rcases this with rfl | rfl | rfl | rfl
  · exact ⟨none, .inl rfl, rfl⟩
  · exact ⟨none, .inl rfl, rfl⟩
  · exact ⟨some 1, .inr (.inl rfl), rfl⟩
  · exact ⟨some 2, .inr (.inr rfl), rfl⟩
theorem pick2 {x : Int} (h : 0 ≤ x ∧ x < 2) : ∃ m, mostOk m ∧ m ≠ none ∧ (([.int 1, .int 2] : List W)[x.toNat]?).getD .none = opW m := by
  have : x = 0 ∨ x = 1 := by omega
  rcases this with rfl | rfl
  · exact ⟨some 1, .inr (.inl rfl), by simp, rfl⟩
  · exact ⟨some 2, .inr (.inr rfl), by simp, rfl⟩
theorem c_rule {m : Nat} {gs : List (Int × Int)} {capped : Bool} (h : Drs Δ) (hn : ns.length ≤ 63) (hk : m + 20 < 1000000) (hg : 0 < gs.length) (hgs : ∀ g ∈ gs, gdOk g) :
    ∃ (rv : RV) (r : Rl) (m' : Nat), callN Δ wf (n + 5) "_law_some_rule" [.val (wInts ns), .own true (zeros m), .val (.tuple (gs.map gdW)), .val (.bool capped)] = .ok rv [zeros m'] ∧ rv.toW = r.w ∧ r.ok gs.length ∧ (capped = true → r.open_ = false) ∧ m' ≤ m + 10 ∧ pkOk gs r := by
  rw [call_in h.rule]
  have hg' : (0 : Int) < (gs.length : Int) := by exact_mod_cast hg
  have dd : ∀ (j : Nat) (many : Int), j + 1 < 1000000 → 0 < many → callN Δ wf (n + 4) "_law_draw" [.val (wInts ns), .own true (zeros j), .val (.int many)] = .ok (.s (.val (.int (dr ns j many)))) [zeros (j + 1)] := fun j many a b => c_dr (n := n + 1) h.toDrw hn a b
  have d0 := dd m 5 (by omega) (by omega)
  have d1 := dd (m + 1) gs.length (by omega) hg'
  obtain ⟨b1, b2⟩ := dr_lt (ns := ns) (m := m + 1) hg'
  have k0 := dr_lt (ns := ns) (m := m) (many := 5) (by omega)
  obtain ⟨g, hx⟩ : ∃ g, gs[(dr ns (m + 1) gs.length).toNat]? = some g := ⟨_, List.getElem?_eq_getElem (by omega)⟩
  have a1 : atI (gs.map gdW) (dr ns (m + 1) gs.length) = some (gdW g) := by
    rw [atI_of b1, List.getElem?_map, hx]; rfl
  have gok := hgs g (List.mem_of_getElem? hx)
  obtain ⟨⟨g1, g2⟩, g3, g4⟩ := gok
  generalize hgd : dr ns (m + 1) gs.length = gd at *
  by_cases c1 : dr ns m 5 < 2
  · have d2 := dd (m + 1 + 1) 2 (by omega) (by omega)
    have q2 := dr_lt (ns := ns) (m := m + 1 + 1) (many := 2) (by omega)
    generalize hs : 2 + dr ns (m + 1 + 1) 2 = s at *
    have o1 : binop .Mult (.int s) (.int g.1) = some (.s (.val (.int (s * g.1)))) := mul_ok (mulOk_l (by omega) (by omega))
    have o2 : binop .Mult (.int 2) (.int s) = some (.s (.val (.int (2 * s)))) := mul_ok (mulOk_l (by omega) (by omega))
    have d3 := dd (m + 1 + 1 + 1) (2 * s + 2) (by omega) (by omega)
    have q3 := dr_lt (ns := ns) (m := m + 1 + 1 + 1) (many := 2 * s + 2) (by omega)
    have d4 := c_pick (wf := wf) (n := n) (ns := ns) (m := m + 1 + 1 + 1 + 1) (ws := [.none, .none, .int 1, .int 2]) h.toDrw h.pick hn (by omega) (by simp)
    obtain ⟨mo, hm1, hm2⟩ := pick4 (dr_lt (ns := ns) (m := m + 1 + 1 + 1 + 1) (many := 4) (by omega))
    simp only [List.length_cons, List.length_nil, Nat.zero_add, Nat.reduceAdd] at d4
    have e4 : ((4 : Nat) : Int) = 4 := rfl
    rw [e4, hm2] at d4
    have sg : s * g.1 ≤ 27 := by
      have : s = 2 ∨ s = 3 := by omega
      rcases this with h | h <;> rw [h] <;> omega
    generalize hpr : (if s * g.1 - dr ns (m + 1 + 1 + 1) (2 * s + 2) > s then s * g.1 - dr ns (m + 1 + 1 + 1) (2 * s + 2) else s) = pr
    have hpr' : bltop "max" [.int s, .int (s * g.1 - dr ns (m + 1 + 1 + 1) (2 * s + 2))] = some (.s (.val (.int pr))) := by rw [bltop_max, ← hpr]
    refine ⟨RV.t [.val (.str "pack"), .val (.int gd), .val (.int s), .val (.int pr), .val (opW mo)], .pack gd s pr mo, m + 1 + 1 + 1 + 1 + 1, ?_, rfl, ⟨⟨b1, b2⟩, by omega, ?_, hm1⟩, fun _ => rfl, by omega, ?_⟩
    · simp [runFn, F__law_some_rule, callR, d0, d1, c1, a1, gdW, d2, hs, o1, o2, d3, d4, hpr', -bltop_max]
    · rw [← hpr]
      split
      · constructor <;> omega
      · constructor <;> omega
    · intro x hx'
      rw [hx] at hx'
      cases hx'
      rw [← hpr]
      split <;> omega
  · by_cases c2 : dr ns m 5 = 2
    · have d2 := dd (m + 1 + 1) 3 (by omega) (by omega)
      have q2 := dr_lt (ns := ns) (m := m + 1 + 1) (many := 3) (by omega)
      have d3 := dd (m + 1 + 1 + 1) 4 (by omega) (by omega)
      have q3 := dr_lt (ns := ns) (m := m + 1 + 1 + 1) (many := 4) (by omega)
      generalize hpr : (if g.1 - dr ns (m + 1 + 1 + 1) 4 > 1 then g.1 - dr ns (m + 1 + 1 + 1) 4 else 1) = pr
      have hpr' : bltop "max" [.int 1, .int (g.1 - dr ns (m + 1 + 1 + 1) 4)] = some (.s (.val (.int pr))) := by rw [bltop_max, ← hpr]
      refine ⟨RV.t [.val (.str "from"), .val (.int gd), .val (.int (2 + dr ns (m + 1 + 1) 3)), .val (.int pr)], .frm gd (2 + dr ns (m + 1 + 1) 3) pr, m + 1 + 1 + 1 + 1, ?_, rfl, ⟨⟨b1, b2⟩, by omega, ?_⟩, fun _ => rfl, by omega, trivial⟩
      · simp [runFn, F__law_some_rule, callR, d0, d1, c1, c2, a1, gdW, d2, d3, hpr', -bltop_max]
      · rw [← hpr]
        split
        · constructor <;> omega
        · constructor <;> omega
    · by_cases c3 : dr ns m 5 = 3
      · have d2 := dd (m + 1 + 1) 9 (by omega) (by omega)
        have q2 := dr_lt (ns := ns) (m := m + 1 + 1) (many := 9) (by omega)
        have d3 := dd (m + 1 + 1 + 1) 4 (by omega) (by omega)
        have q3 := dr_lt (ns := ns) (m := m + 1 + 1 + 1) (many := 4) (by omega)
        refine ⟨RV.t [.val (.str "over"), .val (.int (4 + dr ns (m + 1 + 1) 9)), .val (.int (1 + dr ns (m + 1 + 1 + 1) 4))], .over (4 + dr ns (m + 1 + 1) 9) (1 + dr ns (m + 1 + 1 + 1) 4), m + 1 + 1 + 1 + 1, ?_, rfl, ⟨by omega, by omega⟩, fun _ => rfl, by omega, trivial⟩
        simp [runFn, F__law_some_rule, callR, d0, d1, c1, c2, c3, a1, gdW, d2, d3]
      · have d2 := dd (m + 1 + 1) 5 (by omega) (by omega)
        have q2 := dr_lt (ns := ns) (m := m + 1 + 1) (many := 5) (by omega)
        generalize hs : 2 + dr ns (m + 1 + 1) 5 = s at *
        have o1 := div_ok (i := s) (j := 2) (by omega) (by omega)
        have d5 := dd (m + 1 + 1 + 1 + 1) (s / 2) (by omega) (by omega)
        have q5 := dr_lt (ns := ns) (m := m + 1 + 1 + 1 + 1) (many := s / 2) (by omega)
        cases capped with
        | true =>
          have d4 := c_pick (wf := wf) (n := n) (ns := ns) (m := m + 1 + 1 + 1) (ws := [.int 1, .int 2]) h.toDrw h.pick hn (by omega) (by simp)
          obtain ⟨mo, hm1, hm3, hm2⟩ := pick2 (dr_lt (ns := ns) (m := m + 1 + 1 + 1) (many := 2) (by omega))
          simp only [List.length_cons, List.length_nil, Nat.zero_add, Nat.reduceAdd] at d4
          have e4 : ((2 : Nat) : Int) = 2 := rfl
          rw [e4, hm2] at d4
          refine ⟨RV.t [.val (.str "each"), .val (.int s), .val (.int (1 + dr ns (m + 1 + 1 + 1 + 1) (s / 2))), .val (opW mo)], .each s (1 + dr ns (m + 1 + 1 + 1 + 1) (s / 2)) mo, m + 1 + 1 + 1 + 1 + 1, ?_, rfl, ⟨by omega, by omega, hm1, by omega⟩, fun _ => ?_, by omega, trivial⟩
          · simp [runFn, F__law_some_rule, callR, d0, d1, c1, c2, c3, a1, gdW, d2, hs, d4, d5, o1]
          · cases mo with
            | none => exact absurd rfl hm3
            | some x => rfl
        | false =>
          have d4 := c_pick (wf := wf) (n := n) (ns := ns) (m := m + 1 + 1 + 1) (ws := [.none, .none, .int 1, .int 2]) h.toDrw h.pick hn (by omega) (by simp)
          obtain ⟨mo, hm1, hm2⟩ := pick4 (dr_lt (ns := ns) (m := m + 1 + 1 + 1) (many := 4) (by omega))
          simp only [List.length_cons, List.length_nil, Nat.zero_add, Nat.reduceAdd] at d4
          have e4 : ((4 : Nat) : Int) = 4 := rfl
          rw [e4, hm2] at d4
          refine ⟨RV.t [.val (.str "each"), .val (.int s), .val (.int (1 + dr ns (m + 1 + 1 + 1 + 1) (s / 2))), .val (opW mo)], .each s (1 + dr ns (m + 1 + 1 + 1 + 1) (s / 2)) mo, m + 1 + 1 + 1 + 1 + 1, ?_, rfl, ⟨by omega, by omega, hm1, by omega⟩, fun z => (by cases z), by omega, trivial⟩
          simp [runFn, F__law_some_rule, callR, d0, d1, c1, c2, c3, a1, gdW, d2, hs, d4, d5, o1]
end
end D

namespace D
open PySem L2
theorem allB_bools {α : Type} {f : α → Bool} : ∀ l : List α, allB (l.map fun x => .bool (f x)) = some (l.map f)
  | [] => rfl
  | a :: l => by
    show (allB (l.map fun x => .bool (f x))).map (f a :: ·) = _
    rw [allB_bools l]; rfl
theorem allI_nums {α : Type} {f : α → Int} : ∀ l : List α, allI (l.map fun x => .int (f x)) = some (l.map f)
  | [] => rfl
  | a :: l => by
    show (allI (l.map fun x => .int (f x))).map (f a :: ·) = _
    rw [allI_nums l]; rfl
section
variable {Γ : Gam} {e : SEnv}
theorem fr_nil {body : SEnv → Res Fl} {tg : Tg} {watch : SEnv → Prop} (h : watch e) : frLoop body tg watch [] e = .ok .nx e := by
  unfold frLoop
  rw [if_pos h]
noncomputable def kFrN (body : SEnv → Res Fl) (tg : Tg) (watch : SEnv → Prop) (xs : List W) (f : Fl) (e : SEnv) : Res Fl := match f with
        | .nx => frLoop body tg watch xs e
        | .rt r => .ok (.rt r) e
@[simp] theorem k_frN {body : SEnv → Res Fl} {tg : Tg} {watch : SEnv → Prop} {xs : List W} : kFrN body tg watch xs .nx e = frLoop body tg watch xs e := id rfl
@[simp] theorem k_frR {body : SEnv → Res Fl} {tg : Tg} {watch : SEnv → Prop} {xs : List W} {r : RV} : kFrN body tg watch xs (.rt r) e = .ok (.rt r) e := id rfl
theorem fr_cons {body : SEnv → Res Fl} {tg : Tg} {watch : SEnv → Prop} {x : W} {xs : List W} (h : watch e) : frLoop body tg watch (x :: xs) e = match setTg tg x e with
      | none => .bad
      | some e1 => (body e1).bind (kFrN body tg watch xs) := by
  conv => lhs; unfold frLoop
  rw [if_pos h]
  cases setTg tg x e with
  | none => rfl
  | some e1 => rfl
end
/-- each, of no most, by the text -/
def openW : E := .and (.cmp .Eq (.v (.idx (.v (.var 6)) (.con (.int 0)))) (.v (.con (.str "each")))) (.cmp .Is (.v (.idx (.v (.var 6)) (.con (.int 3)))) (.v (.con (.none))))
abbrev capE : E := .blt "any" [.v (.lc (.and (.cmp .Eq (.v (.idx (.v (.var 6)) (.con (.int 0)))) (.v (.con (.str "each")))) (.cmp .Is (.v (.idx (.v (.var 6)) (.con (.int 3)))) (.v (.con (.none))))) (.one 6) (.seq (.r 3)) [] [6])]
theorem opW_none {m : Option Int} : isNoneW (opW m) = m.isNone := by cases m <;> rfl
section
variable {Δ : Str → Option Fn} {wf n : Nat} {ns : List Int}
theorem cap_ok {Γ : Gam} {S T G A C : Option Slot} {rs : List Rl} (hl : rs.length ≤ 1000) : evE Γ capE [S, T, G, some (.own false (rs.map Rl.w)), A, C, none] = .ok (.s (.val (.bool (rs.any Rl.open_)))) [S, T, G, some (.own false (rs.map Rl.w)), A, C, none] := by
  have h := lc_seq (Γ := Γ) (elt := .and (.cmp .Eq (.v (.idx (.v (.var 6)) (.con (.int 0)))) (.v (.con (.str "each")))) (.cmp .Is (.v (.idx (.v (.var 6)) (.con (.int 3)))) (.v (.con (.none))))) (i := 6) (it := .seq (.r 3)) (ifs := [])
    (e := [S, T, G, some (.own false (rs.map Rl.w)), A, C, none]) (os := [.r 3]) (ws := [.list (rs.map Rl.w)]) (items := rs.map Rl.w) (g := fun x => some (.bool (match x with | .tuple [.str k, _, _, m] => decide (k = "each") && isNoneW m | _ => false)))
    (by simp) (.inl rfl) (by simp) (by have := sizeLine_big; simp; omega) (fun x hx => by
      obtain ⟨r, _, rfl⟩ := List.mem_map.mp hx
      cases r <;> simp [Rl.w])
  have h2 : (rs.map Rl.w).filterMap (fun x => some (PyData.bool (match x with | .tuple [.str k, _, _, m] => decide (k = "each") && isNoneW m | _ => false))) = rs.map fun r => .bool r.open_ := by
    clear h hl
    induction rs with
    | nil => rfl
    | cons r rs ih =>
      rw [List.map_cons, List.filterMap_cons_some (b := .bool r.open_), ih]
      · rfl
      · cases r with
        | each w k m => cases m <;> simp [Rl.w, Rl.open_]
        | _ => simp [Rl.w, Rl.open_]
  rw [h2] at h
  simp only [capE, ev_blt, evAs_cons, evA_v', h, bind_okE, k_v, k_as1, evAs_nil, k_as2, k_blt, toW_s, toW_own, getAll_cons, getAll_nil, get_w, bltop_any, allB_bools, Option.map_some, optR_some]
  simp [List.any_map, Function.comp_def]
def openN (rs : List Rl) : Nat := (rs.filter Rl.open_).length
theorem openN_app {rs : List Rl} {r : Rl} (h : openN rs ≤ 1) (h2 : rs.any Rl.open_ = true → r.open_ = false) : openN (rs ++ [r]) ≤ 1 := by
  unfold openN at *
  rw [List.filter_append, List.length_append]
  cases ha : rs.any Rl.open_ with
  | true => rw [List.filter_cons, h2 ha]; simpa using h
  | false =>
    have : rs.filter Rl.open_ = [] := by
      rw [List.filter_eq_nil_iff]
      intro a hm hh
      have := List.any_eq_true.mpr ⟨a, hm, hh⟩
      rw [ha] at this
      cases this
    rw [this]
    cases h3 : r.open_ <;> simp [List.filter_cons, h3]
theorem shop_loop {gs : List (Int × Int)} (h : Drs Δ) (hn : ns.length ≤ 63) (hg : 0 < gs.length) (hgs : ∀ g ∈ gs, gdOk g) : ∀ (items : List W) (rs : List Rl) (m : Nat) (a c : Option Slot), m + 30 * items.length + 30 < 1000000 → rs.length + items.length ≤ 100 → (∀ r ∈ rs, r.ok gs.length) → openN rs ≤ 1 → (∀ r ∈ rs, pkOk gs r) →
    ∃ (rs' : List Rl) (m' : Nat) (a' c' : Option Slot), frLoop (evSs ⟨callN Δ wf (n + 5)⟩ wf [.set 5 false capE, .ex (.app 3 (.call "_law_some_rule" [.v (.var 0), .r 1, .v (.var 2), .v (.var 5)]))]) (.one 4) (watchOf [] []) items
        [some (.val (wInts ns)), some (.own true (zeros m)), some (.val (.tuple (gs.map gdW))), some (.own false (rs.map Rl.w)), a, c, none]
      = .ok .nx [some (.val (wInts ns)), some (.own true (zeros m')), some (.val (.tuple (gs.map gdW))), some (.own false (rs'.map Rl.w)), a', c', none]
      ∧ rs'.length = rs.length + items.length ∧ (∀ r ∈ rs', r.ok gs.length) ∧ openN rs' ≤ 1 ∧ m' ≤ m + 30 * items.length ∧ ∀ r ∈ rs', pkOk gs r
  | [], rs, m, a, c, h1, h2, h3, h4, h5 => ⟨rs, m, a, c, fr_nil (by simp), by simp, h3, h4, by omega, h5⟩
  | x :: items, rs, m, a, c, h1, h2, h3, h4, h5 => by
    simp only [List.length_cons] at h1 h2
    obtain ⟨rv, r, m1, e1, e2, e3, e4, e5, e6⟩ := c_rule (wf := wf) (n := n) (ns := ns) (m := m) (gs := gs) (capped := rs.any Rl.open_) h hn (by omega) hg hgs
    obtain ⟨rs', m', a', c', q1, q2, q3, q4, q5, q6⟩ := shop_loop h hn hg hgs items (rs ++ [r]) m1 (some (.val x)) (some (.val (.bool (rs.any Rl.open_)))) (by omega) (by simp; omega) (fun s hs => by
      rcases List.mem_append.mp hs with hs | hs
      · exact h3 s hs
      · simp at hs; subst hs; exact e3) (openN_app h4 e4) (fun s hs => by
      rcases List.mem_append.mp hs with hs | hs
      · exact h5 s hs
      · simp at hs; subst hs; exact e6)
    refine ⟨rs', m', a', c', ?_, by rw [q2]; simp; omega, q3, q4, by simp; omega, q6⟩
    rw [fr_cons (by simp)]
    have l1 : rs.length < sizeLine := by have := sizeLine_big; omega
    simp only [setTg_one, List.length_cons, List.length_nil, Nat.zero_add, Nat.reduceAdd, Nat.reduceLT, if_true, List.set_cons_succ, List.set_cons_zero]
    rw [evSs_cons, evS_set, cap_ok (by omega)]
    simp [callR, e1, e2, l1, -List.map_append]
    rw [show rs.map Rl.w ++ [r.w] = (rs ++ [r]).map Rl.w by simp]
    exact q1
def shW (gs : List (Int × Int)) (rs : List Rl) : W := .tuple [.tuple (gs.map gdW), .tuple (rs.map Rl.w)]
structure ShOk (gs : List (Int × Int)) (rs : List Rl) : Prop where
  gl : gs.length = 1 ∨ gs.length = 2
  gok : ∀ g ∈ gs, gdOk g
  rl : rs.length ≤ 4
  rok : ∀ r ∈ rs, r.ok gs.length
  opn : openN rs ≤ 1
  pk : ∀ r ∈ rs, pkOk gs r
theorem c_shop {m : Nat} (h : Drs Δ) (hs : Δ "_law_some_shop" = some F__law_some_shop) (hn : ns.length ≤ 63) (hk : m + 1000 < 1000000) :
    ∃ (gs : List (Int × Int)) (rs : List Rl) (m' : Nat), callN Δ wf (n + 6) "_law_some_shop" [.val (wInts ns), .own true (zeros m)] = .ok (.t [.val (.tuple (gs.map gdW)), .val (.tuple (rs.map Rl.w))]) [zeros m'] ∧ ShOk gs rs ∧ m' ≤ m + 300 := by
  rw [call_in hs]
  obtain ⟨gs, m1, g1, g2, g3, g4⟩ := c_goods (wf := wf) (n := n + 1) (ns := ns) (m := m) h.toDrw h.goods hn (by omega)
  have d0 := c_dr (ns := ns) (wf := wf) (n := n + 2) (m := m1) (many := 5) h.toDrw hn (by omega) (by omega)
  have b0 := dr_lt (ns := ns) (m := m1) (many := 5) (by omega)
  have r1 : rngOf [.int (dr ns m1 5)] = some ((List.range (dr ns m1 5).toNat).map fun k => .int (k : Nat)) := rng_ok (by omega) (by omega)
  obtain ⟨rs, m', a', c', q1, q2, q3, q4, q5, q6⟩ := shop_loop (wf := wf) (n := n) (ns := ns) (gs := gs) h hn (by omega) g3 ((List.range (dr ns m1 5).toNat).map fun k => .int (k : Nat)) [] (m1 + 1) none none (by simp; omega) (by simp; omega) (by simp) (by decide) (by simp)
  simp only [List.length_map, List.length_range, List.length_nil, Nat.zero_add] at q2 q5
  refine ⟨gs, rs, m', ?_, ⟨g2, g3, by omega, q3, q4, q6⟩, by omega⟩
  simp only [capE, List.map_nil] at q1
  simp [runFn, F__law_some_shop, callR, g1, d0, r1, q1]
end
end D

namespace D
open PySem L2
/-- no dict at the first k levels -/
def ndn : Nat → W → Bool
  | 0, _ => true
  | k + 1, w => nd w && (match w with | .tuple xs => xs.all (ndn k) | _ => true)
theorem ndn_nd {k : Nat} {w : W} (h : ndn (k + 1) w = true) : nd w = true := by
  unfold ndn at h
  exact (Bool.and_eq_true_iff.mp h).1
theorem ndn_tup {k : Nat} {xs : List W} (h : ndn (k + 1) (.tuple xs) = true) : ∀ x ∈ xs, ndn k x = true := by
  unfold ndn at h
  exact List.all_eq_true.mp (Bool.and_eq_true_iff.mp h).2
theorem ndn_ndA {k : Nat} {w : W} (h : ndn (k + 2) w = true) : ∀ xs, w = .tuple xs → ndA xs = true := by
  rintro xs rfl
  exact List.all_eq_true.mpr fun x hx => ndn_nd (ndn_tup h x hx)
@[simp] theorem ndn_0 {w : W} : ndn 0 w = true := id rfl
@[simp] theorem ndn_T {k : Nat} {xs : List W} : ndn (k + 1) (.tuple xs) = xs.all (ndn k) := by simp [ndn, nd]
@[simp] theorem ndn_I {k : Nat} {i : Int} : ndn k (.int i) = true := by cases k <;> rfl
@[simp] theorem ndn_S {k : Nat} {i : Str} : ndn k (.str i) = true := by cases k <;> rfl
@[simp] theorem ndn_B {k : Nat} {i : Bool} : ndn k (.bool i) = true := by cases k <;> rfl
@[simp] theorem ndn_N {k : Nat} : ndn k .none = true := by cases k <;> rfl
@[simp] theorem ndn_L {k : Nat} {xs : List W} : ndn k (.list xs) = true := by cases k <;> rfl
@[simp] theorem ndn_O {k : Nat} {m : Option Int} : ndn k (opW m) = true := by cases m <;> simp
def isOpenB : W → Bool
  | .tuple [.str k, _, _, m] => decide (k = "each") && isNoneW m
  | _ => false
def rulesB (c : Int) : W → Bool
  | .tuple rs => decide (rs.length ≤ 4) && rs.all (isRuleB c) && decide ((rs.filter isOpenB).length ≤ 1)
  | _ => false
def isShopB : W → Bool
  | .tuple [.tuple goods, rules] => decide (1 ≤ goods.length) && decide (goods.length ≤ 2) && goods.all isGoodB && rulesB goods.length rules
  | _ => false
structure Isp (Δ : Str → Option Fn) : Prop where
  int : Δ "is_integer" = some F_is_integer
  good : Δ "is_good" = some F_is_good
  most : Δ "is_most" = some F_is_most
  rule : Δ "is_rule" = some F_is_rule
  stands : Δ "stands" = some F_stands
  shop : Δ "is_shop" = some F_is_shop
theorem fm_some {α β : Type} {f : α → β} (l : List α) : l.filterMap (fun x => some (f x)) = l.map f := by
  induction l with
  | nil => rfl
  | cons a l ih => simp [ih]
theorem fm_if {α : Type} {p : α → Bool} (l : List α) : l.filterMap (fun x => if p x then some x else none) = l.filter p := by
  induction l with
  | nil => rfl
  | cons a l ih =>
    rw [List.filterMap_cons, List.filter_cons]
    cases p a <;> simp [ih]
section
variable {Δ : Str → Option Fn} {wf n : Nat}
theorem rule_open {c : Int} {x : W} (h : isRuleB c x = true) {Γ : Gam} {a b d : Option Slot} :
    evE Γ (.and (.cmp .Eq (.v (.idx (.v (.var 3)) (.con (.int 0)))) (.v (.con (.str "each")))) (.cmp .Is (.v (.idx (.v (.var 3)) (.con (.int 3)))) (.v (.con (.none))))) [a, b, d, some (.val x)] = .ok (.s (.val (.bool (isOpenB x)))) [a, b, d, some (.val x)] := by
  unfold isRuleB at h
  split at h
  · rename_i k p q
    simp at h
    obtain ⟨⟨rfl, _⟩, _⟩ := h
    simp [isOpenB]
  · rename_i k p q m
    by_cases hk : k = "each"
    · subst hk; simp [isOpenB]
    · simp [isOpenB, hk]
  · rename_i k p q m z
    simp at h
    obtain ⟨⟨⟨⟨rfl, _⟩, _⟩, _⟩, _⟩ := h
    simp [isOpenB]
  · cases h
theorem c_stands {v : W} (h : Isp Δ) (hv : ndn 4 v = true) (hl : ∀ xs ys, v = .tuple [.tuple xs, .tuple ys] → xs.length ≤ 100000 ∧ ys.length ≤ 100000) :
    callN Δ wf (n + 4) "stands" [.val v] = .ok (.s (.val (.bool (isShopB v)))) [] := by
  rw [call_in h.stands]
  have sl := sizeLine_big
  cases v with
  | tuple vs =>
    match vs, hv, hl with
    | [], _, _ => simp [runFn, F_stands, isShopB]
    | [a], _, _ => simp [runFn, F_stands, isShopB]
    | a :: b :: c :: r, _, _ =>
      have : ¬ ((r.length : Int) + 1 + 1 + 1 = 2) := by omega
      simp [runFn, F_stands, isShopB, this]
    | [g, rules], hv, hl =>
      have ng := ndn_tup hv g (by simp)
      have nr := ndn_tup hv rules (by simp)
      cases g with
      | tuple goods =>
        have cg := fun x (hx : x ∈ goods) => c_is_good (wf := wf) (n := n + 1) (v := x) h.int h.good (ndn_nd (ndn_tup ng x hx)) (ndn_ndA (k := 0) (ndn_tup ng x hx))
        by_cases l1 : 1 ≤ (goods.length : Int)
        · by_cases l2 : (goods.length : Int) ≤ 2
          · have q1 := lc_seq (Γ := ⟨callN Δ wf (n + 3)⟩) (elt := .call "is_good" [.v (.var 3)]) (i := 3) (it := .seq (.v (.var 1))) (ifs := []) (e := [some (.val (.tuple [.tuple goods, rules])), some (.val (.tuple goods)), some (.val rules), none]) (os := [.w (.tuple goods)]) (ws := [.tuple goods]) (items := goods) (g := fun x => some (.bool (isGoodB x)))
              (by simp) (.inl rfl) (by simp) (by omega) (fun x hx => by simp [callR, cg x hx])
            rw [fm_some] at q1
            have d1 : decide (1 ≤ goods.length) = true := by simp; omega
            have d2 : decide (goods.length ≤ 2) = true := by simp; omega
            cases ga : goods.all isGoodB with
            | false =>
              have gb : goods.all (id ∘ isGoodB) = false := ga
              simp [runFn, F_stands, isShopB, l1, l2, d1, d2, q1, allB_bools, ga, gb]
            | true =>
              have gb : goods.all (id ∘ isGoodB) = true := ga
              cases rules with
              | tuple rs =>
                by_cases r4 : (4 : Int) < (rs.length : Int)
                · have d4 : decide (rs.length ≤ 4) = false := by simp; omega
                  simp [runFn, F_stands, isShopB, rulesB, l1, l2, d1, d2, q1, allB_bools, ga, gb, r4, d4]
                · have d4 : decide (rs.length ≤ 4) = true := by simp; omega
                  have cr := fun x (hx : x ∈ rs) => c_is_rule (wf := wf) (n := n) (v := x) (count := goods.length) h.int h.most h.rule (ndn_nd (ndn_tup nr x hx)) (ndn_ndA (k := 0) (ndn_tup nr x hx))
                  have q2 := lc_seq (Γ := ⟨callN Δ wf (n + 3)⟩) (elt := .call "is_rule" [.v (.blt "len" [.v (.var 1)]), .v (.var 3)]) (i := 3) (it := .seq (.v (.var 2))) (ifs := []) (e := [some (.val (.tuple [.tuple goods, .tuple rs])), some (.val (.tuple goods)), some (.val (.tuple rs)), none]) (os := [.w (.tuple rs)]) (ws := [.tuple rs]) (items := rs) (g := fun x => some (.bool (isRuleB goods.length x)))
                    (by simp) (.inl rfl) (by simp) (by omega) (fun x hx => by simp [callR, cr x hx])
                  rw [fm_some] at q2
                  cases ra : rs.all (isRuleB goods.length) with
                  | false =>
                    have rb : rs.all (id ∘ isRuleB goods.length) = false := ra
                    simp [runFn, F_stands, isShopB, rulesB, l1, l2, d1, d2, q1, allB_bools, ga, gb, r4, d4, q2, ra, rb]
                  | true =>
                    have rb : rs.all (id ∘ isRuleB goods.length) = true := ra
                    have q3 := lc_seq (Γ := ⟨callN Δ wf (n + 3)⟩) (elt := .var 3) (i := 3) (it := .seq (.v (.var 2))) (ifs := [.and (.cmp .Eq (.v (.idx (.v (.var 3)) (.con (.int 0)))) (.v (.con (.str "each")))) (.cmp .Is (.v (.idx (.v (.var 3)) (.con (.int 3)))) (.v (.con (.none))))]) (e := [some (.val (.tuple [.tuple goods, .tuple rs])), some (.val (.tuple goods)), some (.val (.tuple rs)), none]) (os := [.w (.tuple rs)]) (ws := [.tuple rs]) (items := rs) (g := fun x => if isOpenB x then some x else none)
                      (by simp) (.inl rfl) (by simp) (by omega) (fun x hx => by
                        have := rule_open (List.all_eq_true.mp ra x hx) (Γ := ⟨callN Δ wf (n + 3)⟩) (a := some (.val (.tuple [.tuple goods, .tuple rs]))) (b := some (.val (.tuple goods))) (d := some (.val (.tuple rs)))
                        simp only [List.set_cons_succ, List.set_cons_zero, evIfs_one, this, bind_okE, k_b]
                        cases isOpenB x <;> simp)
                    rw [fm_if] at q3
                    simp [runFn, F_stands, isShopB, rulesB, l1, l2, d1, d2, q1, allB_bools, ga, gb, r4, d4, q2, ra, rb, q3]
                    exact ⟨fun h => by exact_mod_cast h, fun h => by exact_mod_cast h⟩
              | dict => simp [ndn, nd] at nr
              | _ => simp [runFn, F_stands, isShopB, rulesB, l1, l2, d1, d2, q1, allB_bools, ga, gb]
          · have d2 : decide (goods.length ≤ 2) = false := by simp; omega
            simp [runFn, F_stands, isShopB, l1, l2, d2]
        · have d1 : decide (1 ≤ goods.length) = false := decide_eq_false (by omega)
          simp [runFn, F_stands, isShopB, l1, d1]
      | dict => simp [ndn, nd] at ng
      | _ => simp [runFn, F_stands, isShopB]
  | dict => simp [ndn, nd] at hv
  | _ => simp [runFn, F_stands, isShopB]
theorem c_is_shop {v : W} (h : Isp Δ) (hv : ndn 4 v = true) (hl : ∀ xs ys, v = .tuple [.tuple xs, .tuple ys] → xs.length ≤ 100000 ∧ ys.length ≤ 100000) :
    callN Δ wf (n + 5) "is_shop" [.val v] = .ok (.s (.val (.bool (isShopB v)))) [] := by
  rw [call_in h.shop]
  simp [runFn, F_is_shop, callR, c_stands h hv hl]
/-! ### the drawn shops stand -/
theorem gd_good {g : Int × Int} (h : gdOk g) : isGoodB (gdW g) = true := by
  obtain ⟨⟨h1, h2⟩, h3, h4⟩ := h
  simp [isGoodB, gdW]
  omega
theorem rl_rule {c : Int} {r : Rl} (h : r.ok c) : isRuleB c r.w = true := by
  have mo : ∀ {m : Option Int}, mostOk m → isMostB (opW m) = true := fun {m} hm => by
    rcases hm with rfl | rfl | rfl <;> decide
  cases r with
  | pack g s p m =>
    obtain ⟨h1, h2, h3, h4⟩ := h
    simp [Rl.w, isRuleB, mo h4]
    omega
  | frm g t p =>
    obtain ⟨h1, h2, h3, h4⟩ := h
    simp [Rl.w, isRuleB]
    omega
  | over w d =>
    obtain ⟨h1, h2, h3, h4⟩ := h
    have h5 : d ≤ min6 w := by
      unfold min6
      by_cases hw : w < 6
      · rw [if_pos hw]; exact h4
      · rw [if_neg hw]; exact h3
    simp [Rl.w, isRuleB, h1, h2, h5]
  | each w k m =>
    obtain ⟨h1, h2, h3, h4⟩ := h
    simp [Rl.w, isRuleB, mo h3, h1, h2, h4]
theorem rl_open {r : Rl} : isOpenB r.w = r.open_ := by
  cases r with
  | each w k m => cases m <;> simp [Rl.w, isOpenB, Rl.open_]
  | _ => simp [Rl.w, isOpenB, Rl.open_]
theorem rules_ok {c : Int} {rs : List Rl} (h1 : rs.length ≤ 4) (h2 : ∀ r ∈ rs, r.ok c) (h3 : openN rs ≤ 1) : rulesB c (.tuple (rs.map Rl.w)) = true := by
  have a1 : (rs.map Rl.w).all (isRuleB c) = true := by
    rw [List.all_map, List.all_eq_true]
    exact fun r hr => rl_rule (h2 r hr)
  have a2 : ((rs.map Rl.w).filter isOpenB).length ≤ 1 := by
    rw [List.filter_map, List.length_map]
    have : (isOpenB ∘ Rl.w) = Rl.open_ := funext fun r => rl_open
    rw [this]
    exact h3
  simp [rulesB, a1, a2, h1]
theorem shop_ok {gs : List (Int × Int)} {rs : List Rl} (h : ShOk gs rs) : isShopB (shW gs rs) = true := by
  have a1 : (gs.map gdW).all isGoodB = true := by
    rw [List.all_map, List.all_eq_true]
    exact fun r hr => gd_good (h.gok r hr)
  have a2 := rules_ok h.rl h.rok h.opn
  have d1 : decide (1 ≤ gs.length) = true := decide_eq_true (by have := h.gl; omega)
  have d2 : decide (gs.length ≤ 2) = true := decide_eq_true (by have := h.gl; omega)
  simp only [isShopB, shW, List.length_map, a1, a2, d1, d2]
  rfl
@[simp] theorem ndn_gd {g : Int × Int} {k : Nat} : ndn k (gdW g) = true := by
  cases k with
  | zero => rfl
  | succ k => simp [gdW]
@[simp] theorem ndn_rl {r : Rl} {k : Nat} : ndn k r.w = true := by
  cases k with
  | zero => rfl
  | succ k => cases r <;> simp [Rl.w]
theorem ndn_sh {gs : List (Int × Int)} {rs : List Rl} : ndn 4 (shW gs rs) = true := by
  simp [shW]
end
end D

namespace D
open PySem L2
/-! ## ends well -/
def Res.W {α : Type} (r : Res α) (Q : α → SEnv → Prop) : Prop := ∃ a e, r = .ok a e ∧ Q a e
@[simp] theorem W_ok {α : Type} {a : α} {e : SEnv} {Q : α → SEnv → Prop} : (Res.ok a e).W Q = Q a e := by
  apply propext
  constructor
  · rintro ⟨a', e', h, q⟩
    cases h
    exact q
  · exact fun q => ⟨_, _, rfl, q⟩
theorem W_bind {α β : Type} {r : Res α} {f : α → SEnv → Res β} {Q : β → SEnv → Prop} : (r.bind f).W Q = r.W (fun a e => (f a e).W Q) := by
  apply propext
  cases r with
  | ok a e => simp
  | exc c e =>
    constructor
    · rintro ⟨a', e', h, q⟩; cases h
    · rintro ⟨a', e', h, q⟩; cases h
  | bad =>
    constructor
    · rintro ⟨a', e', h, q⟩; cases h
    · rintro ⟨a', e', h, q⟩; cases h
/-- what is asked behind a step, by name -/
def bindQ {α β : Type} (f : α → SEnv → Res β) (Q : β → SEnv → Prop) (a : α) (e : SEnv) : Prop := (f a e).W Q
@[simp] theorem W_bindQ {α β : Type} {r : Res α} {f : α → SEnv → Res β} {Q : β → SEnv → Prop} : (r.bind f).W Q = r.W (bindQ f Q) := W_bind
@[simp] theorem bindQ_eq {α β : Type} {f : α → SEnv → Res β} {Q : β → SEnv → Prop} {a : α} {e : SEnv} : bindQ f Q a e = (f a e).W Q := id rfl
theorem Res.W.mono {α : Type} {r : Res α} {Q Q' : α → SEnv → Prop} (h : r.W Q) (f : ∀ a e, Q a e → Q' a e) : r.W Q' := by
  obtain ⟨a, e, h, q⟩ := h
  exact ⟨a, e, h, f a e q⟩
/-- what a block that ends gives back -/
def flRV : Fl → RV
  | .nx => .s (.val .none)
  | .rt r => r
@[simp] theorem flRV_n : flRV .nx = .s (.val .none) := id rfl
@[simp] theorem flRV_r {r : RV} : flRV (.rt r) = r := id rfl
section
variable {Δ : Str → Option Fn} {wf n : Nat}
theorem call_W {f : Str} {fn : Fn} {ss : List Slot} {Q : RV → List (List W) → Prop} (h : Δ f = some fn) (hl : ss.length = fn.np)
    (w : (evSs ⟨callN Δ wf n⟩ wf fn.body (ss.map some ++ List.replicate (fn.nn - fn.np) none)).W fun fl e => ∃ outs, outsOf ss e = some outs ∧ Q (flRV fl) outs) :
    ∃ r outs, callN Δ wf (n + 1) f ss = .ok r outs ∧ Q r outs := by
  obtain ⟨fl, e, h1, outs, h2, q⟩ := w
  refine ⟨flRV fl, outs, ?_, q⟩
  rw [call_in h]
  unfold runFn
  rw [if_pos hl, h1]
  simp only [h2]
  cases fl <;> rfl
/-- the same, the result told -/
theorem call_E {f : Str} {fn : Fn} {ss : List Slot} {r : RV} {outs : List (List W)} (h : Δ f = some fn) (hl : ss.length = fn.np)
    (w : (evSs ⟨callN Δ wf n⟩ wf fn.body (ss.map some ++ List.replicate (fn.nn - fn.np) none)).W fun fl e => outsOf ss e = some outs ∧ flRV fl = r) :
    callN Δ wf (n + 1) f ss = .ok r outs := by
  obtain ⟨r', outs', h1, h2, h3⟩ := call_W (Δ := Δ) (wf := wf) (n := n) (Q := fun r' outs' => r' = r ∧ outs' = outs) h hl (w.mono fun fl e q => ⟨outs, q.1, q.2, rfl⟩)
  rw [h1, h2, h3]
end
/-! ### loops -/
theorem W_fr {α : Type} {L : List α} {f : α → W} {items : List W} {body : SEnv → Res Fl} {tg : Tg} {watch : SEnv → Prop} {e : SEnv} {Q : Fl → SEnv → Prop} (I : List α → SEnv → Prop) (hit : items = L.map f) (h0 : I [] e)
    (hs : ∀ done x rest e, L = done ++ x :: rest → I done e → watch e ∧ ∃ e1, setTg tg (f x) e = some e1 ∧ (body e1).W fun fl e2 => match fl with | .nx => I (done ++ [x]) e2 | .rt r => Q (.rt r) e2)
    (hend : ∀ e, I L e → watch e ∧ Q .nx e) : (frLoop body tg watch items e).W Q := by
  subst hit
  have key : ∀ (rest done : List α) (e : SEnv), L = done ++ rest → I done e → (frLoop body tg watch (rest.map f) e).W Q := by
    intro rest
    induction rest with
    | nil =>
      intro done e hL hI
      rw [List.append_nil] at hL
      subst hL
      obtain ⟨h1, h2⟩ := hend e hI
      rw [List.map_nil, fr_nil h1, W_ok]
      exact h2
    | cons x rest ih =>
      intro done e hL hI
      obtain ⟨h1, e1, h2, h3⟩ := hs done x rest e hL hI
      rw [List.map_cons, fr_cons h1, h2]
      simp only [W_bind]
      refine h3.mono fun fl e2 q => ?_
      cases fl with
      | nx => exact ih (done ++ [x]) e2 (by rw [hL]; simp) q
      | rt r =>
        simp only [k_frR, W_ok]
        exact q
  exact key L [] e rfl h0
/-- a comprehension, of a state that goes with it -/
theorem W_lcLoop {α : Type} {L : List α} {f : α → W} {body : SEnv → Res (Option W)} {tg : Tg} {own : List Nat} {watch : SEnv → Prop} {e : SEnv} {Q : List W → SEnv → Prop} (I : List α → List W → SEnv → Prop) (h0 : I [] [] e) (hl : L.length < sizeLine)
    (hs : ∀ done x rest acc e, L = done ++ x :: rest → I done acc e → watch e ∧ ∃ e1, setTg tg (f x) e = some e1 ∧ (body e1).W fun o e2 => I (done ++ [x]) (match o with | some y => acc ++ [y] | none => acc) (wipeE e2 own))
    (hend : ∀ acc e, I L acc e → watch e ∧ Q acc e) : (lcLoop body tg own watch (L.map f) e []).W Q := by
  have key : ∀ (rest done : List α) (acc : List W) (e : SEnv), L = done ++ rest → acc.length ≤ done.length → I done acc e → (lcLoop body tg own watch (rest.map f) e acc).W Q := by
    intro rest
    induction rest with
    | nil =>
      intro done acc e hL hla hI
      rw [List.append_nil] at hL
      subst hL
      obtain ⟨h1, h2⟩ := hend acc e hI
      rw [List.map_nil, lc_nil h1, W_ok]
      exact h2
    | cons x rest ih =>
      intro done acc e hL hla hI
      obtain ⟨h1, e1, h2, h3⟩ := hs done x rest acc e hL hI
      have hlen : done.length < sizeLine := by rw [hL] at hl; simp at hl; omega
      rw [List.map_cons, lc_cons h1, h2]
      simp only [W_bind]
      refine h3.mono fun o e2 q => ?_
      cases o with
      | none =>
        rw [k_lcN]
        exact ih (done ++ [x]) acc _ (by rw [hL]; simp) (by simp; omega) q
      | some y =>
        rw [k_lcS, if_pos (by omega)]
        exact ih (done ++ [x]) (acc ++ [y]) _ (by rw [hL]; simp) (by simp; omega) q
  exact key L [] [] e rfl (Nat.le_refl 0) h0
theorem W_kLc {Γ : Gam} {α : Type} {L : List α} {f : α → W} {elt : E} {ifs : List E} {tg : Tg} {own : List Nat} {os : List Opd} {ws items : List W} {e : SEnv} {Q : RV → SEnv → Prop} (I : List α → List W → SEnv → Prop) (hit : items = L.map f) (hl : L.length < sizeLine) (h0 : I [] [] (wipeE e own))
    (hs : ∀ done x rest acc e, L = done ++ x :: rest → I done acc e → watchOf os ws e ∧ ∃ e1, setTg tg (f x) e = some e1 ∧ (lcBody Γ elt ifs e1).W fun o e2 => I (done ++ [x]) (match o with | some y => acc ++ [y] | none => acc) (wipeE e2 own))
    (hend : ∀ acc e2, I L acc e2 → watchOf os ws e2 ∧ Q (.s (.own false acc)) (backE e e2 own)) : (kLc Γ elt tg ifs own (os, ws, items) e).W Q := by
  subst hit
  obtain ⟨ys, e2, h1, h2⟩ := W_lcLoop (Q := fun ys e2 => Q (.s (.own false ys)) (backE e e2 own)) (watch := watchOf os ws) (tg := tg) (own := own) (f := f) (body := lcBody Γ elt ifs) I h0 hl hs hend
  rw [k_lc h1, W_ok]
  exact h2
/-- a comprehension that changes nothing -/
theorem kLc_pure {Γ : Gam} {α : Type} {L : List α} {f : α → W} {g : α → Option W} {elt : E} {ifs : List E} {tg : Tg} {own : List Nat} {os : List Opd} {ws items : List W} {e : SEnv} (hit : items = L.map f) (hl : L.length < sizeLine) (hw : getAll (wipeE e own) os = some ws)
    (hs : ∀ x ∈ L, ∃ e1, setTg tg (f x) (wipeE e own) = some e1 ∧ lcBody Γ elt ifs e1 = .ok (g x) e1 ∧ wipeE e1 own = wipeE e own) (hb : backE e (wipeE e own) own = e) :
    kLc Γ elt tg ifs own (os, ws, items) e = .ok (.s (.own false (L.filterMap g))) e := by
  subst hit
  have key : ∀ (rest : List α) (acc : List W), (∀ x ∈ rest, x ∈ L) → acc.length + rest.length ≤ L.length → lcLoop (lcBody Γ elt ifs) tg own (watchOf os ws) (rest.map f) (wipeE e own) acc = .ok (acc ++ rest.filterMap g) (wipeE e own) := by
    intro rest
    induction rest with
    | nil =>
      intro acc _ _
      rw [List.map_nil, lc_nil hw]
      simp
    | cons x rest ih =>
      intro acc hm hla
      obtain ⟨e1, h1, h2, h3⟩ := hs x (hm x List.mem_cons_self)
      simp only [List.length_cons] at hla
      rw [List.map_cons, lc_cons hw, h1]
      simp only [h2, bind_okE]
      cases hg : g x with
      | none =>
        rw [k_lcN, h3, ih acc (fun y hy => hm y (List.mem_cons_of_mem _ hy)) (by omega), List.filterMap_cons_none hg]
      | some y =>
        rw [k_lcS, if_pos (by omega), h3, ih (acc ++ [y]) (fun y hy => hm y (List.mem_cons_of_mem _ hy)) (by simp; omega), List.filterMap_cons_some hg, List.append_assoc]
        rfl
  have := key L [] (fun _ h => h) (by simp)
  rw [k_lc this, List.nil_append, hb]
/-- a comprehension that changes nothing, all items kept -/
theorem kLc_map {Γ : Gam} {α : Type} {L : List α} {f : α → W} {g : α → W} {elt : E} {ifs : List E} {tg : Tg} {own : List Nat} {os : List Opd} {ws items : List W} {e : SEnv} (hit : items = L.map f) (hl : L.length < sizeLine) (hw : getAll (wipeE e own) os = some ws)
    (hs : ∀ x ∈ L, ∃ e1, setTg tg (f x) (wipeE e own) = some e1 ∧ lcBody Γ elt ifs e1 = .ok (some (g x)) e1 ∧ wipeE e1 own = wipeE e own) (hb : backE e (wipeE e own) own = e) :
    kLc Γ elt tg ifs own (os, ws, items) e = .ok (.s (.own false (L.map g))) e := by
  rw [kLc_pure (g := fun x => some (g x)) hit hl hw hs hb, fm_some]
/-- while, by a measure -/
theorem W_wh {test : SEnv → Res Bool} {body : SEnv → Res Fl} {wf : Nat} {e : SEnv} {Q : Fl → SEnv → Prop} (I : Nat → SEnv → Prop) {k : Nat} (hk : k < wf) (h0 : I k e)
    (hs : ∀ k e, I k e → (test e).W fun b e1 => if b then (0 < k ∧ (body e1).W fun fl e2 => match fl with | .nx => I (k - 1) e2 | .rt r => Q (.rt r) e2) else Q .nx e1) : (whLoop test body wf e).W Q := by
  induction wf generalizing k e with
  | zero => omega
  | succ wf ih =>
    unfold whLoop
    rw [W_bind]
    refine (hs k e h0).mono fun b e1 q => ?_
    cases b with
    | false => simpa using q
    | true =>
      simp only [if_true] at q ⊢
      rw [W_bind]
      refine q.2.mono fun fl e2 q2 => ?_
      cases fl with
      | nx => exact ih (k := k - 1) (by omega) q2
      | rt r => simpa using q2
/-! ### by truth values -/
section
variable {Γ : Gam} {e : SEnv} {wf : Nat}
theorem W_ite {a b : List S} {c : Bool} {Q : Fl → SEnv → Prop} : (kIte Γ wf a b (.s (.val (.bool c))) e).W Q = if c then (evSs Γ wf a e).W Q else (evSs Γ wf b e).W Q := by
  cases c <;> rfl
end
end D

namespace D
open PySem L2
/-! ## loops over numbered items -/
theorem W_frX {α : Type} {L : List α} {f : Nat → α → W} {items : List W} {body : SEnv → Res Fl} {tg : Tg} {watch : SEnv → Prop} {e : SEnv} {Q : Fl → SEnv → Prop} (I : List α → SEnv → Prop) (hit : items = L.mapIdx f) (h0 : I [] e)
    (hs : ∀ done x rest e, L = done ++ x :: rest → I done e → watch e ∧ ∃ e1, setTg tg (f done.length x) e = some e1 ∧ (body e1).W fun fl e2 => match fl with | .nx => I (done ++ [x]) e2 | .rt r => Q (.rt r) e2)
    (hend : ∀ e, I L e → watch e ∧ Q .nx e) : (frLoop body tg watch items e).W Q := by
  subst hit
  have key : ∀ (rest done : List α) (e : SEnv), L = done ++ rest → I done e → (frLoop body tg watch (rest.mapIdx fun i x => f (done.length + i) x) e).W Q := by
    intro rest
    induction rest with
    | nil =>
      intro done e hL hI
      rw [List.append_nil] at hL
      subst hL
      obtain ⟨h1, h2⟩ := hend e hI
      rw [List.mapIdx_nil, fr_nil h1, W_ok]
      exact h2
    | cons x rest ih =>
      intro done e hL hI
      obtain ⟨h1, e1, h2, h3⟩ := hs done x rest e hL hI
      rw [List.mapIdx_cons, fr_cons h1]
      simp only [Nat.add_zero, h2, W_bind]
      refine h3.mono fun fl e2 q => ?_
      cases fl with
      | nx =>
        have := ih (done ++ [x]) e2 (by rw [hL]; simp) q
        simp only [List.length_append, List.length_cons, List.length_nil, Nat.zero_add] at this
        rw [k_frN]
        have e : (fun i x => f (done.length + (i + 1)) x) = (fun i x => f (done.length + 1 + i) x) := by
          funext i x
          rw [Nat.add_assoc, Nat.add_comm 1 i]
        rw [e]
        exact this
      | rt r =>
        simp only [k_frR, W_ok]
        exact q
  have := key L [] e rfl h0
  simpa using this
theorem enumW_map {α : Type} {f : α → W} (L : List α) : enumW (L.map f) = L.mapIdx fun i x => .tuple [.int i, f x] := by
  apply List.ext_getElem
  · simp [enumW]
  · intro i h1 h2
    simp [enumW]
/-! ## charges, plainly -/
def taken (t s : Int) : Option Int → Int
  | none => t / s
  | some k => if k < t / s then k else t / s
def fitR (g c : Int) : Rl → Bool
  | .pack g' s _ _ => decide (g' = g) && decide (s ≤ c)
  | .frm g' t _ => decide (g' = g) && decide (t ≤ c)
  | _ => false
@[simp] theorem fitR_p {g c g' s p : Int} {m : Option Int} : fitR g c (.pack g' s p m) = (decide (g' = g) && decide (s ≤ c)) := id rfl
@[simp] theorem fitR_f {g c g' s p : Int} : fitR g c (.frm g' s p) = (decide (g' = g) && decide (s ≤ c)) := id rfl
@[simp] theorem fitR_o {g c w d : Int} : fitR g c (.over w d) = false := id rfl
@[simp] theorem fitR_e {g c w d : Int} {m : Option Int} : fitR g c (.each w d m) = false := id rfl
def ruleIx (rs : List Rl) (g c : Int) : Option Nat := rs.findIdx? (fitR g c)
def amountV (pr : Int) (rs : List Rl) (g c : Int) : Int := match rs.find? (fitR g c) with
  | some (.frm _ _ p) => c * p
  | some (.pack _ s p m) => taken c s m * p + (c - taken c s m * s) * pr
  | _ => c * pr
/-- how often a rule on sums takes its off away -/
def takes (t : Int) : Rl → Int
  | .over w _ => if w ≤ t then 1 else 0
  | .each w _ m => taken t w m
  | _ => 0
def offR : Rl → Int
  | .over _ d => d
  | .each _ k _ => k
  | _ => 0
def leftR (t : Int) (r : Rl) : Int := t - (if 0 < takes t r then takes t r * offR r else 0)
def takV : List Rl → Int → List Int × Int
  | [], t => ([], t)
  | r :: rs, t => (takes t r :: (takV rs (leftR t r)).1, (takV rs (leftR t r)).2)
def priceAt (gs : List (Int × Int)) (i : Nat) : Int := (gs[i]?.getD (0, 0)).1
def amtL (gs : List (Int × Int)) (rs : List Rl) (b : List Int) : List Int := b.mapIdx fun i c => amountV (priceAt gs i) rs i c
def chargeV (gs : List (Int × Int)) (rs : List Rl) (b : List Int) : Int := (takV rs (amtL gs rs b).sum).2
def opN : Option Nat → W
  | none => .none
  | some i => .int i
@[simp] theorem opN_n : opN none = .none := id rfl
@[simp] theorem opN_s {i : Nat} : opN (some i) = .int i := id rfl
@[simp] theorem in_pf_p : cmpop .In (.str "pack") (.tuple [.str "pack", .str "from"]) = some true := by decide +kernel
@[simp] theorem in_pf_f : cmpop .In (.str "from") (.tuple [.str "pack", .str "from"]) = some true := by decide +kernel
@[simp] theorem in_pf_o : cmpop .In (.str "over") (.tuple [.str "pack", .str "from"]) = some false := by decide +kernel
@[simp] theorem in_pf_e : cmpop .In (.str "each") (.tuple [.str "pack", .str "from"]) = some false := by decide +kernel
@[simp] theorem setTg_two {i j : Nat} {a b : W} {e : SEnv} : setTg (.many [i, j]) (.tuple [a, b]) e = if i < e.length ∧ j < e.length then some ((e.set i (some (.val a))).set j (some (.val b))) else none := by
  unfold setTg
  simp
section
variable {Γ : Gam} {e : SEnv} {wf : Nat}
@[simp] theorem k_and' {b : E} {c : Bool} : kAnd Γ b (.s (.val (.bool c))) e = if c then (evE Γ b e).bind kTl else .ok (.s (.val (.bool false))) e := by cases c <;> rfl
@[simp] theorem k_or' {b : E} {c : Bool} : kOr Γ b (.s (.val (.bool c))) e = if c then .ok (.s (.val (.bool true))) e else (evE Γ b e).bind kTl := by cases c <;> rfl
@[simp] theorem k_ife' {a b : E} {c : Bool} : kIfe Γ a b (.s (.val (.bool c))) e = if c then evE Γ a e else evE Γ b e := by cases c <;> rfl
@[simp] theorem k_ite' {a b : List S} {c : Bool} : kIte Γ wf a b (.s (.val (.bool c))) e = if c then evSs Γ wf a e else evSs Γ wf b e := by cases c <;> rfl
@[simp] theorem k_chn' {o2 : CmpOp} {c : E} {y : RV} {t : Bool} : kChnB Γ o2 c y t e = if t then (evE Γ c e).bind (kChn3 o2 y) else .ok (.s (.val (.bool false))) e := by cases t <;> rfl
@[simp] theorem W_if {α : Type} {p : Prop} [Decidable p] {x y : Res α} {Q : α → SEnv → Prop} : (if p then x else y).W Q = if p then x.W Q else y.W Q := by split <;> rfl
end
section
variable {wf n : Nat}
theorem c_taken {t s : Int} {m : Option Int} (h1 : 0 < s) (h2 : s < 1000) : callN Δ0 wf (n + 1) "taken_times" [.val (.int t), .val (.int s), .val (opW m)] = .ok (.s (.val (.int (taken t s m)))) [] := by
  rw [call_in u_taken_times]
  have d := div_ok (i := t) h1 (by omega : s < 1073741824)
  cases m <;> simp [runFn, F_taken_times, d, taken]
theorem ruleIx_some {rs done rest : List Rl} {r : Rl} {g c : Int} (h : rs = done ++ r :: rest) (hd : ∀ r ∈ done, fitR g c r = false) (hr : fitR g c r = true) : ruleIx rs g c = some done.length := by
  subst h
  unfold ruleIx
  rw [List.findIdx?_append, List.findIdx?_eq_none_iff.mpr (by simpa using hd)]
  simp [List.findIdx?_cons, hr]
theorem ruleIx_none {rs : List Rl} {g c : Int} (hd : ∀ r ∈ rs, fitR g c r = false) : ruleIx rs g c = none := by
  unfold ruleIx
  exact List.findIdx?_eq_none_iff.mpr (by simpa using hd)
theorem c_rule_for {G : W} {rs : List Rl} {g c : Int} : callN Δ0 wf (n + 1) "rule_for" [.val (.tuple [G, .tuple (rs.map Rl.w)]), .val (.int g), .val (.int c)] = .ok (.s (.val (opN (ruleIx rs g c)))) [] := by
  refine call_E u_rule_for rfl ?_
  simp [F_rule_for, enumW_map]
  refine W_frX (L := rs) (f := fun i r => .tuple [.int i, r.w]) (fun done e => (∃ a b, e = [some (.val (.tuple [G, .tuple (rs.map Rl.w)])), some (.val (.int g)), some (.val (.int c)), a, b]) ∧ ∀ r ∈ done, fitR g c r = false) rfl ⟨⟨_, _, rfl⟩, by simp⟩ ?_ ?_
  · rintro done r rest e hL ⟨⟨a, b, rfl⟩, hd⟩
    refine ⟨by simp [watchOf], ?_⟩
    have key : fitR g c r = true → ruleIx rs g c = some done.length := ruleIx_some hL hd
    have key2 : fitR g c r = false → ∀ r', r' ∈ done ∨ r' = r → fitR g c r' = false := fun h r' hr => by
      rcases hr with hr | rfl
      · exact hd r' hr
      · exact h
    cases r with
    | pack g' s p m =>
      simp [Rl.w] at key key2 ⊢
      split
      · split
        · rename_i h1 h2
          simp [key h1 h2]
        · apply key2; intro; omega
      · apply key2; intro; contradiction
    | frm g' s p =>
      simp [Rl.w] at key key2 ⊢
      split
      · split
        · rename_i h1 h2
          simp [key h1 h2]
        · apply key2; intro; omega
      · apply key2; intro; contradiction
    | over w d => simpa [Rl.w] using key2
    | each w k m => simpa [Rl.w] using key2
  · rintro e ⟨⟨a, b, rfl⟩, hd⟩
    simp [watchOf, ruleIx_none hd]
end
end D

namespace D
open PySem L2
theorem kLc_mapX {Γ : Gam} {α : Type} {L : List α} {f : Nat → α → W} {g : Nat → α → W} {elt : E} {ifs : List E} {tg : Tg} {own : List Nat} {os : List Opd} {ws items : List W} {e : SEnv} (hit : items = L.mapIdx f) (hl : L.length < sizeLine) (hw : getAll (wipeE e own) os = some ws)
    (hs : ∀ i x, L[i]? = some x → ∃ e1, setTg tg (f i x) (wipeE e own) = some e1 ∧ lcBody Γ elt ifs e1 = .ok (some (g i x)) e1 ∧ wipeE e1 own = wipeE e own) (hb : backE e (wipeE e own) own = e) :
    kLc Γ elt tg ifs own (os, ws, items) e = .ok (.s (.own false (L.mapIdx g))) e := by
  rw [List.mapIdx_eq_zipIdx_map] at hit ⊢
  refine kLc_map (f := fun p : α × Nat => f p.2 p.1) hit (by simpa using hl) hw (fun p hp => ?_) hb
  exact hs p.2 p.1 (by simpa using List.mem_zipIdx_iff_getElem?.mp hp)
/-- a number of a machine word -/
def Sm (i : Int) : Prop := -(2 ^ 64) < i ∧ i < 2 ^ 64
theorem mulR {i j : Int} (h : Sm j) : binop .Mult (.int i) (.int j) = some (.s (.val (.int (i * j)))) := mul_ok (mulOk_r h.1 h.2)
theorem mulL {i j : Int} (h : Sm i) : binop .Mult (.int i) (.int j) = some (.s (.val (.int (i * j)))) := mul_ok (mulOk_l h.1 h.2)
theorem ruleIx_cases (rs : List Rl) (g c : Int) : (ruleIx rs g c = none ∧ rs.find? (fitR g c) = none) ∨ ∃ i r, ruleIx rs g c = some i ∧ rs[i]? = some r ∧ fitR g c r = true ∧ rs.find? (fitR g c) = some r := by
  unfold ruleIx
  induction rs with
  | nil => exact .inl ⟨rfl, rfl⟩
  | cons a rs ih =>
    cases h : fitR g c a with
    | true => exact .inr ⟨0, a, by simp [List.findIdx?_cons, h], by simp, h, by simp [List.find?_cons, h]⟩
    | false =>
      rcases ih with ⟨h1, h2⟩ | ⟨i, r, h1, h2, h3, h4⟩
      · exact .inl ⟨by simp [List.findIdx?_cons, h, h1], by simp [List.find?_cons, h, h2]⟩
      · exact .inr ⟨i + 1, r, by simp [List.findIdx?_cons, h, h1], by simpa using h2, h3, by simp [List.find?_cons, h, h4]⟩
/-- a rule that may be run -/
def Rl.run : Rl → Prop
  | .pack _ s p m => (1 ≤ s ∧ s ≤ 100) ∧ Sm p ∧ 0 ≤ p ∧ ∀ j, m = some j → 0 ≤ j
  | .frm _ _ p => Sm p ∧ 0 ≤ p
  | .over w d => Sm d ∧ 0 ≤ d ∧ d ≤ w
  | .each w k m => (1 ≤ w ∧ w ≤ 100) ∧ Sm k ∧ (0 ≤ k ∧ k ≤ w) ∧ ∀ j, m = some j → 0 ≤ j
theorem mostOk.nn {m : Option Int} (h : mostOk m) : ∀ j, m = some j → 0 ≤ j := by
  rintro j rfl
  rcases h with h | h | h
  · cases h
  · cases h; decide
  · cases h; decide
theorem Rl.ok.run {c : Int} {r : Rl} (h : r.ok c) : r.run := by
  cases r with
  | pack g s p m => obtain ⟨_, _, _, h4⟩ := h; exact ⟨by omega, ⟨by omega, by omega⟩, by omega, h4.nn⟩
  | frm g t p => obtain ⟨_, _, _⟩ := h; exact ⟨⟨by omega, by omega⟩, by omega⟩
  | over w d => obtain ⟨_, _, _⟩ := h; exact ⟨⟨by omega, by omega⟩, by omega, by omega⟩
  | each w k m => obtain ⟨_, _, h4, _⟩ := h; exact ⟨by omega, ⟨by omega, by omega⟩, by omega, h4.nn⟩
theorem taken_nn {t s : Int} {m : Option Int} (h : 0 ≤ t) (hs : 1 ≤ s) (hm : ∀ j, m = some j → 0 ≤ j) : 0 ≤ taken t s m ∧ taken t s m * s ≤ t := by
  have h1 : 0 ≤ t / s := Int.ediv_nonneg h (by omega)
  have h2 : t / s * s ≤ t := Int.ediv_mul_le t (by omega)
  cases m with
  | none => exact ⟨h1, h2⟩
  | some j =>
    have := hm j rfl
    unfold taken
    simp only
    split
    · refine ⟨by omega, Int.le_trans (Int.mul_le_mul_of_nonneg_right (by omega) (by omega)) h2⟩
    · exact ⟨h1, h2⟩
theorem leftR_nn {t : Int} {r : Rl} (h : 0 ≤ t) (hr : r.run) : 0 ≤ leftR t r ∧ leftR t r ≤ t := by
  cases r with
  | pack g s p m => simp [leftR, takes]; exact h
  | frm g s p => simp [leftR, takes]; exact h
  | over w d =>
    obtain ⟨_, h1, h2⟩ := hr
    simp only [leftR, takes, offR]
    by_cases hw : w ≤ t <;> simp [hw] <;> omega
  | each w k m =>
    obtain ⟨h1, _, h2, h3⟩ := hr
    obtain ⟨q1, q2⟩ := taken_nn (s := w) h h1.1 h3
    simp only [leftR, takes, offR]
    have a1 : 0 ≤ taken t w m * k := Int.mul_nonneg q1 h2.1
    have a2 : taken t w m * k ≤ taken t w m * w := Int.mul_le_mul_of_nonneg_left h2.2 q1
    by_cases hq : 0 < taken t w m <;> simp only [hq, if_true, if_false] <;> constructor <;> omega
/-- for a sum of nothing less, the off is taken as often as told -/
theorem leftR_eq {t : Int} {r : Rl} (h : 0 ≤ t) (hr : r.run) : leftR t r = t - takes t r * offR r := by
  have : 0 ≤ takes t r := by
    cases r with
    | pack g s p m => simp [takes]
    | frm g s p => simp [takes]
    | over w d => simp only [takes]; split <;> omega
    | each w k m => exact (taken_nn h hr.1.1 hr.2.2.2).1
  unfold leftR
  split
  · rfl
  · have : takes t r = 0 := by omega
    rw [this]; simp
theorem takV_nn : ∀ {rs : List Rl} {t : Int}, 0 ≤ t → (∀ r ∈ rs, r.run) → 0 ≤ (takV rs t).2 ∧ (takV rs t).2 ≤ t
  | [], t, h, _ => ⟨h, Int.le_refl t⟩
  | r :: rs, t, h, hr => by
    obtain ⟨h1, h2⟩ := leftR_nn h (hr r List.mem_cons_self)
    obtain ⟨h3, h4⟩ := takV_nn (rs := rs) h1 fun x hx => hr x (List.mem_cons_of_mem _ hx)
    exact ⟨h3, Int.le_trans h4 h2⟩
theorem amountV_nn {pr : Int} {rs : List Rl} {g c : Int} (hc : 0 ≤ c) (hp : 0 ≤ pr) (hr : ∀ r ∈ rs, r.run) : 0 ≤ amountV pr rs g c := by
  unfold amountV
  split
  · rename_i h
    exact Int.mul_nonneg hc (hr _ (List.mem_of_find?_eq_some h)).2
  · rename_i s p m h
    obtain ⟨h1, _, h2, h3⟩ := hr _ (List.mem_of_find?_eq_some h)
    obtain ⟨q1, q2⟩ := taken_nn (s := s) (m := m) hc h1.1 h3
    exact Int.add_nonneg (Int.mul_nonneg q1 h2) (Int.mul_nonneg (by omega) hp)
  · exact Int.mul_nonneg hc hp
theorem takV_app : ∀ (xs : List Rl) (r : Rl) (t : Int), takV (xs ++ [r]) t = ((takV xs t).1 ++ [takes (takV xs t).2 r], leftR (takV xs t).2 r)
  | [], r, t => rfl
  | x :: xs, r, t => by
    simp only [List.cons_append, takV]
    rw [takV_app xs r (leftR t x)]
theorem takV_len : ∀ (xs : List Rl) (t : Int), (takV xs t).1.length = xs.length
  | [], t => rfl
  | x :: xs, t => by simp [takV, takV_len xs]
abbrev shT (gs : List (Int × Int)) (rs : List Rl) : W := .tuple [.tuple (gs.map gdW), .tuple (rs.map Rl.w)]
abbrev bkW (b : List Int) : W := .tuple (b.map .int)
section
variable {wf n : Nat} {gs : List (Int × Int)} {rs : List Rl}
theorem c_amount_of {i : Nat} {c : Int} {gd : Int × Int} (hg : gs[i]? = some gd) (hp : Sm gd.1) (hr : ∀ r ∈ rs, r.run) :
    callN Δ0 wf (n + 2) "amount_of" [.val (shT gs rs), .val (.int i), .val (.int c)] = .ok (.s (.val (.int (amountV gd.1 rs i c)))) [] := by
  refine call_E u_amount_of rfl ?_
  have op := fun x => mulR (i := x) hp
  rcases ruleIx_cases rs i c with ⟨h1, h2⟩ | ⟨k, r, h1, h2, h3, h4⟩
  · simp [F_amount_of, callR, c_rule_for, h1, hg, gdW, op, amountV, h2]
  · have hr' := hr r (List.mem_of_getElem? h2)
    cases r with
    | pack g' s p m =>
      obtain ⟨q1, q2, _⟩ := hr'
      have os := fun x => mulR (i := x) (j := s) ⟨by omega, by omega⟩
      have oq := fun x => mulR (i := x) q2
      have ct := fun t => c_taken (wf := wf) (n := n) (t := t) (s := s) (m := m) (by omega) (by omega)
      simp [F_amount_of, callR, c_rule_for, h1, hg, gdW, h2, Rl.w, ct, oq, os, op, amountV, h4]
    | frm g' t p =>
      have oq := fun x => mulR (i := x) hr'.1
      simp [F_amount_of, callR, c_rule_for, h1, hg, gdW, h2, Rl.w, oq, amountV, h4]
    | over w d => cases h3
    | each w k m => cases h3
structure ShRun (gs : List (Int × Int)) (rs : List Rl) : Prop where
  g : ∀ g ∈ gs, Sm g.1 ∧ Sm g.2
  p : ∀ g ∈ gs, 0 ≤ g.1 ∧ 0 ≤ g.2
  r : ∀ r ∈ rs, r.run
theorem ShOk.run (h : ShOk gs rs) : ShRun gs rs := ⟨fun g hg => by
  obtain ⟨⟨_, _⟩, _, _⟩ := h.gok g hg
  exact ⟨⟨by omega, by omega⟩, by omega, by omega⟩, fun g hg => by
  obtain ⟨⟨_, _⟩, _, _⟩ := h.gok g hg
  exact ⟨by omega, by omega⟩, fun r hr => (h.rok r hr).run⟩
theorem sum_nn : ∀ {l : List Int}, (∀ x ∈ l, 0 ≤ x) → 0 ≤ l.sum
  | [], _ => by simp
  | a :: l, h => by
    rw [List.sum_cons]
    exact Int.add_nonneg (h a List.mem_cons_self) (sum_nn fun x hx => h x (List.mem_cons_of_mem _ hx))
theorem amtL_nn {b : List Int} (h : ShRun gs rs) (hl : b.length = gs.length) (hb : ∀ c ∈ b, 0 ≤ c) : 0 ≤ (amtL gs rs b).sum := by
  refine sum_nn fun x hx => ?_
  unfold amtL at hx
  obtain ⟨i, hi, rfl⟩ := List.mem_mapIdx.mp hx
  refine amountV_nn (hb _ (List.getElem_mem hi)) ?_ h.r
  unfold priceAt
  cases q : gs[i]? with
  | none => simp
  | some g => exact (h.p g (List.mem_of_getElem? q)).1
theorem szl (k : Nat) (h : k ≤ 1000000) : k < sizeLine := by have := sizeLine_big; omega
theorem c_amount_list {b : List Int} (hl : b.length = gs.length) (hz : b.length ≤ 1000) (h : ShRun gs rs) :
    callN Δ0 wf (n + 3) "amount_list" [.val (shT gs rs), .val (bkW b)] = .ok (.s (.own false ((amtL gs rs b).map .int))) [] := by
  refine call_E u_amount_list rfl ?_
  simp [F_amount_list, ev_lc, enumW_map]
  rw [kLc_mapX (L := b) (f := fun i c => .tuple [.int i, .int c]) (g := fun i c => .int (amountV (priceAt gs i) rs i c)) rfl (szl _ (by omega)) (by simp) (fun i c hc => ?_) (by simp)]
  · simp [amtL]
    rw [List.mapIdx_eq_zipIdx_map, List.mapIdx_eq_zipIdx_map, List.map_map]
    rfl
  · obtain ⟨gd, hg⟩ : ∃ gd, gs[i]? = some gd := ⟨_, List.getElem?_eq_getElem (by have := (List.getElem?_eq_some_iff.mp hc).1; omega)⟩
    have ca := c_amount_of (wf := wf) (n := n) (c := c) (rs := rs) hg (h.g gd (List.mem_of_getElem? hg)).1 h.r
    simp [callR, ca, priceAt, hg]
theorem c_takings {G : W} {t : Int} (h : ∀ r ∈ rs, r.run) (hz : rs.length ≤ 1000) :
    callN Δ0 wf (n + 2) "takings" [.val (.tuple [G, .tuple (rs.map Rl.w)]), .val (.int t)] = .ok (.t [.own false ((takV rs t).1.map .int), .val (.int (takV rs t).2)]) [] := by
  refine call_E u_takings rfl ?_
  simp [F_takings]
  refine W_fr (L := rs) (f := Rl.w) (fun done e => ∃ a b t', e = [some (.val (.tuple [G, .tuple (rs.map Rl.w)])), some (.val (.int t')), some (.own false (((takV done t).1).map .int)), a, b] ∧ t' = (takV done t).2) rfl ⟨_, _, _, rfl, rfl⟩ ?_ ?_
  · rintro done r rest e hL ⟨a, b, t', rfl, ht⟩
    refine ⟨by simp [watchOf], ?_⟩
    have hr' := h r (by rw [hL]; simp)
    have hlen : done.length < sizeLine := szl _ (by have : rs.length = done.length + (rest.length + 1) := by rw [hL]; simp
                                                    omega)
    rw [takV_app]
    subst ht
    cases r with
    | pack g' s p m => simp [Rl.w, takV_len, hlen, takes, leftR]
    | frm g' s p => simp [Rl.w, takV_len, hlen, takes, leftR]
    | over w d =>
      have od := fun x => mulR (i := x) hr'.1
      by_cases hw : w ≤ (takV done t).2
      · simp [Rl.w, takV_len, hlen, takes, leftR, hw, od, offR]
      · simp [Rl.w, takV_len, hlen, takes, leftR, hw, od, offR]
    | each w k m =>
      obtain ⟨q1, q2, _⟩ := hr'
      have od := fun x => mulR (i := x) q2
      have ct := fun t => c_taken (wf := wf) (n := n) (t := t) (s := w) (m := m) (by omega) (by omega)
      by_cases hw : 0 < taken (takV done t).2 w m
      · simp [Rl.w, takV_len, hlen, takes, leftR, hw, od, ct, callR, offR]
      · simp [Rl.w, takV_len, hlen, takes, leftR, hw, od, ct, callR, offR]
  · rintro e ⟨a, b, t', rfl, ht⟩
    simp [watchOf, ht]
theorem allI_ints (l : List Int) : allI (l.map .int) = some l := by
  have := allI_nums (f := id) l
  simpa using this
theorem c_charge_of {b : List Int} (hl : b.length = gs.length) (hz : b.length ≤ 1000) (hz2 : rs.length ≤ 1000) (h : ShRun gs rs) :
    callN Δ0 wf (n + 4) "charge_of" [.val (shT gs rs), .val (bkW b)] = .ok (.s (.val (.int (chargeV gs rs b)))) [] := by
  refine call_E u_charge_of rfl ?_
  have c1 := c_amount_list (wf := wf) (n := n) hl hz h
  have c2 := fun t => c_takings (wf := wf) (n := n + 1) (G := .tuple (gs.map gdW)) (t := t) h.r hz2
  simp [F_charge_of, callR, c1, c2, allI_ints, chargeV]
def costs (gs : List (Int × Int)) (b : List Int) : Int := ((gs.zip b).map fun p => p.1.2 * p.2).sum
theorem zipW_map {α β : Type} {f : α → W} {g : β → W} : ∀ (xs : List α) (ys : List β), zipW (xs.map f) (ys.map g) = (xs.zip ys).map fun p => .tuple [f p.1, g p.2]
  | [], _ => by simp [zipW]
  | _ :: _, [] => by simp [zipW]
  | x :: xs, y :: ys => by
    have := zipW_map (f := f) (g := g) xs ys
    simp only [zipW] at this ⊢
    simp [this]
theorem c_gain_of {b : List Int} (hl : b.length = gs.length) (hz : b.length ≤ 1000) (hz2 : rs.length ≤ 1000) (h : ShRun gs rs) :
    callN Δ0 wf (n + 5) "gain_of" [.val (shT gs rs), .val (bkW b)] = .ok (.s (.val (.int (chargeV gs rs b - costs gs b)))) [] := by
  refine call_E u_gain_of rfl ?_
  have c1 := c_charge_of (wf := wf) (n := n) hl hz hz2 h
  simp [F_gain_of, callR, c1, ev_lc, zipW_map]
  rw [kLc_map (L := gs.zip b) (f := fun p => .tuple [gdW p.1, .int p.2]) (g := fun p => .int (p.1.2 * p.2)) rfl (szl _ (by simp; omega)) (by simp) (fun p hp => ?_) (by simp)]
  · simp [allI_nums, costs]
  · have hg := h.g p.1 (List.of_mem_zip hp).1
    have od := fun x => mulL (j := x) hg.2
    simp [gdW, od]
theorem cut_to {xs : List W} {i : Nat} : cutW xs none (some (i : Int)) = xs.take i := by
  unfold cutW
  rw [HT.sIx_nat, HT.sIx_none]
  simp [List.take_eq_take_iff]
theorem cut_from {xs : List W} {i : Nat} : cutW xs (some (i : Int)) none = xs.drop i := by
  unfold cutW
  rw [HT.sIx_nat, HT.sIx_none]
  by_cases h : i ≤ xs.length
  · rw [Nat.min_eq_left h, List.take_of_length_le (by simp)]
  · rw [Nat.min_eq_right (by omega), List.drop_of_length_le (by omega), List.drop_of_length_le (by omega)]
    simp
theorem cut_neg {xs : List W} : cutW xs none (some (-1)) = xs.dropLast := by
  unfold cutW HT.sIx
  simp
  rw [List.dropLast_eq_take]
  congr 1
  omega
theorem tup_add {xs ys : List W} (h : xs.length + ys.length ≤ 1000000) : binop .Add (.tuple xs) (.tuple ys) = some (.s (.val (.tuple (xs ++ ys)))) := by
  have : fits (xs.length + ys.length) = true := decide_eq_true (by have := sizeLine_big; omega)
  show (if fits (xs.length + ys.length) then _ else _) = _
  rw [if_pos this]
theorem take_set_drop {b : List Int} {i : Nat} {x c : Int} (hi : b[i]? = some c) : b.take i ++ [x] ++ b.drop (i + 1) = b.set i x := by
  have hl := (List.getElem?_eq_some_iff.mp hi).1
  rw [List.set_eq_take_append_cons_drop, if_pos hl]
  simp
theorem sli_to {xs : List W} {i : Nat} : sliop (.tuple xs) none (some (i : Int)) = some (.s (.val (.tuple (xs.take i)))) := by
  show some (RV.s (.val (.tuple (cutW xs none (some (i : Int)))))) = _
  rw [cut_to]
theorem sli_from {xs : List W} {i : Nat} : sliop (.tuple xs) (some (i : Int)) none = some (.s (.val (.tuple (xs.drop i)))) := by
  show some (RV.s (.val (.tuple (cutW xs (some (i : Int)) none)))) = _
  rw [cut_from]
theorem more_run {i : Nat} {b : List Int} {c k : Int} {Γ : Gam} {body : List S} (hb : body = F_with_more.body) (hi : b[i]? = some c) (hz : b.length ≤ 1000) :
    (evSs Γ wf body [some (.val (bkW b)), some (.val (.int i)), some (.val (.int k))]).W fun fl e => outsOf [.val (bkW b), .val (.int i), .val (.int k)] e = some [] ∧ flRV fl = .s (.val (bkW (b.set i (c + k)))) := by
  subst hb
  have hl := (List.getElem?_eq_some_iff.mp hi).1
  have s1 : sliop (bkW b) none (some (i : Int)) = some (.s (.val (bkW (b.take i)))) := by rw [bkW, sli_to]; simp
  have s2 : sliop (bkW b) (some ((i : Int) + 1)) none = some (.s (.val (bkW (b.drop (i + 1))))) := by
    rw [show (i : Int) + 1 = ((i + 1 : Nat) : Int) by omega, bkW, sli_from]; simp
  have t1 : binop .Add (bkW (b.take i)) (.tuple [.int (c + k)]) = some (.s (.val (bkW (b.take i ++ [c + k])))) := by
    rw [bkW, tup_add (by simp; omega)]; simp
  have t2 : binop .Add (bkW (b.take i ++ [c + k])) (bkW (b.drop (i + 1))) = some (.s (.val (bkW (b.set i (c + k))))) := by
    rw [bkW, bkW, tup_add (by simp; omega), ← List.map_append, take_set_drop hi]
  simp [F_with_more, hi, s1, s2, t1, t2]
theorem c_with_more {i : Nat} {b : List Int} {c k : Int} (hi : b[i]? = some c) (hz : b.length ≤ 1000) :
    callN Δ0 wf (n + 1) "with_more" [.val (bkW b), .val (.int i), .val (.int k)] = .ok (.s (.val (bkW (b.set i (c + k))))) [] := call_E u_with_more rfl (more_run rfl hi hz)
theorem c_law_more {i : Nat} {b : List Int} {c k : Int} (hi : b[i]? = some c) (hz : b.length ≤ 1000) :
    callN Δ0 wf (n + 1) "_law_more" [.val (bkW b), .val (.int i), .val (.int k)] = .ok (.s (.val (bkW (b.set i (c + k))))) [] := call_E u__law_more rfl (more_run rfl hi hz)
/-! ### what is a basket -/
def isBkB (k : Nat) : W → Bool
  | .tuple xs => decide (xs.length = k) && xs.all fun x => isIntB x 0 1000000
  | _ => false
theorem c_bstands {G R v : W} {gs : List W} (hv : nd v = true) (hz : ∀ xs, v = .tuple xs → xs.length ≤ 1000 ∧ ndA xs = true) :
    callN Δ0 wf (n + 2) "basket_stands" [.val (.tuple [.tuple gs, R]), .val v] = .ok (.s (.val (.bool (isBkB gs.length v)))) [] := by
  refine call_E u_basket_stands rfl ?_
  cases v with
  | tuple xs =>
    obtain ⟨h1, h2⟩ := hz xs rfl
    simp [F_basket_stands, ev_lc]
    by_cases hl : xs.length = gs.length
    · simp [hl]
      rw [kLc_map (L := xs) (f := id) (g := fun x => .bool (isIntB x 0 1000000)) (by simp) (szl _ (by omega)) (by simp) (fun x hx => ?_) (by simp)]
      · simp [allB_bools, isBkB, hl]
      · have := c_is_integer (wf := wf) (n := n) (v := x) (lo := 0) (hi := 1000000) u_is_integer
        have hx' : nd x = true := by
          unfold ndA at h2
          exact List.all_eq_true.mp h2 x hx
        rw [rInt_nd hx'] at this
        simp [callR, w_GREATEST, this]
    · have : ¬ ((xs.length : Int) = (gs.length : Int)) := by omega
      simp [this, isBkB, hl]
  | none => simp [F_basket_stands, isBkB]
  | bool b => simp [F_basket_stands, isBkB]
  | int i => simp [F_basket_stands, isBkB]
  | str x => simp [F_basket_stands, isBkB]
  | list xs => simp [F_basket_stands, isBkB]
  | dict kvs => cases hv
theorem isp0 : Isp Δ0 := ⟨u_is_integer, u_is_good, u_is_most, u_is_rule, u_stands, u_is_shop⟩
theorem drs0 : Drs Δ0 := ⟨⟨u__law_cell_at, u__law_mixed, u__law_draw⟩, u__law_pick, u__law_some_goods, u__law_some_rule⟩
/-- a shop, whoever made it -/
structure Shp (gs : List (Int × Int)) (rs : List Rl) : Prop where
  gl : gs.length = 1 ∨ gs.length = 2
  rl : rs.length ≤ 4
  st : isShopB (shT gs rs) = true
  run : ShRun gs rs
theorem ShOk.shp (h : ShOk gs rs) : Shp gs rs := ⟨h.gl, h.rl, shop_ok h, h.run⟩
theorem Shp.glz (h : Shp gs rs) : gs.length ≤ 1000 := by have := h.gl; omega
theorem Shp.rlz (h : Shp gs rs) : rs.length ≤ 1000 := by have := h.rl; omega
theorem c_need_shop (h : Shp gs rs) : callN Δ0 wf (n + 5) "need_shop" [.val (shT gs rs)] = .ok (.s (.val .none)) [] := by
  refine call_E u_need_shop rfl ?_
  have c := c_stands (wf := wf) (n := n) isp0 (ndn_sh (gs := gs) (rs := rs)) (fun xs ys e => by
    have := h.gl; have := h.rl
    cases e
    simp
    omega)
  simp only [shW] at c
  have st := h.st
  simp only [shT] at st
  simp [F_need_shop, callR, c, st]
theorem isBk_ok {b : List Int} {k : Nat} (hl : b.length = k) (hb : ∀ c ∈ b, 0 ≤ c ∧ c ≤ 1000000) : isBkB k (bkW b) = true := by
  simp [isBkB, hl]
  exact fun c hc => hb c hc
/-- a basket of it -/
structure Bk (gs : List (Int × Int)) (b : List Int) : Prop where
  l : b.length = gs.length
  b : ∀ c ∈ b, 0 ≤ c ∧ c ≤ 1000000
theorem ndA_ints {b : List Int} : ndA (b.map .int) = true := by
  unfold ndA
  rw [List.all_map, List.all_eq_true]
  intro x _
  rfl
theorem c_need_basket {b : List Int} (h : Shp gs rs) (hb : Bk gs b) : callN Δ0 wf (n + 6) "need_basket" [.val (shT gs rs), .val (bkW b)] = .ok (.s (.val .none)) [] := by
  refine call_E u_need_basket rfl ?_
  have c1 := c_need_shop (wf := wf) (n := n) h
  have gl := h.gl
  have bl := hb.l
  have c2 := c_bstands (wf := wf) (n := n + 3) (G := .none) (R := .tuple (rs.map Rl.w)) (v := bkW b) (gs := gs.map gdW) rfl (fun xs e => by
    cases e
    exact ⟨by simp; omega, ndA_ints⟩)
  rw [isBk_ok (by simpa using bl) hb.b] at c2
  simp [F_need_basket, callR, c1, c2]
theorem c_amounts {b : List Int} (h : Shp gs rs) (hb : Bk gs b) : callN Δ0 wf (n + 7) "amounts" [.val (shT gs rs), .val (bkW b)] = .ok (.s (.val (bkW (amtL gs rs b)))) [] := by
  refine call_E u_amounts rfl ?_
  have gl := h.gl
  have bl := hb.l
  have c1 := c_need_basket (wf := wf) (n := n) h hb
  have c2 := c_amount_list (wf := wf) (n := n + 3) bl (by omega) h.run
  simp [F_amounts, callR, c1, c2]
theorem c_charge {b : List Int} (h : Shp gs rs) (hb : Bk gs b) : callN Δ0 wf (n + 7) "charge" [.val (shT gs rs), .val (bkW b)] = .ok (.s (.val (.int (chargeV gs rs b)))) [] := by
  refine call_E u_charge rfl ?_
  have gl := h.gl
  have bl := hb.l
  have c1 := c_need_basket (wf := wf) (n := n) h hb
  have c2 := c_charge_of (wf := wf) (n := n + 2) bl (by omega) h.rlz h.run
  simp [F_charge, callR, c1, c2]
theorem c_gain {b : List Int} (h : Shp gs rs) (hb : Bk gs b) : callN Δ0 wf (n + 7) "gain" [.val (shT gs rs), .val (bkW b)] = .ok (.s (.val (.int (chargeV gs rs b - costs gs b)))) [] := by
  refine call_E u_gain rfl ?_
  have gl := h.gl
  have bl := hb.l
  have c1 := c_need_basket (wf := wf) (n := n) h hb
  have c2 := c_gain_of (wf := wf) (n := n + 1) bl (by omega) h.rlz h.run
  simp [F_gain, callR, c1, c2]
end
end D

namespace D
open PySem L2
/-- how often the rule on a good is used -/
def useV (rs : List Rl) (g c : Int) : Int := match rs.find? (fitR g c) with
  | some (.frm _ _ _) => 1
  | some (.pack _ s _ m) => taken c s m
  | _ => 0
/-- the uses of rules on goods are noted -/
def setG (rs : List Rl) : Nat → List Int → List Int → List Int
  | _, [], u => u
  | i, c :: cs, u => setG rs (i + 1) cs (match ruleIx rs i c with | none => u | some k => u.set k (useV rs i c))
def usesV (gs : List (Int × Int)) (rs : List Rl) (b : List Int) : List Int := setG rs 0 b (takV rs (amtL gs rs b).sum).1
theorem setG_app (rs : List Rl) : ∀ (cs : List Int) (i : Nat) (c : Int) (u : List Int), setG rs i (cs ++ [c]) u = match ruleIx rs (i + cs.length : Nat) c with | none => setG rs i cs u | some k => (setG rs i cs u).set k (useV rs (i + cs.length : Nat) c)
  | [], i, c, u => by simp [setG]
  | x :: cs, i, c, u => by
    simp only [List.cons_append, setG]
    rw [setG_app rs cs (i + 1) c]
    have e : i + 1 + cs.length = i + (x :: cs).length := by simp; omega
    rw [e]
theorem setG_len (rs : List Rl) : ∀ (cs : List Int) (i : Nat) (u : List Int), (setG rs i cs u).length = u.length
  | [], i, u => rfl
  | x :: cs, i, u => by
    simp only [setG]
    rw [setG_len rs cs]
    cases ruleIx rs i x <;> simp
theorem setG_comm {rs : List Rl} {d : Nat} {x : Int} (h : ∀ i c, ruleIx rs i c ≠ some d) : ∀ (cs : List Int) (i : Nat) (u : List Int), (setG rs i cs u).set d x = setG rs i cs (u.set d x)
  | [], i, u => rfl
  | c :: cs, i, u => by
    simp only [setG]
    rw [setG_comm h cs]
    congr 1
    cases q : ruleIx rs i c with
    | none => rfl
    | some k =>
      have : k ≠ d := fun e => h i c (by rw [q, e])
      simp only
      rw [List.set_comm _ _ this]
theorem ruleIx_get {rs : List Rl} {g c : Int} {k : Nat} (h : ruleIx rs g c = some k) : ∃ r, rs[k]? = some r ∧ fitR g c r = true ∧ rs.find? (fitR g c) = some r := by
  rcases ruleIx_cases rs g c with ⟨h1, _⟩ | ⟨i, r, h1, h2, h3, h4⟩
  · rw [h] at h1; cases h1
  · rw [h] at h1; cases h1
    exact ⟨r, h2, h3, h4⟩
theorem amtL_app {gs : List (Int × Int)} {rs : List Rl} {done : List Int} {c : Int} : amtL gs rs (done ++ [c]) = amtL gs rs done ++ [amountV (priceAt gs done.length) rs done.length c] := by
  simp [amtL]
section
variable {wf n : Nat} {gs : List (Int × Int)} {rs : List Rl}
theorem c_law_fits {G : W} {rs : List Rl} {g c : Int} : callN Δ0 wf (n + 1) "_law_fits" [.val (.tuple [G, .tuple (rs.map Rl.w)]), .val (.int g), .val (.int c)] = .ok (.s (.val (opN (ruleIx rs g c)))) [] := by
  refine call_E u__law_fits rfl ?_
  simp [F__law_fits, enumW_map]
  refine W_frX (L := rs) (f := fun i r => .tuple [.int i, r.w]) (fun done e => (∃ a b, e = [some (.val (.tuple [G, .tuple (rs.map Rl.w)])), some (.val (.int g)), some (.val (.int c)), a, b]) ∧ ∀ r ∈ done, fitR g c r = false) rfl ⟨⟨_, _, rfl⟩, by simp⟩ ?_ ?_
  · rintro done r rest e hL ⟨⟨a, b, rfl⟩, hd⟩
    refine ⟨by simp [watchOf], ?_⟩
    have key : fitR g c r = true → ruleIx rs g c = some done.length := ruleIx_some hL hd
    have key2 : fitR g c r = false → ∀ r', r' ∈ done ∨ r' = r → fitR g c r' = false := fun h r' hr => by
      rcases hr with hr | rfl
      · exact hd r' hr
      · exact h
    cases r with
    | pack g' s p m =>
      simp [Rl.w] at key key2 ⊢
      split
      · split
        · rename_i h1 h2
          simp [key h1 h2]
        · apply key2; intro; omega
      · apply key2; intro; contradiction
    | frm g' s p =>
      simp [Rl.w] at key key2 ⊢
      split
      · split
        · rename_i h1 h2
          simp [key h1 h2]
        · apply key2; intro; omega
      · apply key2; intro; contradiction
    | over w d => simpa [Rl.w] using key2
    | each w k m => simpa [Rl.w] using key2
  · rintro e ⟨⟨a, b, rfl⟩, hd⟩
    simp [watchOf, ruleIx_none hd]
theorem c_law_amount {i : Nat} {c : Int} {gd : Int × Int} (hg : gs[i]? = some gd) (hp : Sm gd.1) (hr : ∀ r ∈ rs, r.run) :
    callN Δ0 wf (n + 2) "_law_amount" [.val (shT gs rs), .val (.int i), .val (.int c)] = .ok (.t [.val (.int (amountV gd.1 rs i c)), .val (.int (useV rs i c))]) [] := by
  refine call_E u__law_amount rfl ?_
  have op := fun x => mulR (i := x) hp
  rcases ruleIx_cases rs i c with ⟨h1, h2⟩ | ⟨k, r, h1, h2, h3, h4⟩
  · simp [F__law_amount, callR, c_law_fits, h1, hg, gdW, op, amountV, useV, h2]
  · have hr' := hr r (List.mem_of_getElem? h2)
    cases r with
    | pack g' s p m =>
      obtain ⟨q1, q2, _⟩ := hr'
      have os := fun x => mulR (i := x) (j := s) ⟨by omega, by omega⟩
      have oq := fun x => mulR (i := x) q2
      have dv := div_ok (i := c) (j := s) (by omega) (by omega)
      cases m with
      | none => simp [F__law_amount, callR, c_law_fits, h1, hg, gdW, h2, Rl.w, dv, oq, os, op, amountV, useV, h4, taken]
      | some m =>
        by_cases hm : m < c / s
        · simp [F__law_amount, callR, c_law_fits, h1, hg, gdW, h2, Rl.w, dv, oq, os, op, amountV, useV, h4, taken, hm]
        · simp [F__law_amount, callR, c_law_fits, h1, hg, gdW, h2, Rl.w, dv, oq, os, op, amountV, useV, h4, taken, hm]
    | frm g' t p =>
      have oq := fun x => mulR (i := x) hr'.1
      simp [F__law_amount, callR, c_law_fits, h1, hg, gdW, h2, Rl.w, oq, amountV, useV, h4]
    | over w d => cases h3
    | each w k m => cases h3
theorem lst_mul {x : W} {k : Nat} (hk : k ≤ 1000) : binop .Mult (.list [x]) (.int k) = some (.s (.own false (List.replicate k x))) := by
  show (if (decide (0 ≤ (k : Int)) && decide ((k : Int) ≤ 1000) && decide ([x].length ≤ 1000)) = true then some (RV.s (.own false (List.replicate (k : Int).toNat [x]).flatten)) else none) = _
  rw [if_pos]
  · have : (List.replicate k [x]).flatten = List.replicate k x := by
      induction k with
      | zero => rfl
      | succ k ih => rw [List.replicate_succ, List.flatten_cons, ih (by omega)]; rfl
    simp [this]
  · simp
    omega
@[simp] theorem ixN_nat' {k m : Nat} : ixN m (k : Int) = if k < m then some k else none := ixN_nat
theorem c_law_bill {b : List Int} (hl : b.length = gs.length) (hz : b.length ≤ 1000) (hz2 : rs.length ≤ 1000) (h : ShRun gs rs) (hb : ∀ c ∈ b, 0 ≤ c) :
    callN Δ0 wf (n + 3) "_law_bill" [.val (shT gs rs), .val (bkW b)] = .ok (.t [.val (.int (chargeV gs rs b)), .own false ((usesV gs rs b).map .int)]) [] := by
  refine call_E u__law_bill rfl ?_
  have mu := lst_mul (x := .int 0) (k := rs.length) hz2
  simp [F__law_bill, mu, enumW_map]
  refine W_frX (L := b) (f := fun i c => .tuple [.int i, .int c]) (fun done e => ∃ a1 a2 a3 a4 a5 a6, e = [some (.val (shT gs rs)), some (.val (bkW b)), some (.own false ((setG rs 0 done (List.replicate rs.length 0)).map .int)), some (.val (.int (amtL gs rs done).sum)), a1, a2, a3, a4, a5, a6]) rfl ⟨none, none, none, none, none, none, by simp [setG, amtL]⟩ ?_ ?_
  · rintro done c rest e hL ⟨a1, a2, a3, a4, a5, a6, rfl⟩
    refine ⟨by simp [watchOf], ?_⟩
    obtain ⟨gd, hg⟩ : ∃ gd, gs[done.length]? = some gd := ⟨_, List.getElem?_eq_getElem (by rw [← hl, hL]; simp)⟩
    have ca := c_law_amount (wf := wf) (n := n) (c := c) (rs := rs) hg (h.g gd (List.mem_of_getElem? hg)).1 h.r
    have pr : priceAt gs done.length = gd.1 := by simp [priceAt, hg]
    rw [amtL_app, setG_app, pr]
    rcases ruleIx_cases rs done.length c with ⟨h1, h2⟩ | ⟨k, r, h1, h2, h3, h4⟩
    · simp [callR, ca, c_law_fits, h1]
    · have hk : k < rs.length := (List.getElem?_eq_some_iff.mp h2).1
      simp [callR, ca, c_law_fits, h1, setG_len, hk]
  · rintro e ⟨a1, a2, a3, a4, a5, a6, rfl⟩
    refine ⟨by simp [watchOf], ?_⟩
    have hp := amtL_nn h hl hb
    have uv : usesV gs rs b = setG rs 0 b (takV rs (amtL gs rs b).sum).1 := rfl
    have cv : chargeV gs rs b = (takV rs (amtL gs rs b).sum).2 := rfl
    rw [uv, cv]
    generalize (amtL gs rs b).sum = t at *
    simp [enumW_map]
    refine W_frX (L := rs) (f := fun i r => .tuple [.int i, r.w]) (fun done e => ∃ a1 a2 a3 a4 a5 a6, e = [some (.val (shT gs rs)), some (.val (bkW b)), some (.own false ((setG rs 0 b ((takV done t).1 ++ List.replicate (rs.length - done.length) 0)).map .int)), some (.val (.int (takV done t).2)), a1, a2, a3, a4, a5, a6]) rfl ⟨a1, a2, a3, a4, a5, a6, by simp [takV]⟩ ?_ ?_
    · rintro done r rest e hL ⟨a1, a2, a3, a4, a5, a6, rfl⟩
      refine ⟨by simp [watchOf], ?_⟩
      have hr' := h.r r (by rw [hL]; simp)
      have hlen : rs.length = done.length + (rest.length + 1) := by rw [hL]; simp
      have rp : List.replicate (rs.length - done.length) (0 : Int) = 0 :: List.replicate (rs.length - (done.length + 1)) 0 := by
        rw [← List.replicate_succ]
        congr 1
        omega
      obtain ⟨t0, _⟩ := takV_nn (rs := done) hp fun x hx => h.r x (by rw [hL]; exact List.mem_append_left _ hx)
      have lq := leftR_eq t0 hr'
      rw [takV_app, rp, lq]
      have dl : done.length < done.length + (rs.length - (done.length + 1)) + 1 := by omega
      have st : (∀ i c, ruleIx rs i c ≠ some done.length) → ∀ x, (setG rs 0 b ((takV done t).1 ++ 0 :: List.replicate (rs.length - (done.length + 1)) 0)).set done.length x = setG rs 0 b ((takV done t).1 ++ x :: List.replicate (rs.length - (done.length + 1)) 0) := fun hh x => by
        rw [setG_comm hh]
        congr 1
        rw [List.set_append_right _ _ (by rw [takV_len]; exact Nat.le_refl _), takV_len, Nat.sub_self]
        rfl
      have nofit : (∀ g c, fitR g c r = false) → ∀ (i c : Int), ruleIx rs i c ≠ some done.length := fun hf i c hh => by
        obtain ⟨r', q1, q2, _⟩ := ruleIx_get hh
        have : rs[done.length]? = some r := by rw [hL]; simp
        rw [this] at q1
        cases q1
        rw [hf] at q2
        cases q2
      cases r with
      | pack g' s p m => simp [Rl.w, takes]
      | frm g' s p => simp [Rl.w, takes]
      | over w d =>
        have st := fun x => st (nofit fun _ _ => rfl) x
        by_cases hw : w ≤ (takV done t).2
        · simp [Rl.w, takes, hw, offR, takV_len, setG_len, ← List.map_set, st]
        · simp [Rl.w, takes, hw, offR, takV_len, setG_len]
      | each w k m =>
        obtain ⟨q1, q2, _⟩ := hr'
        have st := fun x => st (nofit fun _ _ => rfl) x
        have od := fun x => mulR (i := x) q2
        have dv := div_ok (i := (takV done t).2) (j := w) (by omega) (by omega)
        cases m with
        | none => simp [Rl.w, takes, offR, takV_len, setG_len, dv, od, taken, ← List.map_set, st]
        | some m =>
          by_cases hm : m < (takV done t).2 / w
          · have hm2 : ¬ ((takV done t).2 / w < m) := by omega
            simp [Rl.w, takes, offR, takV_len, setG_len, dv, od, taken, hm, hm2, ← List.map_set, st]
          · by_cases hm2 : (takV done t).2 / w < m
            · simp [Rl.w, takes, offR, takV_len, setG_len, dv, od, taken, hm, hm2, ← List.map_set, st]
            · have : (takV done t).2 / w = m := by omega
              simp [Rl.w, takes, offR, takV_len, setG_len, dv, od, taken, this, ← List.map_set, st]
    · rintro e ⟨a1, a2, a3, a4, a5, a6, rfl⟩
      simp [watchOf]
end
end D

namespace D
open PySem L2
section
variable {wf n : Nat} {gs : List (Int × Int)} {rs : List Rl} {ns : List Int}
theorem c_dr0 {m : Nat} {many : Int} (hn : ns.length ≤ 63) (hk : m + 1 < 1000000) (hm : 0 < many) :
    callN Δ0 wf (n + 3) "_law_draw" [.val (wInts ns), .own true (zeros m), .val (.int many)] = .ok (.s (.val (.int (dr ns m many)))) [zeros (m + 1)] := c_dr drs0.toDrw hn hk hm
theorem c_pick0 {m : Nat} {ws : List W} (hn : ns.length ≤ 63) (hk : m + 1 < 1000000) (hw : 0 < ws.length) :
    callN Δ0 wf (n + 4) "_law_pick" [.val (wInts ns), .own true (zeros m), .val (.tuple ws)] = .ok (.s (.val ((ws[(dr ns m ws.length).toNat]?).getD .none))) [zeros (m + 1)] := c_pick drs0.toDrw u__law_pick hn hk hw
theorem c_shop0 {m : Nat} (hn : ns.length ≤ 63) (hk : m + 1000 < 1000000) :
    ∃ (gs : List (Int × Int)) (rs : List Rl) (m' : Nat), callN Δ0 wf (n + 6) "_law_some_shop" [.val (wInts ns), .own true (zeros m)] = .ok (.t [.val (.tuple (gs.map gdW)), .val (.tuple (rs.map Rl.w))]) [zeros m'] ∧ ShOk gs rs ∧ m' ≤ m + 300 := c_shop drs0 u__law_some_shop hn hk
theorem pickB {x : Int} (h : 0 ≤ x ∧ x < 4) : ∃ k : Int, (([.int 3, .int 9, .int 30, .int 1000] : List W)[x.toNat]?).getD .none = .int k ∧ 0 < k ∧ k ≤ 1000 := by
  have : x = 0 ∨ x = 1 ∨ x = 2 ∨ x = 3 := by omega
  rcases this with rfl | rfl | rfl | rfl
  · exact ⟨3, rfl, by omega, by omega⟩
  · exact ⟨9, rfl, by omega, by omega⟩
  · exact ⟨30, rfl, by omega, by omega⟩
  · exact ⟨1000, rfl, by omega, by omega⟩
/-- draws, as many as there are things -/
theorem lc_draws {Γ : Gam} {L : List W} {S2 : Option Slot} {m : Nat} {k : Int} {os : List Opd} {ws : List W} (hL : L.length ≤ 1000) (hw : ∀ e, watchOf os ws e) (hk : 0 < k)
    (hd : ∀ j, j ≤ m + 1000 → Γ.call "_law_draw" [.val (wInts ns), .own true (zeros j), .val (.int k)] = .ok (.s (.val (.int (dr ns j k)))) [zeros (j + 1)]) (Q : RV → SEnv → Prop)
    (hq : ∀ b : List Int, b.length = L.length → (∀ c ∈ b, 0 ≤ c ∧ c < k) → Q (.s (.own false (b.map .int))) [some (.val (wInts ns)), some (.own true (zeros (m + L.length))), S2, some (.val (.int k)), none]) :
    (kLc Γ (.call "_law_draw" [.v (.var 0), .r 1, .v (.var 3)]) (.one 4) [] [4] (os, ws, L) [some (.val (wInts ns)), some (.own true (zeros m)), S2, some (.val (.int k)), none]).W Q := by
  refine W_kLc (L := L) (f := id) (fun done acc e => ∃ b : List Int, acc = b.map .int ∧ b.length = done.length ∧ (∀ c ∈ b, 0 ≤ c ∧ c < k) ∧ e = [some (.val (wInts ns)), some (.own true (zeros (m + done.length))), S2, some (.val (.int k)), none]) (by simp) (szl _ (by omega)) ⟨[], rfl, rfl, by simp, by simp⟩ ?_ ?_
  · rintro done x rest acc e hE ⟨b, rfl, h1, h2, rfl⟩
    refine ⟨hw _, ?_⟩
    have hlen : L.length = done.length + (rest.length + 1) := by rw [hE]; simp
    have := hd (m + done.length) (by omega)
    simp [callR0, this]
    refine ⟨b ++ [dr ns (m + done.length) k], by simp, by simp [h1], fun c hc => ?_, by simp [Nat.add_assoc]⟩
    rcases List.mem_append.mp hc with hc | hc
    · exact h2 c hc
    · simp at hc
      subst hc
      exact dr_lt hk
  · rintro acc e ⟨b, rfl, h1, h2, rfl⟩
    refine ⟨hw _, ?_⟩
    have := hq b h1 h2
    simpa using this
theorem c_basket {m : Nat} {R : W} (hn : ns.length ≤ 63) (hk : m + 2000 < 1000000) (hg : gs.length ≤ 1000) :
    ∃ (b : List Int) (m' : Nat), callN Δ0 wf (n + 5) "_law_some_basket" [.val (wInts ns), .own true (zeros m), .val (.tuple [.tuple (gs.map gdW), R])] = .ok (.s (.val (bkW b))) [zeros m'] ∧ b.length = gs.length ∧ (∀ c ∈ b, 0 ≤ c ∧ c < 1000) ∧ m' ≤ m + 1 + gs.length := by
  have key : ∃ r outs, callN Δ0 wf (n + 5) "_law_some_basket" [.val (wInts ns), .own true (zeros m), .val (.tuple [.tuple (gs.map gdW), R])] = .ok r outs ∧ ∃ (b : List Int) (m' : Nat), r = .s (.val (bkW b)) ∧ outs = [zeros m'] ∧ b.length = gs.length ∧ (∀ c ∈ b, 0 ≤ c ∧ c < 1000) ∧ m' ≤ m + 1 + gs.length := by
    refine call_W u__law_some_basket rfl ?_
    have c1 := c_pick0 (wf := wf) (n := n) (ns := ns) (m := m) (ws := [.int 3, .int 9, .int 30, .int 1000]) hn (by omega) (by simp)
    obtain ⟨k, hk1, hk2, hk3⟩ := pickB (dr_lt (ns := ns) (m := m) (many := 4) (by omega))
    have e4 : ((([.int 3, .int 9, .int 30, .int 1000] : List W).length : Nat) : Int) = 4 := rfl
    rw [e4, hk1] at c1
    simp [F__law_some_basket, callR, c1, ev_lc]
    refine lc_draws (m := m + 1) (by simpa using hg) (fun e => by simp [watchOf]) hk2 (fun j hj => c_dr0 (n := n + 1) hn (by omega) hk2) _ fun b h1 h2 => ?_
    simp
    exact ⟨b, rfl, _, rfl, by simpa using h1, fun c hc => ⟨(h2 c hc).1, by have := (h2 c hc).2; omega⟩, by omega⟩
  obtain ⟨r, outs, h1, b, m', rfl, rfl, h2, h3, h4⟩ := key
  exact ⟨b, m', h1, h2, h3, h4⟩
theorem c_law_costs {R : W} {b : List Int} (hz : b.length ≤ 1000) (h : ∀ g ∈ gs, Sm g.2) :
    callN Δ0 wf (n + 1) "_law_costs" [.val (.tuple [.tuple (gs.map gdW), R]), .val (bkW b)] = .ok (.s (.val (.int (costs gs b)))) [] := by
  refine call_E u__law_costs rfl ?_
  simp [F__law_costs, ev_lc, zipW_map]
  rw [kLc_map (L := gs.zip b) (f := fun p => .tuple [gdW p.1, .int p.2]) (g := fun p => .int (p.1.2 * p.2)) rfl (szl _ (by simp; omega)) (by simp) (fun p hp => ?_) (by simp)]
  · simp [allI_nums, costs]
  · have hg := h p.1 (List.of_mem_zip hp).1
    have od := fun x => mulL (j := x) hg
    simp [gdW, od]
theorem c_same_truth {a b : Bool} : callN Δ0 wf (n + 1) "_law_same_truth" [.val (.bool a), .val (.bool b)] = .ok (.s (.val (.bool (a == b)))) [] := by
  refine call_E u__law_same_truth rfl ?_
  have : cmpop .Eq (.bool a) (.bool b) = some (a == b) := by cases a <;> cases b <;> rfl
  simp [F__law_same_truth, this]
theorem eqvAll_ints : ∀ a b : List Int, PyData.eqvAll (a.map .int) (b.map .int) = decide (a = b)
  | [], [] => rfl
  | [], _ :: _ => by simp [PyData.eqvAll]
  | _ :: _, [] => by simp [PyData.eqvAll]
  | x :: a, y :: b => by
    have := eqvAll_ints a b
    simp only [List.map_cons, PyData.eqvAll, PyData.eqv, this]
    by_cases h : x = y <;> simp [h]
theorem eqOk_ints {a b : List Int} : eqOk (bkW a) (bkW b) = true := by
  have h : ∀ c : List Int, shp (bkW c) = true := fun c => okDs_ints 39 c
  unfold eqOk
  rw [h, h]
  simp
theorem cmp_eqT {a b : List Int} : cmpop .Eq (bkW a) (bkW b) = some (decide (a = b)) := by
  unfold cmpop
  rw [eqOk_ints]
  simp [PyData.eqv, eqvAll_ints]
theorem cmp_neT {a b : List Int} : cmpop .NotEq (bkW a) (bkW b) = some (!decide (a = b)) := by
  unfold cmpop
  rw [eqOk_ints]
  simp [PyData.eqv, eqvAll_ints]
theorem ShOk.sub {rs' : List Rl} (h : ShOk gs rs) (s : rs'.Sublist rs) : ShOk gs rs' :=
  ⟨h.gl, h.gok, Nat.le_trans s.length_le h.rl, fun r hr => h.rok r (s.subset hr), Nat.le_trans (s.filter _).length_le h.opn, fun r hr => h.pk r (s.subset hr)⟩
/-- rules on goods -/
def Rl.isG : Rl → Bool
  | .pack .. => true
  | .frm .. => true
  | _ => false
theorem find_isG (rs : List Rl) (g c : Int) : (rs.filter Rl.isG).find? (fitR g c) = rs.find? (fitR g c) := by
  induction rs with
  | nil => rfl
  | cons r rs ih =>
    cases r with
    | pack g' s p m => simp only [List.filter_cons, Rl.isG, if_true, List.find?_cons]; rw [ih]
    | frm g' s p => simp only [List.filter_cons, Rl.isG, if_true, List.find?_cons]; rw [ih]
    | over w d => simp only [List.filter_cons, Rl.isG, List.find?_cons, fitR_o]; exact ih
    | each w d m => simp only [List.filter_cons, Rl.isG, List.find?_cons, fitR_e]; exact ih
theorem amountV_isG {pr g c : Int} : amountV pr (rs.filter Rl.isG) g c = amountV pr rs g c := by
  unfold amountV
  rw [find_isG]
theorem amtL_isG {b : List Int} : amtL gs (rs.filter Rl.isG) b = amtL gs rs b := by
  unfold amtL
  simp only [amountV_isG]
theorem tup_mul {x : W} {k : Nat} (hk : k ≤ 1000) : binop .Mult (.tuple [x]) (.int k) = some (.s (.val (.tuple (List.replicate k x)))) := by
  show (if (decide (0 ≤ (k : Int)) && decide ((k : Int) ≤ 1000) && decide ([x].length ≤ 1000)) = true then some (RV.s (.val (.tuple (List.replicate (k : Int).toNat [x]).flatten))) else none) = _
  rw [if_pos]
  · have : (List.replicate k [x]).flatten = List.replicate k x := by
      clear hk
      induction k with
      | zero => rfl
      | succ k ih => rw [List.replicate_succ, List.flatten_cons, ih]; rfl
    simp [this]
  · simp
    omega
theorem find_zero {i : Int} (h : ∀ r ∈ rs, 0 < (match r with | .pack _ s _ _ => s | .frm _ t _ => t | _ => 1)) : rs.find? (fitR i 0) = none := by
  rw [List.find?_eq_none]
  intro r hr
  have := h r hr
  cases r <;> simp_all <;> omega
theorem amt_zero {k : Nat} (h : ∀ r ∈ rs, 0 < (match r with | .pack _ s _ _ => s | .frm _ t _ => t | _ => 1)) : amtL gs rs (List.replicate k 0) = List.replicate k 0 := by
  unfold amtL
  apply List.ext_getElem
  · simp
  · intro i h1 h2
    simp [amountV, find_zero h]
theorem ShOk.pos (h : ShOk gs rs) : ∀ r ∈ rs, 0 < (match r with | .pack _ s _ _ => s | .frm _ t _ => t | _ => 1) := fun r hr => by
  have := h.rok r hr
  cases r with
  | pack g s p m => obtain ⟨_, _, _⟩ := this; simp only; omega
  | frm g s p => obtain ⟨_, _, _⟩ := this; simp only; omega
  | over w d => simp
  | each w k m => simp
end
end D

namespace D
open PySem L2
section
variable {wf n : Nat} {gs gs' : List (Int × Int)} {rs : List Rl}
/-- goods as they may be -/
def gdAny (g : Int × Int) : Prop := (1 ≤ g.1 ∧ g.1 ≤ 9) ∧ 0 ≤ g.2 ∧ g.2 ≤ 9
structure ShG (gs : List (Int × Int)) (rs : List Rl) : Prop where
  gl : gs.length = 1 ∨ gs.length = 2
  gok : ∀ g ∈ gs, gdAny g
  rl : rs.length ≤ 4
  rok : ∀ r ∈ rs, r.ok gs.length
  opn : openN rs ≤ 1
theorem ShOk.g (h : ShOk gs rs) : ShG gs rs := ⟨h.gl, fun g hg => by
  obtain ⟨⟨_, _⟩, _, _⟩ := h.gok g hg
  exact ⟨⟨by omega, by omega⟩, by omega, by omega⟩, h.rl, h.rok, h.opn⟩
theorem ShG.shp (h : ShG gs rs) : Shp gs rs := by
  refine ⟨h.gl, h.rl, ?_, ⟨fun g hg => ?_, fun g hg => ?_, fun r hr => (h.rok r hr).run⟩⟩
  · have a1 : (gs.map gdW).all isGoodB = true := by
      rw [List.all_map, List.all_eq_true]
      intro g hg
      obtain ⟨⟨h1, h2⟩, h3, h4⟩ := h.gok g hg
      simp [isGoodB, gdW]
      omega
    have a2 := rules_ok h.rl h.rok h.opn
    have d1 : decide (1 ≤ gs.length) = true := decide_eq_true (by have := h.gl; omega)
    have d2 : decide (gs.length ≤ 2) = true := decide_eq_true (by have := h.gl; omega)
    simp only [isShopB, shT, List.length_map, a1, a2, d1, d2]
    rfl
  · obtain ⟨⟨_, _⟩, _, _⟩ := h.gok g hg
    exact ⟨⟨by omega, by omega⟩, by omega, by omega⟩
  · obtain ⟨⟨_, _⟩, _, _⟩ := h.gok g hg
    exact ⟨by omega, by omega⟩
theorem ShG.goods (h : ShG gs rs) (hl : gs'.length = gs.length) (hg : ∀ g ∈ gs', gdAny g) : ShG gs' rs := ⟨by rw [hl]; exact h.gl, hg, h.rl, by rw [hl]; exact h.rok, h.opn⟩
theorem ShG.sub {rs' : List Rl} (h : ShG gs rs) (s : rs'.Sublist rs) : ShG gs rs' :=
  ⟨h.gl, h.gok, Nat.le_trans s.length_le h.rl, fun r hr => h.rok r (s.subset hr), Nat.le_trans (s.filter _).length_le h.opn⟩
theorem priceAt_eq (h : gs'.map (·.1) = gs.map (·.1)) (i : Nat) : priceAt gs' i = priceAt gs i := by
  have := congrArg (fun l => l[i]?) h
  simp only [List.getElem?_map] at this
  unfold priceAt
  cases q : gs[i]? with
  | none => rw [q] at this; simp at this; simp [this]
  | some g =>
    rw [q] at this
    simp at this
    obtain ⟨a, h1⟩ := this
    simp [h1]
theorem amtL_eq (h : gs'.map (·.1) = gs.map (·.1)) (b : List Int) : amtL gs' rs b = amtL gs rs b := by
  unfold amtL
  simp only [priceAt_eq h]
theorem chargeV_eq (h : gs'.map (·.1) = gs.map (·.1)) (b : List Int) : chargeV gs' rs b = chargeV gs rs b := by
  unfold chargeV
  rw [amtL_eq h]
theorem Bk.nn {b : List Int} (h : Bk gs b) : ∀ c ∈ b, 0 ≤ c := fun c hc => (h.b c hc).1
theorem c_bill {b : List Int} (h : Shp gs rs) (hb : Bk gs b) :
    callN Δ0 wf (n + 3) "_law_bill" [.val (shT gs rs), .val (bkW b)] = .ok (.t [.val (.int (chargeV gs rs b)), .own false ((usesV gs rs b).map .int)]) [] :=
  c_law_bill hb.l (by rw [hb.l]; exact h.glz) h.rlz h.run hb.nn
/-- a law of a shop, then several times the same -/
theorem rng_lit {k : Nat} (h : k ≤ 1000000) : rngOf [.int (k : Int)] = some ((List.range k).map fun k => .int (k : Nat)) := by
  rw [rng_ok (by omega) (by omega)]
  simp
theorem take_len {α : Type} {k : Nat} {f : Nat → α} {done rest : List Nat} {x : Nat} (h : List.range k = done ++ x :: rest) : done.length < k ∧ x = done.length := by
  have h1 := congrArg List.length h
  simp at h1
  refine ⟨by omega, ?_⟩
  have h2 : (List.range k)[done.length]? = some x := by rw [h]; simp
  rw [List.getElem?_range (by omega)] at h2
  cases h2
  rfl
end
end D

namespace D
open PySem L2
@[simp] theorem allB_nil : allB [] = some [] := id rfl
@[simp] theorem allB_cons {b : Bool} {r : List W} : allB (.bool b :: r) = (allB r).map (b :: ·) := id rfl
@[simp] theorem allI_nil : allI [] = some [] := id rfl
@[simp] theorem allI_cons {b : Int} {r : List W} : allI (.int b :: r) = (allI r).map (b :: ·) := id rfl
@[simp] theorem fits_10 : fits 10 = true := decide_eq_true (by have := sizeLine_big; omega)
@[simp] theorem fits_11 : fits 11 = true := decide_eq_true (by have := sizeLine_big; omega)
@[simp] theorem fits_12 : fits 12 = true := decide_eq_true (by have := sizeLine_big; omega)
@[simp] theorem fits_13 : fits 13 = true := decide_eq_true (by have := sizeLine_big; omega)
@[simp] theorem fits_14 : fits 14 = true := decide_eq_true (by have := sizeLine_big; omega)
@[simp] theorem fits_15 : fits 15 = true := decide_eq_true (by have := sizeLine_big; omega)
@[simp] theorem fits_16 : fits 16 = true := decide_eq_true (by have := sizeLine_big; omega)
@[simp] theorem fits_17 : fits 17 = true := decide_eq_true (by have := sizeLine_big; omega)
@[simp] theorem fits_18 : fits 18 = true := decide_eq_true (by have := sizeLine_big; omega)
@[simp] theorem fits_19 : fits 19 = true := decide_eq_true (by have := sizeLine_big; omega)
@[simp] theorem fits_20 : fits 20 = true := decide_eq_true (by have := sizeLine_big; omega)
@[simp] theorem fits_21 : fits 21 = true := decide_eq_true (by have := sizeLine_big; omega)
@[simp] theorem fits_22 : fits 22 = true := decide_eq_true (by have := sizeLine_big; omega)
@[simp] theorem fits_23 : fits 23 = true := decide_eq_true (by have := sizeLine_big; omega)
@[simp] theorem fits_24 : fits 24 = true := decide_eq_true (by have := sizeLine_big; omega)
@[simp] theorem fits_25 : fits 25 = true := decide_eq_true (by have := sizeLine_big; omega)
@[simp] theorem fits_26 : fits 26 = true := decide_eq_true (by have := sizeLine_big; omega)
@[simp] theorem fits_27 : fits 27 = true := decide_eq_true (by have := sizeLine_big; omega)
@[simp] theorem fits_28 : fits 28 = true := decide_eq_true (by have := sizeLine_big; omega)
@[simp] theorem fits_29 : fits 29 = true := decide_eq_true (by have := sizeLine_big; omega)
@[simp] theorem fits_30 : fits 30 = true := decide_eq_true (by have := sizeLine_big; omega)
@[simp] theorem fits_31 : fits 31 = true := decide_eq_true (by have := sizeLine_big; omega)
@[simp] theorem fits_32 : fits 32 = true := decide_eq_true (by have := sizeLine_big; omega)
@[simp] theorem fits_33 : fits 33 = true := decide_eq_true (by have := sizeLine_big; omega)
@[simp] theorem fits_34 : fits 34 = true := decide_eq_true (by have := sizeLine_big; omega)
@[simp] theorem fits_35 : fits 35 = true := decide_eq_true (by have := sizeLine_big; omega)
@[simp] theorem fits_36 : fits 36 = true := decide_eq_true (by have := sizeLine_big; omega)
@[simp] theorem fits_37 : fits 37 = true := decide_eq_true (by have := sizeLine_big; omega)
@[simp] theorem fits_38 : fits 38 = true := decide_eq_true (by have := sizeLine_big; omega)
@[simp] theorem fits_39 : fits 39 = true := decide_eq_true (by have := sizeLine_big; omega)
@[simp] theorem fits_40 : fits 40 = true := decide_eq_true (by have := sizeLine_big; omega)
@[simp] theorem w_loss_less : (("loss" : Str) = "less") = False := eq_false (by decide +kernel)
@[simp] theorem w_less_loss : (("less" : Str) = "loss") = False := eq_false (by decide +kernel)
section
variable {wf n : Nat} {gs : List (Int × Int)} {rs : List Rl}
theorem c_is_int {v : W} {lo hi : Int} (h : nd v = true) : callN Δ0 wf (n + 1) "is_integer" [.val v, .val (.int lo), .val (.int hi)] = .ok (.s (.val (.bool (isIntB v lo hi)))) [] := by
  rw [c_is_integer u_is_integer, rInt_nd h]
/-- a fault of the kind loss -/
theorem c_shows_loss {b : List Int} (h : Shp gs rs) (hb : Bk gs b) : callN Δ0 wf (n + 6) "shows" [.val (shT gs rs), .val (.tuple [.str "loss", bkW b])] = .ok (.s (.val (.bool (decide (chargeV gs rs b < costs gs b))))) [] := by
  refine call_E u_shows rfl ?_
  have gl := h.gl
  have bl := hb.l
  have c2 := c_bstands (wf := wf) (n := n + 3) (G := .none) (R := .tuple (rs.map Rl.w)) (v := bkW b) (gs := gs.map gdW) rfl (fun xs e => by
    cases e
    exact ⟨by simp; omega, ndA_ints⟩)
  rw [isBk_ok (by simpa using bl) hb.b] at c2
  have c3 := c_gain_of (wf := wf) (n := n) bl (by omega) h.rlz h.run
  simp [F_shows, callR, c2, c3]
  omega
theorem c_shows_less {b : List Int} {i : Nat} {c : Int} (h : Shp gs rs) (hb : Bk gs b) (hi : b[i]? = some c) : callN Δ0 wf (n + 6) "shows" [.val (shT gs rs), .val (.tuple [.str "less", bkW b, .int i])] = .ok (.s (.val (.bool (decide (chargeV gs rs (b.set i (c + 1)) < chargeV gs rs b))))) [] := by
  refine call_E u_shows rfl ?_
  have gl := h.gl
  have bl := hb.l
  have hil := (List.getElem?_eq_some_iff.mp hi).1
  have c2 := c_bstands (wf := wf) (n := n + 3) (G := .none) (R := .tuple (rs.map Rl.w)) (v := bkW b) (gs := gs.map gdW) rfl (fun xs e => by
    cases e
    exact ⟨by simp; omega, ndA_ints⟩)
  rw [isBk_ok (by simpa using bl) hb.b] at c2
  have c3 := c_with_more (wf := wf) (n := n + 4) (k := 1) hi (by omega)
  have c4 := c_charge_of (wf := wf) (n := n + 1) (b := b.set i (c + 1)) (by simpa using bl) (by simp; omega) h.rlz h.run
  have c5 := c_charge_of (wf := wf) (n := n + 1) bl (by omega) h.rlz h.run
  have c6 := c_is_int (wf := wf) (n := n + 4) (v := .int (i : Int)) (lo := 0) (hi := (gs.length : Int) - 1) rfl
  have q1 : (i : Int) ≤ (gs.length : Int) - 1 := by omega
  simp [F_shows, callR, c2, c3, c4, c5, c6, q1]
theorem c_is_fault {v : W} {r : Bool} (h : Shp gs rs) (hs : callN Δ0 wf (n + 6) "shows" [.val (shT gs rs), .val v] = .ok (.s (.val (.bool r))) []) : callN Δ0 wf (n + 7) "is_fault" [.val (shT gs rs), .val v] = .ok (.s (.val (.bool r))) [] := by
  refine call_E u_is_fault rfl ?_
  have c1 := c_need_shop (wf := wf) (n := n + 1) h
  simp [F_is_fault, callR, c1, hs]
/-- what is no fault by its form -/
def noFault (k : Nat) : W → Bool
  | .tuple [.str x, v] => !isBkB k v || !decide (x = "loss")
  | .tuple [.str x, v, i] => !isBkB k v || decide (x = "loss") || !decide (x = "less") || !isIntB i 0 ((k : Int) - 1)
  | _ => true
theorem c_shows_bad {v : W} (hv : nd v = true) (hx : ∀ xs, v = .tuple xs → ndA xs = true ∧ ∀ ys, .tuple ys ∈ xs → ys.length ≤ 1000 ∧ ndA ys = true) (hb : noFault gs.length v = true) :
    callN Δ0 wf (n + 6) "shows" [.val (shT gs rs), .val v] = .ok (.s (.val (.bool false))) [] := by
  refine call_E u_shows rfl ?_
  have bs : ∀ y : W, nd y = true → (∀ ys, y = .tuple ys → ys.length ≤ 1000 ∧ ndA ys = true) → callN Δ0 wf (n + 5) "basket_stands" [.val (shT gs rs), .val y] = .ok (.s (.val (.bool (isBkB gs.length y)))) [] := fun y h1 h2 => by
    have := c_bstands (wf := wf) (n := n + 3) (G := .none) (R := .tuple (rs.map Rl.w)) (v := y) (gs := gs.map gdW) h1 h2
    simpa using this
  cases v with
  | tuple xs =>
    obtain ⟨h1, h2⟩ := hx xs rfl
    match xs, h1, h2, hb with
    | [], _, _, _ => simp [F_shows]
    | [a], _, _, _ => simp [F_shows]
    | [a, y], h1, h2, hb =>
      simp only [ndA, List.all_cons, List.all_nil, Bool.and_true, Bool.and_eq_true] at h1
      have b1 := bs y h1.2 fun ys e => h2 ys (by rw [e]; simp)
      cases a with
      | str x =>
        simp only [noFault, Bool.or_eq_true, Bool.not_eq_true', decide_eq_false_iff_not] at hb
        by_cases hq : isBkB gs.length y = true
        · rcases hb with hb | hb
          · rw [hq] at hb; cases hb
          · by_cases hl : x = "less"
            · simp [F_shows, callR, b1, hq, hb, hl]
            · simp [F_shows, callR, b1, hq, hb, hl]
        · simp [F_shows, callR, b1, hq]
      | dict kvs => cases h1.1
      | _ => simp [F_shows]
    | [a, y, i], h1, h2, hb =>
      simp only [ndA, List.all_cons, List.all_nil, Bool.and_true, Bool.and_eq_true] at h1
      have b1 := bs y h1.2.1 fun ys e => h2 ys (by rw [e]; simp)
      have c6 := c_is_int (wf := wf) (n := n + 4) (v := i) (lo := 0) (hi := (gs.length : Int) - 1) h1.2.2
      cases a with
      | str x =>
        simp only [noFault, Bool.or_eq_true, Bool.not_eq_true', decide_eq_false_iff_not, decide_eq_true_eq] at hb
        by_cases hq : isBkB gs.length y = true
        · by_cases hl : x = "loss"
          · simp [F_shows, callR, b1, hq, hl]
          · by_cases hm : x = "less"
            · rcases hb with ((hb | hb) | hb) | hb
              · rw [hq] at hb; cases hb
              · exact absurd hb hl
              · exact absurd hm hb
              · simp [F_shows, callR, b1, hq, hm, c6, hb]
            · simp [F_shows, callR, b1, hq, hl, hm]
        · simp [F_shows, callR, b1, hq]
      | dict kvs => cases h1.1
      | _ => simp [F_shows]
    | _ :: _ :: _ :: _ :: l, _, _, _ =>
      have : ¬ ((l.length : Int) + 1 + 1 + 1 + 1 ≤ 3) := by omega
      have h2 : (2 : Int) ≤ (l.length : Int) + 1 + 1 + 1 + 1 := by omega
      simp [F_shows, this, h2]
  | dict kvs => cases hv
  | _ => simp [F_shows]
end
end D

namespace D
open PySem L2
@[simp] theorem in_oe_p : cmpop .In (.str "pack") (.tuple [.str "over", .str "each"]) = some false := by decide +kernel
@[simp] theorem in_oe_f : cmpop .In (.str "from") (.tuple [.str "over", .str "each"]) = some false := by decide +kernel
@[simp] theorem in_oe_o : cmpop .In (.str "over") (.tuple [.str "over", .str "each"]) = some true := by decide +kernel
@[simp] theorem in_oe_e : cmpop .In (.str "each") (.tuple [.str "over", .str "each"]) = some true := by decide +kernel
@[simp] theorem in_pe_p : cmpop .In (.str "pack") (.tuple [.str "pack", .str "each"]) = some true := by decide +kernel
@[simp] theorem in_pe_f : cmpop .In (.str "from") (.tuple [.str "pack", .str "each"]) = some false := by decide +kernel
@[simp] theorem in_pe_o : cmpop .In (.str "over") (.tuple [.str "pack", .str "each"]) = some false := by decide +kernel
@[simp] theorem in_pe_e : cmpop .In (.str "each") (.tuple [.str "pack", .str "each"]) = some true := by decide +kernel
theorem rlw_p {g s p : Int} {m : Option Int} : (Rl.pack g s p m).w = .tuple [.str "pack", .int g, .int s, .int p, opW m] := id rfl
theorem rlw_f {g s p : Int} : (Rl.frm g s p).w = .tuple [.str "from", .int g, .int s, .int p] := id rfl
theorem rlw_o {w d : Int} : (Rl.over w d).w = .tuple [.str "over", .int w, .int d] := id rfl
theorem rlw_e {w k : Int} {m : Option Int} : (Rl.each w k m).w = .tuple [.str "each", .int w, .int k, opW m] := id rfl
theorem takV_isG {rs : List Rl} {t : Int} : (takV (rs.filter Rl.isG) t).2 = t := by
  induction rs with
  | nil => rfl
  | cons r rs ih =>
    cases r with
    | pack g s p m =>
      rw [List.filter_cons_of_pos (by rfl)]
      simpa [takV, leftR, takes] using ih
    | frm g s p =>
      rw [List.filter_cons_of_pos (by rfl)]
      simpa [takV, leftR, takes] using ih
    | over w d => simpa [Rl.isG] using ih
    | each w d m => simpa [Rl.isG] using ih
theorem openN_isG {rs : List Rl} : openN (rs.filter Rl.isG) = 0 := by
  unfold openN
  rw [List.filter_filter]
  rw [List.length_eq_zero_iff, List.filter_eq_nil_iff]
  intro r _
  cases r <;> simp [Rl.isG, Rl.open_]
section
variable {wf n : Nat} {gs : List (Int × Int)} {rs : List Rl}
/-- the rules on goods, and one on sums -/
theorem ShG.alone {r : Rl} (h : ShG gs rs) (hr : r ∈ rs) (hg : r.isG = false) : ShG gs (rs.filter Rl.isG ++ [r]) := by
  refine ⟨h.gl, h.gok, ?_, fun x hx => ?_, ?_⟩
  · have : (rs.filter Rl.isG).length < rs.length := by
      refine Nat.lt_of_le_of_ne (List.length_filter_le _ _) fun e => ?_
      have := List.length_filter_eq_length_iff.mp e r hr
      rw [hg] at this
      cases this
    have := h.rl
    simp
    omega
  · rcases List.mem_append.mp hx with hx | hx
    · exact h.rok x (List.mem_filter.mp hx).1
    · simp at hx
      subst hx
      exact h.rok x hr
  · unfold openN
    rw [List.filter_append, List.length_append]
    have : ((rs.filter Rl.isG).filter Rl.open_).length = 0 := openN_isG
    rw [this]
    rw [List.filter_cons]
    split <;> simp
theorem find_app_sum {r : Rl} (hg : r.isG = false) (g c : Int) : (rs.filter Rl.isG ++ [r]).find? (fitR g c) = rs.find? (fitR g c) := by
  rw [List.find?_append, find_isG]
  have : [r].find? (fitR g c) = none := by
    cases r with
    | pack => cases hg
    | frm => cases hg
    | over w d => rfl
    | each w d m => rfl
  rw [this]
  simp
theorem amtL_alone {r : Rl} {b : List Int} (hg : r.isG = false) : amtL gs (rs.filter Rl.isG ++ [r]) b = amtL gs rs b := by
  unfold amtL amountV
  simp only [find_app_sum hg]
theorem charge_alone {r : Rl} {b : List Int} (hg : r.isG = false) : chargeV gs (rs.filter Rl.isG ++ [r]) b = leftR (amtL gs rs b).sum r := by
  unfold chargeV
  rw [takV_app, amtL_alone hg, takV_isG]
theorem charge_zero {k : Nat} (h : ShOk gs rs) : chargeV gs rs (List.replicate k 0) = 0 := by
  unfold chargeV
  rw [amt_zero h.pos]
  have : (List.replicate k (0 : Int)).sum = 0 := by
    induction k with
    | zero => rfl
    | succ k ih => rw [List.replicate_succ, List.sum_cons, ih]; rfl
  rw [this]
  have := takV_nn (rs := rs) (t := 0) (Int.le_refl 0) h.run.r
  omega
theorem charge_nn {b : List Int} (h : ShRun gs rs) (hl : b.length = gs.length) (hb : ∀ c ∈ b, 0 ≤ c) : 0 ≤ chargeV gs rs b ∧ chargeV gs rs b ≤ (amtL gs rs b).sum :=
  takV_nn (amtL_nn h hl hb) h.r
end
end D

namespace D
open PySem L2
section
variable {wf n : Nat} {gs : List (Int × Int)} {rs : List Rl}
theorem c_uses_of {b : List Int} (hl : b.length = gs.length) (hz : b.length ≤ 1000) (hz2 : rs.length ≤ 1000) (h : ShRun gs rs) :
    callN Δ0 wf (n + 4) "uses_of" [.val (shT gs rs), .val (bkW b)] = .ok (.s (.val (.list ((usesV gs rs b).map .int)))) [] := by
  refine call_E u_uses_of rfl ?_
  have c1 := c_amount_list (wf := wf) (n := n) hl hz h
  have c2 := fun t => c_takings (wf := wf) (n := n + 1) (G := .tuple (gs.map gdW)) (t := t) h.r hz2
  simp [F_uses_of, callR, c1, c2, allI_ints, enumW_map]
  refine W_frX (L := b) (f := fun i c => .tuple [.int i, .int c]) (fun done e => ∃ a1 a2 a3 a4, e = [some (.val (shT gs rs)), some (.val (bkW b)), some (.own false ((setG rs 0 done (takV rs (amtL gs rs b).sum).1).map .int)), a1, a2, a3, a4]) rfl ⟨none, none, none, none, by simp [setG]⟩ ?_ ?_
  · rintro done c rest e hL ⟨a1, a2, a3, a4, rfl⟩
    refine ⟨by simp [watchOf], ?_⟩
    rw [setG_app]
    rcases ruleIx_cases rs done.length c with ⟨h1, h2⟩ | ⟨k, r, h1, h2, h3, h4⟩
    · simp [callR, c_rule_for, h1]
    · have hk : k < rs.length := (List.getElem?_eq_some_iff.mp h2).1
      have hr' := h.r r (List.mem_of_getElem? h2)
      have hx := (List.getElem?_eq_some_iff.mp h2).2
      cases r with
      | pack g' s p m =>
        obtain ⟨q1, q2, _⟩ := hr'
        have ct := fun t => c_taken (wf := wf) (n := n + 2) (t := t) (s := s) (m := m) (by omega) (by omega)
        have uv : useV rs done.length c = taken c s m := by unfold useV; rw [h4]
        simp [callR, c_rule_for, h1, hx, rlw_p, ct, setG_len, takV_len, hk, uv]
      | frm g' s p =>
        have uv : useV rs done.length c = 1 := by unfold useV; rw [h4]
        simp [callR, c_rule_for, h1, hx, rlw_f, setG_len, takV_len, hk, uv]
      | over w d => cases h3
      | each w d m => cases h3
  · rintro e ⟨a1, a2, a3, a4, rfl⟩
    simp [watchOf, usesV]
theorem c_uses {b : List Int} (h : Shp gs rs) (hb : Bk gs b) : callN Δ0 wf (n + 7) "uses" [.val (shT gs rs), .val (bkW b)] = .ok (.s (.val (bkW (usesV gs rs b)))) [] := by
  refine call_E u_uses rfl ?_
  have gl := h.gl
  have bl := hb.l
  have c1 := c_need_basket (wf := wf) (n := n) h hb
  have c2 := c_uses_of (wf := wf) (n := n + 2) bl (by omega) h.rlz h.run
  simp [F_uses, callR, c1, c2]
theorem usesV_len {b : List Int} : (usesV gs rs b).length = rs.length := by
  unfold usesV
  rw [setG_len, takV_len]
/-! ### uses, one by one -/
def putU (rs : List Rl) (i : Nat) (c : Int) (u : List Int) : List Int := match ruleIx rs i c with
  | none => u
  | some k => u.set k (useV rs i c)
theorem setG_cons {rs : List Rl} {i : Nat} {c : Int} {cs u : List Int} : setG rs i (c :: cs) u = setG rs (i + 1) cs (putU rs i c u) := by
  rfl
theorem putU_len {rs : List Rl} {i : Nat} {c : Int} {u : List Int} : (putU rs i c u).length = u.length := by
  unfold putU
  cases ruleIx rs i c <;> simp
/-- the uses of rules on goods, one by one: either the rule that fits a good of the basket, or nothing -/
theorem setG_get (rs : List Rl) (k : Nat) : ∀ (cs : List Int) (i : Nat) (u : List Int), k < u.length →
    (setG rs i cs u)[k]? = u[k]? ∧ (∀ j c, cs[j]? = some c → ruleIx rs (i + j : Nat) c ≠ some k) ∨ ∃ j c, cs[j]? = some c ∧ ruleIx rs (i + j : Nat) c = some k ∧ (setG rs i cs u)[k]? = some (useV rs (i + j : Nat) c)
  | [], i, u, hk => .inl ⟨rfl, by simp⟩
  | c :: cs, i, u, hk => by
    rw [setG_cons]
    have hk' : k < (putU rs i c u).length := by rw [putU_len]; exact hk
    rcases setG_get rs k cs (i + 1) _ hk' with ⟨h1, h2⟩ | ⟨j, c', h1, h2, h3⟩
    · by_cases hr : ruleIx rs i c = some k
      · refine .inr ⟨0, c, rfl, hr, ?_⟩
        rw [h1]
        unfold putU
        rw [hr]
        simp [hk]
      · refine .inl ⟨?_, fun j c' hj => ?_⟩
        · rw [h1]
          unfold putU
          cases q : ruleIx rs i c with
          | none => rfl
          | some k' =>
            have : k' ≠ k := fun e => hr (by rw [q, e])
            simp [List.getElem?_set_ne this]
        · cases j with
          | zero => cases hj; exact hr
          | succ j =>
            have := h2 j c' (by simpa using hj)
            rwa [show i + 1 + j = i + (j + 1) by omega] at this
    · refine .inr ⟨j + 1, c', by simpa using h1, ?_, ?_⟩
      · rwa [show i + 1 + j = i + (j + 1) by omega] at h2
      · rwa [show i + 1 + j = i + (j + 1) by omega] at h3
end
end D

namespace D
open PySem L2
/-! ### uses and offs, plainly -/
def offSum : List Int → List Rl → Int
  | u :: us, r :: rs => (if r.isG then 0 else u * offR r) + offSum us rs
  | _, _ => 0
theorem fit_isG {g c : Int} {r : Rl} (h : fitR g c r = true) : r.isG = true := by cases r <;> first | rfl | cases h
theorem offSum_set : ∀ (us : List Int) (rs : List Rl) (k : Nat) (x : Int) (r : Rl), rs[k]? = some r → r.isG = true → offSum (us.set k x) rs = offSum us rs
  | [], rs, k, x, r, _, _ => by simp
  | u :: us, [], k, x, r, h, _ => by simp at h
  | u :: us, a :: rs, 0, x, r, h, hg => by
    simp at h
    subst h
    simp [offSum, hg]
  | u :: us, a :: rs, k + 1, x, r, h, hg => by
    simp only [List.set_cons_succ, offSum]
    rw [offSum_set us rs k x r (by simpa using h) hg]
theorem offSum_setG (rs : List Rl) : ∀ (cs : List Int) (i : Nat) (u : List Int), offSum (setG rs i cs u) rs = offSum u rs
  | [], i, u => rfl
  | c :: cs, i, u => by
    rw [setG_cons, offSum_setG rs cs]
    unfold putU
    cases q : ruleIx rs i c with
    | none => rfl
    | some k =>
      obtain ⟨r, h1, h2, _⟩ := ruleIx_get q
      exact offSum_set u rs k _ r h1 (fit_isG h2)
theorem offSum_takV : ∀ {rs : List Rl} {t : Int}, 0 ≤ t → (∀ r ∈ rs, r.run) → offSum (takV rs t).1 rs = t - (takV rs t).2
  | [], t, _, _ => by simp [offSum, takV]
  | r :: rs, t, h, hr => by
    have hr' := hr r List.mem_cons_self
    have ih := offSum_takV (rs := rs) (leftR_nn h hr').1 fun x hx => hr x (List.mem_cons_of_mem _ hx)
    simp only [takV, offSum]
    rw [ih, leftR_eq h hr']
    cases r with
    | pack => simp [Rl.isG, takes, offR]
    | frm => simp [Rl.isG, takes, offR]
    | over w d => simp [Rl.isG]; omega
    | each w d m => simp [Rl.isG]; omega
theorem charge_offs {gs : List (Int × Int)} {rs : List Rl} {b : List Int} (h : ShRun gs rs) (hl : b.length = gs.length) (hb : ∀ c ∈ b, 0 ≤ c) : chargeV gs rs b = (amtL gs rs b).sum - offSum (usesV gs rs b) rs := by
  unfold usesV chargeV
  rw [offSum_setG, offSum_takV (amtL_nn h hl hb) h.r]
  omega
theorem offSum_list : ∀ (us : List Int) (rs : List Rl), ((us.zip rs).filterMap fun p => if p.2.isG then none else some (p.1 * offR p.2)).sum = offSum us rs
  | [], rs => by simp [offSum]
  | u :: us, [] => by simp [offSum]
  | u :: us, r :: rs => by
    have := offSum_list us rs
    simp only [List.zip_cons_cons, List.filterMap_cons, offSum]
    cases r.isG <;> simp [this]
theorem cnt_one {q : Int → Rl → Bool} : ∀ (us : List Int) (rs : List Rl) (k0 : Nat), (∀ k u r, us[k]? = some u → rs[k]? = some r → q u r = true → k = k0) → ((us.zip rs).filter fun p => q p.1 p.2).length ≤ 1
  | [], rs, _, _ => by simp
  | u :: us, [], _, _ => by simp
  | u :: us, r :: rs, k0, h => by
    simp only [List.zip_cons_cons, List.filter_cons]
    cases hq : q u r with
    | true =>
      have h0 : 0 = k0 := h 0 u r rfl rfl hq
      have : (us.zip rs).filter (fun p => q p.1 p.2) = [] := by
        rw [List.filter_eq_nil_iff]
        intro p hp hh
        obtain ⟨k, hk⟩ := List.getElem?_of_mem hp
        obtain ⟨h1, h2⟩ := List.getElem?_zip_eq_some.mp hk
        have := h (k + 1) p.1 p.2 (by simpa using h1) (by simpa using h2) hh
        omega
      simp [this]
    | false =>
      have := cnt_one us rs (k0 - 1) fun k u r h1 h2 h3 => by
        have := h (k + 1) u r (by simpa using h1) (by simpa using h2) h3
        omega
      simpa using this
/-- rules on a good -/
def Rl.on (g : Int) : Rl → Bool
  | .pack g' _ _ _ => decide (g' = g)
  | .frm g' _ _ => decide (g' = g)
  | _ => false
theorem takV_isG0 {rs : List Rl} {t : Int} {k : Nat} {r : Rl} (h : rs[k]? = some r) (hg : r.isG = true) : (takV rs t).1[k]? = some 0 := by
  induction rs generalizing t k with
  | nil => simp at h
  | cons a rs ih =>
    cases k with
    | zero =>
      simp at h
      subst h
      cases a <;> first | (cases hg; done) | simp [takV, takes]
    | succ k =>
      simp only [takV, List.getElem?_cons_succ]
      exact ih (by simpa using h)
/-- of the rules on a good, one at most is used -/
theorem uses_one {gs : List (Int × Int)} {rs : List Rl} {b : List Int} (g : Nat) : (((usesV gs rs b).zip rs).filter fun p => p.2.on g && decide (0 < p.1)).length ≤ 1 := by
  refine cnt_one (q := fun u r => r.on g && decide (0 < u)) _ _ (match b[g]? with | some c => (ruleIx rs g c).getD 0 | none => 0) fun k u r h1 h2 h3 => ?_
  simp only [Bool.and_eq_true, decide_eq_true_eq] at h3
  have hk : k < (takV rs (amtL gs rs b).sum).1.length := by rw [takV_len]; exact (List.getElem?_eq_some_iff.mp h2).1
  have hg : r.isG = true := by
    cases r <;> first | rfl | exact absurd h3.1 (by simp [Rl.on])
  rcases setG_get rs k b 0 _ hk with ⟨q1, _⟩ | ⟨j, c, q1, q2, q3⟩
  · unfold usesV at h1
    rw [q1, takV_isG0 h2 hg] at h1
    cases h1
    exact absurd h3.2 (by decide)
  · simp only [Nat.zero_add] at q2 q3
    obtain ⟨r', z1, z2, _⟩ := ruleIx_get q2
    rw [h2] at z1
    cases z1
    have hj : j = g := by
      cases r with
      | pack g' s p m =>
        simp [Rl.on] at h3 z2
        omega
      | frm g' s p =>
        simp [Rl.on] at h3 z2
        omega
      | over => cases hg
      | each => cases hg
    subst hj
    rw [q1]
    simp only
    rw [q2]
    rfl
theorem ruleIx_zero {rs : List Rl} {i : Int} (h : ∀ r ∈ rs, 0 < (match r with | .pack _ s _ _ => s | .frm _ t _ => t | _ => 1)) : ruleIx rs i 0 = none := by
  rcases ruleIx_cases rs i 0 with ⟨h1, _⟩ | ⟨k, r, _, _, _, h4⟩
  · exact h1
  · rw [find_zero h] at h4
    cases h4
theorem setG_zero {rs : List Rl} (h : ∀ r ∈ rs, 0 < (match r with | .pack _ s _ _ => s | .frm _ t _ => t | _ => 1)) : ∀ (k i : Nat) (u : List Int), setG rs i (List.replicate k 0) u = u
  | 0, i, u => rfl
  | k + 1, i, u => by
    rw [List.replicate_succ, setG_cons, setG_zero h k]
    unfold putU
    rw [ruleIx_zero h]
theorem takV_zero {c : Int} : ∀ {rs : List Rl}, (∀ r ∈ rs, r.ok c) → (takV rs 0).1 = List.replicate rs.length 0
  | [], _ => rfl
  | r :: rs, h => by
    have hr := h r List.mem_cons_self
    have t0 : takes 0 r = 0 := by
      cases r with
      | pack => rfl
      | frm => rfl
      | over w d => obtain ⟨h1, _⟩ := hr; simp [takes]; omega
      | each w k m =>
        obtain ⟨h1, _, h3, _⟩ := hr
        have := h3.nn
        cases m with
        | none => simp [takes, taken]
        | some j => have := this j rfl; simp [takes, taken]; omega
    have l0 : leftR 0 r = 0 := by simp [leftR, t0]
    simp only [takV, List.length_cons, List.replicate_succ]
    rw [t0, l0, takV_zero fun x hx => h x (List.mem_cons_of_mem _ hx)]
theorem sum_rep0 (k : Nat) : (List.replicate k (0 : Int)).sum = 0 := by
  induction k with
  | zero => rfl
  | succ k ih => rw [List.replicate_succ, List.sum_cons, ih]; rfl
theorem uses_zero {gs : List (Int × Int)} {rs : List Rl} {k : Nat} (h : ShOk gs rs) : usesV gs rs (List.replicate k 0) = List.replicate rs.length 0 := by
  unfold usesV
  rw [setG_zero h.pos, amt_zero h.pos, sum_rep0, takV_zero h.rok]
end D

namespace D
open PySem L2
/-! ## acts -/
inductive Act where
  | most (r : Nat) (m : Int)
  | off (r : Nat)
  deriving DecidableEq
def Act.w : Act → W
  | .most r m => .tuple [.str "most", .int r, .int m]
  | .off r => .tuple [.str "off", .int r]
theorem aw_m {r : Nat} {m : Int} : (Act.most r m).w = .tuple [.str "most", .int r, .int m] := id rfl
theorem aw_o {r : Nat} : (Act.off r).w = .tuple [.str "off", .int r] := id rfl
def Act.lt : Act → Act → Bool
  | .most r m, .most r' m' => decide (r < r') || (decide (r = r') && decide (m < m'))
  | .most _ _, .off _ => true
  | .off _, .most _ _ => false
  | .off r, .off r' => decide (r < r')
@[simp] theorem w_mo : (("most" : Str) = "off") = False := eq_false (by decide +kernel)
@[simp] theorem w_om : (("off" : Str) = "most") = False := eq_false (by decide +kernel)
theorem act_eqv (a b : Act) : PyData.eqv a.w b.w = decide (a = b) := by
  have e : ∀ x y : Nat, ((x : Int) == (y : Int)) = decide (x = y) := fun x y => by
    by_cases h : x = y
    · simp [h]
    · have : ¬ ((x : Int) = (y : Int)) := by omega
      simp [h, this]
  have e2 : ∀ x y : Int, (x == y) = decide (x = y) := fun x y => by by_cases h : x = y <;> simp [h]
  cases a <;> cases b <;> simp [Act.w, PyData.eqv, PyData.eqvAll, e, e2]
theorem act_shp (a : Act) : shp a.w = true := by
  have h1 : PyData.strOk "most" = true := by decide +kernel
  have h2 : PyData.strOk "off" = true := by decide +kernel
  cases a <;> simp [Act.w, shp, okD, okDs, h1, h2]
theorem act_alike (a b : Act) : PySem.W.alike a.w b.w = true := by
  cases a <;> cases b <;> simp [Act.w, PySem.W.alike, PySem.W.alikeAll]
theorem lt_ints {xs ys : List W} {i j : Int} : PyProof.Rows.lexLt PyProof.Rows.itemOrd (PySem.W.keyToksAll (.int i :: xs)) (PySem.W.keyToksAll (.int j :: ys)) = if i = j then PyProof.Rows.lexLt PyProof.Rows.itemOrd (PySem.W.keyToksAll xs) (PySem.W.keyToksAll ys) else decide (i < j) := by
  by_cases h : i = j
  · subst h
    rw [if_pos rfl, PySem.W.dataLt_all_yes (by simp [PySem.W.alike]) (by simp [PyData.eqv])]
  · rw [if_neg h, PySem.W.dataLt_all_no (by simp [PySem.W.alike]) (by simp [PyData.eqv, h]), PySem.W.dataLt_int]
theorem lt_strs {xs ys : List W} {i j : Str} : PyProof.Rows.lexLt PyProof.Rows.itemOrd (PySem.W.keyToksAll (.str i :: xs)) (PySem.W.keyToksAll (.str j :: ys)) = if i = j then PyProof.Rows.lexLt PyProof.Rows.itemOrd (PySem.W.keyToksAll xs) (PySem.W.keyToksAll ys) else decide (i.cps.toList < j.cps.toList) := by
  by_cases h : i = j
  · subst h
    rw [if_pos rfl, PySem.W.dataLt_all_yes (by simp [PySem.W.alike]) (by simp [PyData.eqv])]
  · rw [if_neg h, PySem.W.dataLt_all_no (by simp [PySem.W.alike]) (by simp [PyData.eqv, h]), PySem.W.dataLt_str]
theorem lt_nil : PyProof.Rows.lexLt PyProof.Rows.itemOrd (PySem.W.keyToksAll []) (PySem.W.keyToksAll []) = false := by decide +kernel
theorem act_lt (a b : Act) : PySem.W.dataLt a.w b.w = a.lt b := by
  have h1 : decide ((Str.ofString "most").cps.toList < (Str.ofString "off").cps.toList) = true := by decide +kernel
  have h2 : decide ((Str.ofString "off").cps.toList < (Str.ofString "most").cps.toList) = false := by decide +kernel
  cases a with
  | most r m =>
    cases b with
    | most r' m' =>
      simp only [Act.w, PySem.W.dataLt_tuple, lt_strs, if_true, lt_ints, lt_nil, Act.lt]
      by_cases hr : r = r'
      · subst hr
        by_cases hm : m = m' <;> simp [hm]
      · have : ¬ ((r : Int) = (r' : Int)) := by omega
        simp [this, hr]
    | off r' =>
      simp only [Act.w, PySem.W.dataLt_tuple, lt_strs, w_mo, if_false, h1, Act.lt]
  | off r =>
    cases b with
    | most r' m' =>
      simp only [Act.w, PySem.W.dataLt_tuple, lt_strs, w_om, if_false, h2, Act.lt]
    | off r' =>
      simp only [Act.w, PySem.W.dataLt_tuple, lt_strs, if_true, lt_ints, lt_nil, Act.lt]
      by_cases hr : r = r'
      · subst hr; simp
      · have : ¬ ((r : Int) = (r' : Int)) := by omega
        simp [this]
theorem cmp_ltA (a b : Act) : cmpop .Lt a.w b.w = some (a.lt b) := by
  have h := act_lt a b
  have h1 := act_alike a b
  have h2 := act_shp a
  have h3 := act_shp b
  cases a <;> cases b <;> simp only [aw_m, aw_o] at h h1 h2 h3 ⊢ <;> simp [cmpop, h, h1, h2, h3]
/-- ascending -/
def risesA (as : List Act) : Bool := (as.zip (as.drop 1)).all fun p => p.1.lt p.2
/-- most of a rule, as the program has it -/
def mostW : Rl → W
  | .pack _ _ _ m => opW m
  | .each _ _ m => opW m
  | _ => .int 0
/-- a lesser most can be told for the rule -/
def capOk (m : Int) : Rl → Bool
  | .pack _ _ _ none => true
  | .pack _ _ _ (some j) => decide (m < j)
  | .each _ _ none => true
  | .each _ _ (some j) => decide (m < j)
  | _ => decide (m < 0)
def Act.ok (rs : List Rl) : Act → Prop
  | .off r => r < rs.length
  | .most r m => (1 ≤ m ∧ m ≤ 2) ∧ ∃ x, rs[r]? = some x ∧ capOk m x = true
def isActB (rs : List Rl) : W → Bool
  | .tuple [.str k, i] => isIntB i 0 ((rs.length : Int) - 1) && decide (k = "off")
  | .tuple [.str k, i, m] => isIntB i 0 ((rs.length : Int) - 1) && decide (k = "most") && isIntB m 1 2 && (match rs[(intOf i).toNat]? with | some r => capOk (intOf m) r | none => false)
  | _ => false
theorem isActB_ok {rs : List Rl} {v : W} (h : isActB rs v = true) : ∃ a : Act, v = a.w ∧ a.ok rs := by
  unfold isActB at h
  split at h
  · rename_i k i
    simp only [Bool.and_eq_true, decide_eq_true_eq] at h
    obtain ⟨h1, rfl⟩ := h
    obtain ⟨j, rfl, h2, h3⟩ := isIntB_cases h1
    refine ⟨.off j.toNat, ?_, ?_⟩
    · rw [aw_o, show ((j.toNat : Nat) : Int) = j by omega]
    · show j.toNat < rs.length
      omega
  · rename_i k i m
    simp only [Bool.and_eq_true, decide_eq_true_eq] at h
    obtain ⟨⟨⟨h1, rfl⟩, h2⟩, h3⟩ := h
    obtain ⟨j, rfl, h4, h5⟩ := isIntB_cases h1
    obtain ⟨m', rfl, h6, h7⟩ := isIntB_cases h2
    simp only [intOf_int] at h3
    refine ⟨.most j.toNat m', ?_, ⟨h6, h7⟩, ?_⟩
    · rw [aw_m, show ((j.toNat : Nat) : Int) = j by omega]
    · cases q : rs[j.toNat]? with
      | none => rw [q] at h3; cases h3
      | some x => rw [q] at h3; exact ⟨x, rfl, h3⟩
  · cases h
theorem isActB_of {rs : List Rl} {a : Act} (h : a.ok rs) : isActB rs a.w = true := by
  cases a with
  | off r =>
    have h : r < rs.length := h
    simp [aw_o, isActB]
    omega
  | most r m =>
    obtain ⟨h1, x, h2, h3⟩ := h
    have := (List.getElem?_eq_some_iff.mp h2).1
    simp [aw_m, isActB, h2, h3, h1]
    omega
theorem atI_m1 {α : Type} {xs : List α} {x : α} (h : xs.getLast? = some x) : atI xs (-1) = some x := by
  have hne : xs ≠ [] := by rintro rfl; cases h
  have hl : 0 < xs.length := List.length_pos_iff.mpr hne
  unfold atI ixN
  rw [if_neg (by omega), if_pos (by omega)]
  rw [List.getLast?_eq_getElem?] at h
  simp only [Option.bind_some]
  rw [show (-1 + (xs.length : Int)).toNat = xs.length - 1 by omega]
  exact h
section
variable {wf n : Nat} {gs : List (Int × Int)} {rs : List Rl}
theorem c_most_of {r : Rl} : callN Δ0 wf (n + 1) "most_of" [.val r.w] = .ok (.s (.val (mostW r))) [] := by
  refine call_E u_most_of rfl ?_
  cases r with
  | pack g s p m => simp [F_most_of, rlw_p, atI_m1 (x := opW m), mostW]
  | frm g s p => simp [F_most_of, rlw_f, mostW]
  | over w d => simp [F_most_of, rlw_o, mostW]
  | each w k m => simp [F_most_of, rlw_e, atI_m1 (x := opW m), mostW]
theorem c_is_act {G v : W} (hv : nd v = true) (hs : ∀ xs, v = .tuple xs → ndA xs = true) :
    callN Δ0 wf (n + 2) "is_act" [.val (.tuple [G, .tuple (rs.map Rl.w)]), .val v] = .ok (.s (.val (.bool (isActB rs v)))) [] := by
  refine call_E u_is_act rfl ?_
  cases v with
  | tuple xs =>
    have hx := hs xs rfl
    match xs, hx with
    | [], _ => simp [F_is_act, isActB]
    | [a], _ => simp [F_is_act, isActB]
    | [a, i], hx =>
      simp only [ndA, List.all_cons, List.all_nil, Bool.and_true, Bool.and_eq_true] at hx
      have c1 := c_is_int (wf := wf) (n := n) (v := i) (lo := 0) (hi := (rs.length : Int) - 1) hx.2
      cases a with
      | str k =>
        by_cases hi : isIntB i 0 ((rs.length : Int) - 1) = true
        · by_cases hk : k = "off"
          · simp [F_is_act, callR, c1, hi, hk, isActB]
          · by_cases hk2 : k = "most"
            · simp [F_is_act, callR, c1, hi, hk2, isActB]
            · simp [F_is_act, callR, c1, hi, hk, hk2, isActB]
        · simp [F_is_act, callR, c1, hi, isActB]
      | dict kvs => cases hx.1
      | _ => simp [F_is_act, isActB]
    | [a, i, m], hx =>
      simp only [ndA, List.all_cons, List.all_nil, Bool.and_true, Bool.and_eq_true] at hx
      have c1 := c_is_int (wf := wf) (n := n) (v := i) (lo := 0) (hi := (rs.length : Int) - 1) hx.2.1
      have c2 := c_is_int (wf := wf) (n := n) (v := m) (lo := 1) (hi := 2) hx.2.2
      cases a with
      | str k =>
        by_cases hi : isIntB i 0 ((rs.length : Int) - 1) = true
        · by_cases hk : k = "off"
          · simp [F_is_act, callR, c1, hi, hk, isActB]
          · by_cases hk2 : k = "most"
            · by_cases hm : isIntB m 1 2 = true
              · obtain ⟨j, rfl, h4, h5⟩ := isIntB_cases hi
                obtain ⟨m', rfl, h6, h7⟩ := isIntB_cases hm
                obtain ⟨r, hr⟩ : ∃ r, rs[j.toNat]? = some r := ⟨_, List.getElem?_eq_getElem (by omega)⟩
                have hj : atI (rs.map Rl.w) j = some r.w := by rw [atI_of h4, List.getElem?_map, hr]; rfl
                have c3 := c_most_of (wf := wf) (n := n) (r := r)
                have e : isActB rs (.tuple [.str "most", .int j, .int m']) = capOk m' r := by
                  simp [isActB, hr, h6, h7, h4, h5]
                rw [hk2, e]
                simp only [isIntB_int] at hi hm
                simp [F_is_act, callR, c1, h4, h5, c2, h6, h7, hj, c3]
                cases r with
                | pack g s p mo => cases mo <;> simp [mostW, capOk]
                | each w k mo => cases mo <;> simp [mostW, capOk]
                | frm => simp [mostW, capOk]
                | over => simp [mostW, capOk]
              · simp [F_is_act, callR, c1, hi, hk2, c2, hm, isActB]
            · simp [F_is_act, callR, c1, hi, hk, hk2, isActB]
        · simp [F_is_act, callR, c1, hi, isActB]
      | dict kvs => cases hx.1
      | _ => simp [F_is_act, isActB]
    | _ :: _ :: _ :: _ :: l, _ =>
      have h1 : ¬ ((l.length : Int) + 1 + 1 + 1 + 1 ≤ 3) := by omega
      have h2 : (2 : Int) ≤ (l.length : Int) + 1 + 1 + 1 + 1 := by omega
      simp [F_is_act, isActB, h1, h2]
  | dict kvs => cases hv
  | _ => simp [F_is_act, isActB]
theorem c_rises {as : List Act} (hz : as.length ≤ 1000) : callN Δ0 wf (n + 1) "rises" [.val (.tuple (as.map Act.w))] = .ok (.s (.val (.bool (risesA as)))) [] := by
  refine call_E u_rises rfl ?_
  have s1 : sliop (.tuple (as.map Act.w)) (some 1) none = some (.s (.val (.tuple ((as.drop 1).map Act.w)))) := by
    rw [show (1 : Int) = ((1 : Nat) : Int) from rfl, sli_from, List.map_drop]
  simp [F_rises, s1, ev_lc, zipW_map]
  rw [kLc_map (L := as.zip (as.drop 1)) (f := fun p => .tuple [p.1.w, p.2.w]) (g := fun p => .bool (p.1.lt p.2)) (by rw [← List.map_tail, zipW_map]; simp) (szl _ (by simp; omega)) (by simp) (fun p hp => by simp [cmp_ltA]) (by simp)]
  simp [allB_bools, risesA, List.all_map, Function.comp_def]
theorem okD_act {a : Act} {k : Nat} : okD (k + 1) a.w = true := by
  have h1 : PyData.strOk "most" = true := by decide +kernel
  have h2 : PyData.strOk "off" = true := by decide +kernel
  cases a <;> simp [Act.w, okD, okDs, h1, h2]
theorem okDs_acts {k : Nat} : ∀ as : List Act, okDs (k + 1) (as.map Act.w) = true
  | [] => by simp [okDs]
  | a :: as => by simp [okDs, okD_act, okDs_acts as]
theorem shp_acts {as : List Act} : shp (.tuple (as.map Act.w)) = true := by
  show okD 40 _ = true
  simp [okD, okDs_acts]
theorem shp_actsL {as : List Act} : shp (.list (as.map Act.w)) = true := by
  show okD 40 _ = true
  simp [okD, okDs_acts]
theorem any_act {a : Act} (as : List Act) : ((as.map Act.w).any fun z => PyData.eqv z a.w) = as.contains a := by
  induction as with
  | nil => rfl
  | cons b as ih =>
    simp only [List.map_cons, List.any_cons, ih, act_eqv, List.contains_cons]
    by_cases h : b = a
    · simp [h]
    · have : ¬ (a = b) := fun e => h e.symm
      simp [h, this]
theorem cmp_inA {a : Act} {as : List Act} : cmpop .In a.w (.tuple (as.map Act.w)) = some (as.contains a) := by
  have := act_shp a
  unfold cmpop
  simp only [this, shp_acts, Bool.and_self, if_true, any_act]
theorem cmp_notinA {a : Act} {as : List Act} : cmpop .NotIn a.w (.tuple (as.map Act.w)) = some (!as.contains a) := by
  have := act_shp a
  unfold cmpop
  simp only [this, shp_acts, Bool.and_self, if_true, any_act]
theorem acts_of {rs : List Rl} : ∀ {xs : List W}, xs.all (isActB rs) = true → ∃ as : List Act, xs = as.map Act.w ∧ ∀ a ∈ as, a.ok rs
  | [], _ => ⟨[], rfl, by simp⟩
  | x :: xs, h => by
    simp only [List.all_cons, Bool.and_eq_true] at h
    obtain ⟨a, rfl, ha⟩ := isActB_ok h.1
    obtain ⟨as, rfl, has⟩ := acts_of h.2
    exact ⟨a :: as, rfl, fun b hb => by
      rcases List.mem_cons.mp hb with rfl | hb
      · exact ha
      · exact has b hb⟩
def risesW (xs : List W) : Bool := (xs.zip (xs.drop 1)).all fun p => PySem.W.dataLt p.1 p.2
theorem rises_acts {as : List Act} : risesW (as.map Act.w) = risesA as := by
  unfold risesW risesA
  rw [← List.map_drop, List.zip_map, List.all_map]
  simp only [Function.comp_def, Prod.map, act_lt]
def actsB (rs : List Rl) : W → Bool
  | .tuple xs => decide (xs.length ≤ 8) && xs.all (isActB rs) && risesW xs
  | _ => false
theorem c_acts_stand {G v : W} (hv : nd v = true) (hs : ∀ xs, v = .tuple xs → xs.length ≤ 1000 ∧ ∀ x ∈ xs, ndn 2 x = true) :
    callN Δ0 wf (n + 3) "acts_stand" [.val (.tuple [G, .tuple (rs.map Rl.w)]), .val v] = .ok (.s (.val (.bool (actsB rs v)))) [] := by
  refine call_E u_acts_stand rfl ?_
  cases v with
  | tuple xs =>
    obtain ⟨hz, hx⟩ := hs xs rfl
    by_cases h8 : xs.length ≤ 8
    · have h8' : ¬ ((8 : Int) < (xs.length : Int)) := by omega
      simp [F_acts_stand, h8', ev_lc]
      rw [kLc_map (L := xs) (f := id) (g := fun x => .bool (isActB rs x)) (by simp) (szl _ (by omega)) (by simp) (fun x hx' => ?_) (by simp)]
      · by_cases ha : xs.all (isActB rs) = true
        · obtain ⟨as, rfl, has⟩ := acts_of ha
          have c1 := c_rises (wf := wf) (n := n + 1) (as := as) (by simpa using hz)
          have e : actsB rs (.tuple (as.map Act.w)) = risesA as := by
            simp only [actsB, ha, rises_acts, Bool.and_true]
            rw [decide_eq_true h8]
            simp
          have ha' : ∀ x ∈ as, isActB rs x.w = true := fun x hx => isActB_of (has x hx)
          have al : allB (as.map fun x => .bool (isActB rs x.w)) = some (as.map fun x => isActB rs x.w) := allB_bools as
          simp [Function.comp_def, al, callR, c1, e]
          intro x hx h0
          rw [ha' x hx] at h0
          cases h0
        · have ha' : xs.all (isActB rs) = false := by simpa using ha
          have hf : ∃ x ∈ xs, isActB rs x = false := by simpa using ha'
          simp [allB_bools, actsB, ha', hf]
      · have hn := hx x hx'
        have c1 := c_is_act (wf := wf) (n := n) (G := G) (rs := rs) (v := x) (ndn_nd hn) (ndn_ndA hn)
        simp [callR, c1]
    · have h8' : (8 : Int) < (xs.length : Int) := by omega
      simp [F_acts_stand, h8', actsB, h8]
  | dict kvs => cases hv
  | _ => simp [F_acts_stand, actsB]
/-! ### shops under acts -/
def keptV (k : Nat) (as : List Act) : List Nat := (List.range k).filter fun j => !as.contains (.off j)
def mostsV (as : List Act) (k : Nat) : List Int := as.filterMap fun | .most r m => if r = k then some m else none | .off _ => none
def capR (ms : List Int) (r : Rl) : Rl := if ms = [] then r else match r with
  | .pack g s p _ => .pack g s p (some (minI ms))
  | .each w k _ => .each w k (some (minI ms))
  | r => r
def underV (rs : List Rl) (as : List Act) : List Rl := (keptV rs.length as).filterMap fun k => (rs[k]?).map (capR (mostsV as k))
theorem c_kept {G : W} {as : List Act} (hz : rs.length ≤ 1000) : callN Δ0 wf (n + 1) "kept_rules" [.val (.tuple [G, .tuple (rs.map Rl.w)]), .val (.tuple (as.map Act.w))] = .ok (.s (.own false ((keptV rs.length as).map fun k => .int (k : Nat)))) [] := by
  refine call_E u_kept_rules rfl ?_
  have rg := rng_lit (k := rs.length) (by omega)
  simp [F_kept_rules, rg, ev_lc]
  rw [kLc_pure (L := List.range rs.length) (f := fun k => .int (k : Nat)) (g := fun k => if !as.contains (.off k) then some (.int (k : Nat)) else none) rfl (szl _ (by simp; omega)) (by simp) (fun k hk => ?_) (by simp)]
  · have : ∀ l : List Nat, l.filterMap (fun k => if !as.contains (.off k) then some (PyData.int (k : Nat)) else none) = (l.filter fun j => !as.contains (.off j)).map fun k => .int (k : Nat) := fun l => by
      induction l with
      | nil => rfl
      | cons a l ih =>
        rw [List.filterMap_cons, List.filter_cons]
        cases as.contains (.off a) <;> simp_all
    rw [this]
    simp [keptV]
  · have cn := cmp_notinA (a := .off k) (as := as)
    rw [aw_o] at cn
    by_cases h : Act.off k ∈ as <;> simp [cn, h]
def mostAt (k : Nat) : Act → Option W
  | .most r m => if r = k then some (.int m) else none
  | .off _ => none
theorem mosts_w (k : Nat) : ∀ as : List Act, as.filterMap (mostAt k) = (mostsV as k).map .int
  | [] => rfl
  | .most r m :: as => by
    have ih := mosts_w k as
    unfold mostsV at ih ⊢
    by_cases h : r = k
    · simp [mostAt, h]
      exact ih
    · simp [mostAt, h]
      exact ih
  | .off r :: as => by
    have ih := mosts_w k as
    unfold mostsV at ih ⊢
    rw [List.filterMap_cons_none (by rfl), List.filterMap_cons_none (by rfl)]
    exact ih
theorem capR_w {r : Rl} {ms : List Int} (hm : ms ≠ []) (hc : ∃ m, capOk m r = true ∧ 0 ≤ m) : (capR ms r).w = .tuple (((match r.w with | .tuple xs => xs | _ => []) : List W).dropLast ++ [.int (minI ms)]) := by
  obtain ⟨m, h1, h2⟩ := hc
  unfold capR
  rw [if_neg hm]
  cases r with
  | pack g s p mo => simp [rlw_p]
  | each w k mo => simp [rlw_e]
  | frm => simp [capOk] at h1; omega
  | over => simp [capOk] at h1; omega
theorem ne_nil {xs : List W} (h : shp (.list xs) = true) : cmpop .NotEq (.list xs) (.list []) = some (!xs.isEmpty) := by
  have e : eqOk (.list xs) (.list []) = true := by
    unfold eqOk
    rw [h]
    rfl
  unfold cmpop
  simp only [e, if_true]
  cases xs <;> simp [PyData.eqv, PyData.eqvAll]
theorem ne_nil0 : cmpop .NotEq (.list []) (.list []) = some false := by rw [ne_nil rfl]; rfl
theorem eq_nil_ints {ms : List Int} : cmpop .NotEq (.list (ms.map .int)) (.list []) = some (!decide (ms = [])) := by
  rw [ne_nil (okDs_ints 39 ms)]
  cases ms <;> simp
theorem bltop_minL {ms : List Int} (h : ms ≠ []) : bltop "min" [.list (ms.map .int)] = some (.s (.val (.int (minI ms)))) := by
  unfold bltop
  simp [allI_ints]
  cases ms with
  | nil => exact absurd rfl h
  | cons a l => simp
theorem c_under {G : W} {as : List Act} (hz : rs.length ≤ 1000) (hz2 : as.length ≤ 1000) (ha : ∀ a ∈ as, a.ok rs) :
    callN Δ0 wf (n + 2) "under" [.val (.tuple [G, .tuple (rs.map Rl.w)]), .val (.tuple (as.map Act.w))] = .ok (.t [.val G, .val (.tuple ((underV rs as).map Rl.w))]) [] := by
  refine call_E u_under rfl ?_
  have c1 := c_kept (wf := wf) (n := n) (G := G) (rs := rs) (as := as) hz
  simp [F_under, callR, c1]
  refine W_fr (L := keptV rs.length as) (f := fun k => .int (k : Nat)) (fun done e => ∃ a b c, e = [some (.val (.tuple [G, .tuple (rs.map Rl.w)])), some (.val (.tuple (as.map Act.w))), some (.own false ((done.filterMap fun k => (rs[k]?).map (capR (mostsV as k))).map Rl.w)), a, b, c, none]) rfl ⟨none, none, none, rfl⟩ ?_ ?_
  · rintro done k rest e hL ⟨a, b, c, rfl⟩
    refine ⟨by simp [watchOf], ?_⟩
    have hk : k < rs.length := by
      have : k ∈ keptV rs.length as := by rw [hL]; simp
      have := (List.mem_filter.mp this).1
      simpa using this
    obtain ⟨r, hr⟩ : ∃ r, rs[k]? = some r := ⟨_, List.getElem?_eq_getElem hk⟩
    have hx := (List.getElem?_eq_some_iff.mp hr).2
    have dl : done.length ≤ rs.length := by
      have h1 : (keptV rs.length as).length ≤ rs.length := by
        have := List.length_filter_le (fun j => !as.contains (.off j)) (List.range rs.length)
        simpa [keptV] using this
      rw [hL] at h1
      simp at h1
      omega
    have dl2 : (done.filterMap fun k => (rs[k]?).map (capR (mostsV as k))).length < sizeLine := szl _ (by
      have := List.length_filterMap_le (fun k => (rs[k]?).map (capR (mostsV as k))) done
      omega)
    have ap : ((done ++ [k]).filterMap fun k => (rs[k]?).map (capR (mostsV as k))) = (done.filterMap fun k => (rs[k]?).map (capR (mostsV as k))) ++ [capR (mostsV as k) r] := by
      simp [hr]
    rw [ap]
    simp [hk, hx, ev_lc]
    rw [kLc_pure (L := as) (f := Act.w) (g := mostAt k) rfl (szl _ (by omega)) (by simp) (fun a ha' => ?_) (by simp)]
    · have e1 := mosts_w k as
      rw [e1]
      by_cases hm : mostsV as k = []
      · have q := eq_nil_ints (ms := mostsV as k)
        simp only [hm, decide_true, Bool.not_true] at q
        have ce : capR [] r = r := by simp [capR]
        simp [hm, ne_nil0, dl2, ce]
      · have q := eq_nil_ints (ms := mostsV as k)
        have qm := bltop_minL hm
        obtain ⟨m0, hm0⟩ := List.exists_mem_of_ne_nil _ hm
        have hc : ∃ m, capOk m r = true ∧ 0 ≤ m := by
          obtain ⟨a, h1, h2⟩ := List.mem_filterMap.mp hm0
          cases a with
          | off => cases h2
          | most r' m =>
            simp only at h2
            split at h2
            · rename_i e
              subst e
              obtain ⟨h3, x, h4, h5⟩ := ha _ h1
              rw [hr] at h4
              cases h4
              exact ⟨m, h5, by omega⟩
            · cases h2
        have cw := capR_w (r := r) hm hc
        have sl : ∀ xs : List W, sliop (.tuple xs) none (some (-1)) = some (.s (.val (.tuple xs.dropLast))) := fun xs => by
          show some (RV.s (.val (.tuple (cutW xs none (some (-1)))))) = _
          rw [cut_neg]
        have ta : ∀ xs : List W, xs.length ≤ 100 → binop .Add (.tuple xs) (.tuple [.int (minI (mostsV as k))]) = some (.s (.val (.tuple (xs ++ [.int (minI (mostsV as k))])))) := fun xs h => tup_add (by simp; omega)
        cases r with
        | pack g s p mo =>
          have tb := ta [.str "pack", .int g, .int s, .int p] (by simp)
          simp [rlw_p] at cw
          simp [hm, q, qm, rlw_p, sl, tb, dl2, cw]
        | each w k' mo =>
          have tb := ta [.str "each", .int w, .int k'] (by simp)
          simp [rlw_e] at cw
          simp [hm, q, qm, rlw_e, sl, tb, dl2, cw]
        | frm => obtain ⟨m, h1, h2⟩ := hc; simp [capOk] at h1; omega
        | over => obtain ⟨m, h1, h2⟩ := hc; simp [capOk] at h1; omega
    · cases a with
      | most r' m =>
        by_cases e : r' = k
        · subst e; simp [aw_m, mostAt]
        · have : ¬ ((r' : Int) = (k : Int)) := by omega
          simp [aw_m, this, e, mostAt]
      | off r' => simp [aw_o, mostAt]
  · rintro e ⟨a, b, c, rfl⟩
    simp [watchOf, underV]
end
end D

namespace D
open PySem L2
/-! ### shops under acts are shops -/
theorem minI_mem : ∀ {ms : List Int}, ms ≠ [] → minI ms ∈ ms
  | [], h => absurd rfl h
  | [x], _ => by simp [minI]
  | x :: y :: r, _ => by
    have ih := minI_mem (ms := y :: r) (by simp)
    simp only [minI]
    split
    · exact List.mem_cons_of_mem _ ih
    · simp
theorem mosts_range {rs : List Rl} {as : List Act} {k : Nat} (ha : ∀ a ∈ as, a.ok rs) : ∀ m ∈ mostsV as k, (1 ≤ m ∧ m ≤ 2) ∧ ∃ x, rs[k]? = some x ∧ capOk m x = true := by
  intro m hm
  obtain ⟨a, h1, h2⟩ := List.mem_filterMap.mp hm
  cases a with
  | off => cases h2
  | most r m' =>
    simp only at h2
    split at h2
    · rename_i e
      subst e
      cases h2
      exact ha _ h1
    · cases h2
theorem capR_ok {rs : List Rl} {as : List Act} {k : Nat} {r : Rl} {c : Int} (ha : ∀ a ∈ as, a.ok rs) (hr : r.ok c) : (capR (mostsV as k) r).ok c := by
  unfold capR
  split
  · exact hr
  · rename_i hm
    have h1 := mosts_range ha _ (minI_mem hm)
    have mo : mostOk (some (minI (mostsV as k))) := by
      have : minI (mostsV as k) = 1 ∨ minI (mostsV as k) = 2 := by omega
      rcases this with h | h <;> rw [h]
      · exact .inr (.inl rfl)
      · exact .inr (.inr rfl)
    cases r with
    | pack g s p m => exact ⟨hr.1, hr.2.1, hr.2.2.1, mo⟩
    | each w q m => exact ⟨hr.1, hr.2.1, mo, hr.2.2.2⟩
    | frm => exact hr
    | over => exact hr
theorem capR_open {ms : List Int} {r : Rl} (h : (capR ms r).open_ = true) : r.open_ = true := by
  unfold capR at h
  split at h
  · exact h
  · cases r <;> first | exact h | cases h
theorem range_get {rs : List Rl} : (List.range rs.length).filterMap (fun k => rs[k]?) = rs := by
  induction rs with
  | nil => rfl
  | cons r rs ih =>
    rw [List.length_cons, List.range_succ_eq_map, List.filterMap_cons]
    simp only [List.getElem?_cons_zero, List.filterMap_map]
    congr 1
theorem open_le {rs : List Rl} {ms : Nat → List Int} : ∀ ks : List Nat, ((ks.filterMap fun k => (rs[k]?).map (capR (ms k))).filter Rl.open_).length ≤ ((ks.filterMap fun k => rs[k]?).filter Rl.open_).length
  | [] => by simp
  | k :: ks => by
    have ih := open_le (rs := rs) (ms := ms) ks
    cases q : rs[k]? with
    | none => simpa [q] using ih
    | some r =>
      simp only [List.filterMap_cons, q, Option.map_some, List.filter_cons]
      cases h1 : (capR (ms k) r).open_ with
      | true => simp [capR_open h1]; exact ih
      | false =>
        simp only [Bool.false_eq_true, if_false]
        split
        · simp; omega
        · exact ih
theorem ShG.under {gs : List (Int × Int)} {rs : List Rl} {as : List Act} (h : ShG gs rs) (ha : ∀ a ∈ as, a.ok rs) : ShG gs (underV rs as) := by
  have sub : ((keptV rs.length as).filterMap fun k => rs[k]?).Sublist rs := by
    have := (List.filter_sublist (l := List.range rs.length) (p := fun j => !as.contains (.off j))).filterMap fun k => rs[k]?
    rw [range_get] at this
    exact this
  have len : (underV rs as).length = ((keptV rs.length as).filterMap fun k => rs[k]?).length := by
    unfold underV
    have : ∀ ks : List Nat, (ks.filterMap fun k => (rs[k]?).map (capR (mostsV as k))).length = (ks.filterMap fun k => rs[k]?).length := fun ks => by
      induction ks with
      | nil => rfl
      | cons k ks ih => cases q : rs[k]? <;> simp [q, ih]
    exact this _
  refine ⟨h.gl, h.gok, ?_, fun r hr => ?_, ?_⟩
  · rw [len]
    exact Nat.le_trans sub.length_le h.rl
  · unfold underV at hr
    obtain ⟨k, _, h2⟩ := List.mem_filterMap.mp hr
    cases q : rs[k]? with
    | none => rw [q] at h2; cases h2
    | some r0 =>
      rw [q] at h2
      cases h2
      exact capR_ok ha (h.rok r0 (List.mem_of_getElem? q))
  · exact Nat.le_trans (open_le _) (Nat.le_trans (sub.filter _).length_le h.opn)
section
variable {wf n : Nat} {gs : List (Int × Int)} {rs : List Rl} {ns : List Int}
/-- acts of a shop -/
structure Acts (rs : List Rl) (as : List Act) : Prop where
  l : as.length ≤ 8
  ok : ∀ a ∈ as, a.ok rs
  up : risesA as = true
theorem Acts.b {as : List Act} (h : Acts rs as) : actsB rs (.tuple (as.map Act.w)) = true := by
  have : (as.map Act.w).all (isActB rs) = true := by
    rw [List.all_map, List.all_eq_true]
    exact fun a ha => isActB_of (h.ok a ha)
  simp only [actsB, this, rises_acts, h.up, Bool.and_true]
  exact decide_eq_true (by simpa using h.l)
theorem ndn_act {a : Act} {k : Nat} : ndn k a.w = true := by
  cases a <;> cases k <;> simp [Act.w]
theorem c_acts_ok {G : W} {as : List Act} (h : Acts rs as) : callN Δ0 wf (n + 3) "acts_stand" [.val (.tuple [G, .tuple (rs.map Rl.w)]), .val (.tuple (as.map Act.w))] = .ok (.s (.val (.bool true))) [] := by
  rw [c_acts_stand rfl fun xs e => ?_, h.b]
  cases e
  refine ⟨by have := h.l; simp; omega, fun x hx => ?_⟩
  obtain ⟨a, _, rfl⟩ := List.mem_map.mp hx
  exact ndn_act
theorem c_need_acts {as : List Act} (h : Shp gs rs) (ha : Acts rs as) : callN Δ0 wf (n + 6) "need_acts" [.val (shT gs rs), .val (.tuple (as.map Act.w))] = .ok (.s (.val .none)) [] := by
  refine call_E u_need_acts rfl ?_
  have c1 := c_need_shop (wf := wf) (n := n) h
  have c2 := c_acts_ok (wf := wf) (n := n + 2) (G := .tuple (gs.map gdW)) ha
  simp [F_need_acts, callR, c1, c2]
theorem c_shop_under {as : List Act} (h : Shp gs rs) (ha : Acts rs as) : callN Δ0 wf (n + 7) "shop_under" [.val (shT gs rs), .val (.tuple (as.map Act.w))] = .ok (.t [.val (.tuple (gs.map gdW)), .val (.tuple ((underV rs as).map Rl.w))]) [] := by
  refine call_E u_shop_under rfl ?_
  have c1 := c_need_acts (wf := wf) (n := n) h ha
  have c2 := c_under (wf := wf) (n := n + 4) (G := .tuple (gs.map gdW)) (rs := rs) (as := as) h.rlz (by have := ha.l; omega) ha.ok
  simp [F_shop_under, callR, c1, c2]
theorem c_are_acts {v : W} (h : Shp gs rs) (hv : nd v = true) (hs : ∀ xs, v = .tuple xs → xs.length ≤ 1000 ∧ ∀ x ∈ xs, ndn 2 x = true) : callN Δ0 wf (n + 6) "are_acts" [.val (shT gs rs), .val v] = .ok (.s (.val (.bool (actsB rs v)))) [] := by
  refine call_E u_are_acts rfl ?_
  have c1 := c_need_shop (wf := wf) (n := n) h
  have c2 := c_acts_stand (wf := wf) (n := n + 2) (G := .tuple (gs.map gdW)) (rs := rs) hv hs
  simp [F_are_acts, callR, c1, c2]
theorem c_law_under {G : W} {as : List Act} (hz : rs.length ≤ 1000) (hz2 : as.length ≤ 1000) (ha : ∀ a ∈ as, a.ok rs) :
    callN Δ0 wf (n + 1) "_law_under" [.val (.tuple [G, .tuple (rs.map Rl.w)]), .val (.tuple (as.map Act.w))] = .ok (.t [.val G, .val (.tuple ((underV rs as).map Rl.w))]) [] := by
  refine call_E u__law_under rfl ?_
  simp [F__law_under, enumW_map]
  refine W_frX (L := rs) (f := fun i r => .tuple [.int i, r.w]) (fun done e => ∃ a b c, e = [some (.val (.tuple [G, .tuple (rs.map Rl.w)])), some (.val (.tuple (as.map Act.w))), some (.own false ((((List.range done.length).filter fun j => !as.contains (.off j)).filterMap fun k => (rs[k]?).map (capR (mostsV as k))).map Rl.w)), a, b, c, none]) rfl ⟨none, none, none, rfl⟩ ?_ ?_
  · rintro done r rest e hL ⟨a, b, c, rfl⟩
    refine ⟨by simp [watchOf], ?_⟩
    have hr : rs[done.length]? = some r := by rw [hL]; simp
    generalize hk : done.length = k at *
    have kl : k < rs.length := (List.getElem?_eq_some_iff.mp hr).1
    have dl2 : (((List.range k).filter fun j => !as.contains (.off j)).filterMap fun k => (rs[k]?).map (capR (mostsV as k))).length < sizeLine := szl _ (by
      have h1 := List.length_filterMap_le (fun k => (rs[k]?).map (capR (mostsV as k))) ((List.range k).filter fun j => !as.contains (.off j))
      have h2 := List.length_filter_le (fun j => !as.contains (.off j)) (List.range k)
      rw [List.length_range] at h2
      omega)
    have dl3 := dl2
    simp only [List.contains_eq_mem] at dl3
    have ap : (((List.range (done ++ [r]).length).filter fun j => !as.contains (.off j)).filterMap fun k => (rs[k]?).map (capR (mostsV as k))) = (((List.range k).filter fun j => !as.contains (.off j)).filterMap fun k => (rs[k]?).map (capR (mostsV as k))) ++ (if as.contains (.off k) then [] else [capR (mostsV as k) r]) := by
      rw [List.length_append, hk, List.length_singleton, List.range_succ, List.filter_append, List.filterMap_append]
      by_cases h : Act.off k ∈ as <;> simp [List.filter_cons, h, hr]
    rw [ap]
    simp [ev_lc]
    rw [kLc_pure (L := as) (f := Act.w) (g := mostAt k) rfl (szl _ (by omega)) (by simp) (fun a ha' => ?_) (by simp)]
    · rw [mosts_w]
      have cn := cmp_notinA (a := .off k) (as := as)
      rw [aw_o] at cn
      by_cases ho : Act.off k ∈ as
      · simp [cn, ho]
      · by_cases hm : mostsV as k = []
        · have ce : capR [] r = r := by simp [capR]
          simp [cn, ho, hm, ne_nil0, dl3, ce]
        · have q := eq_nil_ints (ms := mostsV as k)
          have qm := bltop_minL hm
          have hc : ∃ m, capOk m r = true ∧ 0 ≤ m := by
            obtain ⟨h1, x, h2, h3⟩ := mosts_range ha _ (minI_mem hm)
            rw [hr] at h2
            cases h2
            exact ⟨_, h3, by omega⟩
          have cw := capR_w (r := r) hm hc
          have sl : ∀ xs : List W, sliop (.tuple xs) none (some (-1)) = some (.s (.val (.tuple xs.dropLast))) := fun xs => by
            show some (RV.s (.val (.tuple (cutW xs none (some (-1)))))) = _
            rw [cut_neg]
          have ta : ∀ xs : List W, xs.length ≤ 100 → binop .Add (.tuple xs) (.tuple [.int (minI (mostsV as k))]) = some (.s (.val (.tuple (xs ++ [.int (minI (mostsV as k))])))) := fun xs h => tup_add (by simp; omega)
          cases r with
          | pack g s p mo =>
            have tb := ta [.str "pack", .int g, .int s, .int p] (by simp)
            simp [rlw_p] at cw
            simp [cn, ho, hm, q, qm, rlw_p, sl, tb, dl3, cw]
          | each w k' mo =>
            have tb := ta [.str "each", .int w, .int k'] (by simp)
            simp [rlw_e] at cw
            simp [cn, ho, hm, q, qm, rlw_e, sl, tb, dl3, cw]
          | frm => obtain ⟨m, h1, h2⟩ := hc; simp [capOk] at h1; omega
          | over => obtain ⟨m, h1, h2⟩ := hc; simp [capOk] at h1; omega
    · have s2 : ∀ (x y : W) (l : List W), sliop (.tuple (x :: y :: l)) none (some 2) = some (.s (.val (.tuple [x, y]))) := fun x y l => by
        rw [show (2 : Int) = ((2 : Nat) : Int) from rfl, sli_to]
        rfl
      have ok1 : ∀ (x : Str) (i j : Int), PyData.strOk x = true → eqOk (.tuple [.str x, .int i]) (.tuple [.str "most", .int j]) = true := fun x i j h => by
        have h1 : PyData.strOk "most" = true := by decide +kernel
        simp [eqOk, shp, okD, okDs, h, h1]
      have hs1 : PyData.strOk "most" = true := by decide +kernel
      have hs2 : PyData.strOk "off" = true := by decide +kernel
      cases a with
      | most r' m =>
        have cq : cmpop .Eq (.tuple [.str "most", .int r']) (.tuple [.str "most", .int k]) = some (decide (r' = k)) := by
          unfold cmpop
          simp only [ok1 _ _ _ hs1, if_true, PyData.eqv, PyData.eqvAll]
          by_cases e : r' = k
          · simp [e]
          · have : ¬ ((r' : Int) = (k : Int)) := by omega
            simp [e, this]
        by_cases e : r' = k
        · subst e; simp [aw_m, s2, cq, mostAt]
        · simp [aw_m, s2, cq, e, mostAt]
      | off r' =>
        have cq : cmpop .Eq (.tuple [.str "off", .int r']) (.tuple [.str "most", .int k]) = some false := by
          unfold cmpop
          simp only [ok1 _ _ _ hs2, if_true, PyData.eqv, PyData.eqvAll]
          simp
        simp [aw_o, s2, cq, mostAt]
  · rintro e ⟨a, b, c, rfl⟩
    simp [watchOf, underV, keptV]
end
end D

namespace D
open PySem L2
/-! ### one rule with a lesser most -/
theorem range_mapIdx {β : Type} : ∀ (rs : List Rl) (f : Nat → Rl → β), (List.range rs.length).filterMap (fun j => (rs[j]?).map (f j)) = rs.mapIdx f
  | [], f => rfl
  | r :: rs, f => by
    rw [List.length_cons, List.range_succ_eq_map, List.filterMap_cons]
    simp only [List.getElem?_cons_zero, Option.map_some, List.filterMap_map, List.mapIdx_cons]
    congr 1
    have := range_mapIdx rs fun j => f (j + 1)
    rw [← this]
    congr 1
theorem mapIdx_id {rs : List Rl} {f : Nat → Rl → Rl} (h : ∀ i r, f i r = r) : rs.mapIdx f = rs := by
  apply List.ext_getElem
  · simp
  · intro i h1 h2
    simp [h]
theorem under_one {xs ys : List Rl} {r : Rl} {m : Int} : underV (xs ++ r :: ys) [.most xs.length m] = xs ++ capR [m] r :: ys := by
  have kp : keptV (xs ++ r :: ys).length [.most xs.length m] = List.range (xs ++ r :: ys).length := by
    unfold keptV
    rw [List.filter_eq_self]
    intro j _
    rfl
  have mo : ∀ k, mostsV [.most xs.length m] k = if xs.length = k then [m] else [] := fun k => by
    unfold mostsV
    by_cases h : xs.length = k <;> simp [h]
  unfold underV
  rw [kp, range_mapIdx, List.mapIdx_append, List.mapIdx_cons]
  congr 1
  · apply List.ext_getElem
    · simp
    · intro i h1 h2
      have hi : i < xs.length := by simpa using h1
      have : ¬ (xs.length = i) := by omega
      simp [mo, this, capR]
  · congr 1
    · simp [mo]
    · refine mapIdx_id fun i r => ?_
      have : ¬ (xs.length = i + 1 + xs.length) := by omega
      simp [mo, this, capR]
theorem cap_fit {m : Int} {r : Rl} {g c : Int} : fitR g c (capR [m] r) = fitR g c r := by
  cases r <;> simp [capR]
theorem cap_isG {m : Int} {r : Rl} : (capR [m] r).isG = r.isG := by
  cases r <;> simp [capR, Rl.isG]
theorem ruleIx_cap {xs ys : List Rl} {r : Rl} {m g c : Int} : ruleIx (xs ++ capR [m] r :: ys) g c = ruleIx (xs ++ r :: ys) g c := by
  unfold ruleIx
  rw [List.findIdx?_append, List.findIdx?_append, List.findIdx?_cons, List.findIdx?_cons, cap_fit]
theorem find_cap {xs ys : List Rl} {r : Rl} {m g c : Int} : (xs ++ capR [m] r :: ys).find? (fitR g c) = if ruleIx (xs ++ r :: ys) g c = some xs.length then some (capR [m] r) else (xs ++ r :: ys).find? (fitR g c) := by
  rw [List.find?_append, List.find?_append, List.find?_cons, List.find?_cons, cap_fit]
  cases hx : xs.find? (fitR g c) with
  | some z =>
    have : ruleIx (xs ++ r :: ys) g c ≠ some xs.length := by
      intro h
      unfold ruleIx at h
      rw [List.findIdx?_append] at h
      cases q : xs.findIdx? (fitR g c) with
      | some i =>
        rw [q] at h
        have hi := (List.findIdx?_eq_some_iff_getElem.mp q).1
        simp at h
        omega
      | none =>
        have h1 := List.findIdx?_eq_none_iff.mp q
        have h2 := List.find?_some hx
        have h3 := h1 z (List.mem_of_find?_eq_some hx)
        rw [h2] at h3
        cases h3
    rw [if_neg this]
    simp
  | none =>
    have hx' : xs.findIdx? (fitR g c) = none := by
      rw [List.findIdx?_eq_none_iff]
      intro z hz
      have := List.find?_eq_none.mp hx z hz
      simpa using this
    have e : ruleIx (xs ++ r :: ys) g c = if fitR g c r then some xs.length else (ys.findIdx? (fitR g c)).map (fun i => i + 1 + xs.length) := by
      unfold ruleIx
      rw [List.findIdx?_append, hx', List.findIdx?_cons]
      cases fitR g c r with
      | true => simp
      | false => cases ys.findIdx? (fitR g c) <;> simp
    rw [e]
    cases hf : fitR g c r with
    | true => simp
    | false =>
      have : (ys.findIdx? (fitR g c)).map (fun i => i + 1 + xs.length) ≠ some xs.length := by
        cases ys.findIdx? (fitR g c) with
        | none => simp
        | some i => simp
      simp [this]
theorem taken_cap {t s m : Int} {mo : Option Int} (h : mo = none ∨ ∃ j, mo = some j ∧ m < j) : taken t s (some m) = if m < taken t s mo then m else taken t s mo := by
  rcases h with rfl | ⟨j, rfl, hj⟩
  · rfl
  · have e : taken t s (some j) = if j < t / s then j else t / s := rfl
    have e2 : taken t s (some m) = if m < t / s then m else t / s := rfl
    by_cases h1 : j < t / s
    · rw [if_pos h1] at e
      rw [e, e2, if_pos (by omega), if_pos hj]
    · rw [if_neg h1] at e
      rw [e, e2]
theorem capOk_cases {m : Int} {r : Rl} (h : capOk m r = true) (hm : 1 ≤ m) : (∃ g s p mo, r = .pack g s p mo ∧ (mo = none ∨ ∃ j, mo = some j ∧ m < j)) ∨ ∃ w k mo, r = .each w k mo ∧ (mo = none ∨ ∃ j, mo = some j ∧ m < j) := by
  cases r with
  | pack g s p mo =>
    refine .inl ⟨g, s, p, mo, rfl, ?_⟩
    cases mo with
    | none => exact .inl rfl
    | some j => exact .inr ⟨j, rfl, by simpa [capOk] using h⟩
  | each w k mo =>
    refine .inr ⟨w, k, mo, rfl, ?_⟩
    cases mo with
    | none => exact .inl rfl
    | some j => exact .inr ⟨j, rfl, by simpa [capOk] using h⟩
  | frm => simp [capOk] at h; omega
  | over => simp [capOk] at h; omega
theorem takV_append : ∀ (xs ys : List Rl) (t : Int), takV (xs ++ ys) t = ((takV xs t).1 ++ (takV ys (takV xs t).2).1, (takV ys (takV xs t).2).2)
  | [], ys, t => rfl
  | x :: xs, ys, t => by
    simp only [List.cons_append, takV]
    rw [takV_append xs ys (leftR t x)]
theorem takV_cap_pack {xs ys : List Rl} {g s p : Int} {mo mo' : Option Int} {t : Int} : takV (xs ++ .pack g s p mo :: ys) t = takV (xs ++ .pack g s p mo' :: ys) t := by
  rw [takV_append, takV_append]
  simp only [takV]
  have e1 : takes (takV xs t).2 (.pack g s p mo) = takes (takV xs t).2 (.pack g s p mo') := rfl
  have e2 : leftR (takV xs t).2 (.pack g s p mo) = leftR (takV xs t).2 (.pack g s p mo') := rfl
  rw [e1, e2]
section
variable {gs : List (Int × Int)} {xs ys : List Rl} {r : Rl} {m : Int} {b : List Int}
/-- the use of the rule in the middle -/
def midU (gs : List (Int × Int)) (xs ys : List Rl) (r : Rl) (b : List Int) : Int := ((usesV gs (xs ++ r :: ys) b)[xs.length]?).getD 0
theorem mid_isG (hg : r.isG = true) : (∃ (j : Nat) (c : Int), b[j]? = some c ∧ ruleIx (xs ++ r :: ys) j c = some xs.length ∧ midU gs xs ys r b = useV (xs ++ r :: ys) j c) ∨ ((∀ (j : Nat) c, b[j]? = some c → ruleIx (xs ++ r :: ys) j c ≠ some xs.length) ∧ midU gs xs ys r b = 0) := by
  have hk : xs.length < (takV (xs ++ r :: ys) (amtL gs (xs ++ r :: ys) b).sum).1.length := by rw [takV_len]; simp
  unfold midU usesV
  rcases setG_get (xs ++ r :: ys) xs.length b 0 _ hk with ⟨q1, q2⟩ | ⟨j, c, q1, q2, q3⟩
  · refine .inr ⟨fun j c hj => ?_, ?_⟩
    · have := q2 j c hj
      simpa using this
    · rw [q1, takV_isG0 (r := r) (by simp) hg]
      rfl
  · simp only [Nat.zero_add] at q2 q3
    exact .inl ⟨j, c, q1, q2, by rw [q3]; rfl⟩
theorem mid_each {w k : Int} {mo : Option Int} : midU gs xs ys (.each w k mo) b = taken (takV xs (amtL gs (xs ++ .each w k mo :: ys) b).sum).2 w mo := by
  have hk : xs.length < (takV (xs ++ .each w k mo :: ys) (amtL gs (xs ++ .each w k mo :: ys) b).sum).1.length := by rw [takV_len]; simp
  unfold midU usesV
  rcases setG_get (xs ++ .each w k mo :: ys) xs.length b 0 _ hk with ⟨q1, q2⟩ | ⟨j, c, q1, q2, q3⟩
  · rw [q1, takV_append]
    simp [takV, takV_len, takes]
  · obtain ⟨r', z1, z2, _⟩ := ruleIx_get q2
    simp at z1
    subst z1
    cases z2
theorem amt_each {w k : Int} {mo mo' : Option Int} : amtL gs (xs ++ .each w k mo :: ys) b = amtL gs (xs ++ .each w k mo' :: ys) b := by
  unfold amtL amountV
  have : ∀ g c, (xs ++ .each w k mo :: ys).find? (fitR g c) = (xs ++ .each w k mo' :: ys).find? (fitR g c) := fun g c => by
    rw [List.find?_append, List.find?_append, List.find?_cons, List.find?_cons]
    rfl
  simp only [this]
/-- a rule with a lesser most: its uses, and charges where it is not used more often -/
theorem cap_law (h : capOk m r = true) (hm : 1 ≤ m) : midU gs xs ys (capR [m] r) b = (if m < midU gs xs ys r b then m else midU gs xs ys r b) ∧ (midU gs xs ys r b ≤ m → chargeV gs (xs ++ capR [m] r :: ys) b = chargeV gs (xs ++ r :: ys) b) := by
  have m1 : minI [m] = m := rfl
  rcases capOk_cases h hm with ⟨g, s, p, mo, rfl, hmo⟩ | ⟨w, k, mo, rfl, hmo⟩
  · have ce : capR [m] (.pack g s p mo) = .pack g s p (some m) := by simp [capR, m1]
    have fnd : ∀ g' c', (xs ++ .pack g s p (some m) :: ys).find? (fitR g' c') = if ruleIx (xs ++ .pack g s p mo :: ys) g' c' = some xs.length then some (.pack g s p (some m)) else (xs ++ .pack g s p mo :: ys).find? (fitR g' c') := fun g' c' => by
      have := find_cap (xs := xs) (ys := ys) (r := .pack g s p mo) (m := m) (g := g') (c := c')
      rw [ce] at this
      exact this
    have rix : ∀ g' c', ruleIx (xs ++ .pack g s p (some m) :: ys) g' c' = ruleIx (xs ++ .pack g s p mo :: ys) g' c' := fun g' c' => by
      have := ruleIx_cap (xs := xs) (ys := ys) (r := .pack g s p mo) (m := m) (g := g') (c := c')
      rw [ce] at this
      exact this
    have use : ∀ g' c', ruleIx (xs ++ .pack g s p mo :: ys) g' c' = some xs.length → (xs ++ .pack g s p mo :: ys).find? (fitR g' c') = some (.pack g s p mo) ∧ g' = g ∧ useV (xs ++ .pack g s p mo :: ys) g' c' = taken c' s mo ∧ useV (xs ++ .pack g s p (some m) :: ys) g' c' = taken c' s (some m) := fun g' c' hr => by
      obtain ⟨r', z1, z2, z3⟩ := ruleIx_get hr
      simp at z1
      subst z1
      simp at z2
      refine ⟨z3, z2.1.symm, ?_, ?_⟩
      · unfold useV; rw [z3]
      · unfold useV; rw [fnd, if_pos hr]
    rw [ce]
    have tc := fun t => taken_cap (t := t) (s := s) (m := m) hmo
    constructor
    · rcases mid_isG (gs := gs) (xs := xs) (ys := ys) (r := .pack g s p mo) (b := b) rfl with ⟨j, c, q1, q2, q3⟩ | ⟨q1, q2⟩
      · rcases mid_isG (gs := gs) (xs := xs) (ys := ys) (r := .pack g s p (some m)) (b := b) rfl with ⟨j', c', p1, p2, p3⟩ | ⟨p1, p2⟩
        · rw [rix] at p2
          obtain ⟨_, u2, u3, u4⟩ := use _ _ q2
          obtain ⟨_, v2, v3, v4⟩ := use _ _ p2
          have : j = j' := by omega
          subst this
          rw [q1] at p1
          cases p1
          rw [q3, p3, u3, u4, tc]
        · exact absurd (by rw [rix]; exact q2) (p1 j c q1)
      · rcases mid_isG (gs := gs) (xs := xs) (ys := ys) (r := .pack g s p (some m)) (b := b) rfl with ⟨j', c', p1, p2, p3⟩ | ⟨p1, p2⟩
        · rw [rix] at p2
          exact absurd p2 (q1 j' c' p1)
        · rw [p2, q2, if_neg (by omega)]
    · intro hle
      have am : amtL gs (xs ++ .pack g s p (some m) :: ys) b = amtL gs (xs ++ .pack g s p mo :: ys) b := by
        unfold amtL
        apply List.ext_getElem
        · simp
        · intro i h1 h2
          have hi : i < b.length := by simpa using h1
          simp only [List.getElem_mapIdx]
          have bi : b[i]? = some b[i] := List.getElem?_eq_getElem hi
          unfold amountV
          rw [fnd]
          by_cases hr : ruleIx (xs ++ .pack g s p mo :: ys) i b[i] = some xs.length
          · obtain ⟨u1, u2, u3, u4⟩ := use _ _ hr
            rw [if_pos hr, u1]
            have : taken b[i] s (some m) = taken b[i] s mo := by
              rcases mid_isG (gs := gs) (xs := xs) (ys := ys) (r := .pack g s p mo) (b := b) rfl with ⟨j, c, q1, q2, q3⟩ | ⟨q1, q2⟩
              · obtain ⟨v1, v2, v3, v4⟩ := use _ _ q2
                have : j = i := by omega
                subst this
                rw [bi] at q1
                cases q1
                rw [q3, v3] at hle
                rw [tc, if_neg (by omega)]
              · exact absurd hr (q1 i _ bi)
            simp only [this]
          · rw [if_neg hr]
      unfold chargeV
      rw [am, takV_cap_pack (mo := some m) (mo' := mo)]
  · have ce : capR [m] (.each w k mo) = .each w k (some m) := by simp [capR, m1]
    rw [ce, mid_each, mid_each, amt_each (mo := some m) (mo' := mo)]
    have tc := fun t => taken_cap (t := t) (s := w) (m := m) hmo
    refine ⟨tc _, fun hle => ?_⟩
    unfold chargeV
    rw [amt_each (mo := some m) (mo' := mo), takV_append, takV_append]
    simp only [takV]
    generalize (takV xs (amtL gs (xs ++ .each w k mo :: ys) b).sum).2 = t at *
    have : takes t (.each w k (some m)) = takes t (.each w k mo) := by
      show taken t w (some m) = taken t w mo
      rw [tc, if_neg (by omega)]
    have l : leftR t (.each w k (some m)) = leftR t (.each w k mo) := by
      unfold leftR
      rw [this]
      rfl
    rw [l]
end
end D

namespace D
open PySem L2
/-! ### sorted acts -/
def Act.le (a b : Act) : Bool := !b.lt a
theorem act_le (a b : Act) : PySem.W.dataLe false id a.w b.w = a.le b := by
  have := act_lt b a
  unfold PySem.W.dataLe PySem.W.sortLe Act.le
  rw [← this]
  rfl
def sortA (l : List Act) : List Act := l.mergeSort Act.le
theorem sortW_acts (l : List Act) : sortW (l.map Act.w) = (sortA l).map Act.w := by
  unfold sortW sortA
  rw [List.map_mergeSort]
  intro a _ b _
  exact (act_le a b).symm
theorem lt_trans' {a b c : Act} (h1 : a.lt b = true) (h2 : b.lt c = true) : a.lt c = true := by
  cases a <;> cases b <;> cases c <;> simp_all [Act.lt] <;> omega
theorem lt_irr (a : Act) : a.lt a = false := by
  cases a <;> simp [Act.lt]
theorem lt_tri (a b : Act) : a.lt b = true ∨ a = b ∨ b.lt a = true := by
  cases a <;> cases b <;> simp [Act.lt] <;> omega
theorem le_trans' (a b c : Act) (h1 : a.le b = true) (h2 : b.le c = true) : a.le c = true := by
  unfold Act.le at *
  simp only [Bool.not_eq_true'] at *
  rcases lt_tri b c with h | rfl | h
  · cases q : c.lt a with
    | false => rfl
    | true => rw [lt_trans' h q] at h1; cases h1
  · exact h1
  · rw [h] at h2; cases h2
theorem le_total' (a b : Act) : (a.le b || b.le a) = true := by
  unfold Act.le
  rcases lt_tri a b with h | rfl | h
  · have : b.lt a = false := by
      cases q : b.lt a with
      | false => rfl
      | true => have := lt_trans' h q; rw [lt_irr] at this; cases this
    simp [this]
  · simp [lt_irr]
  · have : a.lt b = false := by
      cases q : a.lt b with
      | false => rfl
      | true => have := lt_trans' h q; rw [lt_irr] at this; cases this
    simp [this]
theorem sortA_perm (l : List Act) : (sortA l).Perm l := List.mergeSort_perm l Act.le
theorem sortA_pw (l : List Act) : (sortA l).Pairwise fun a b => a.le b = true := List.pairwise_mergeSort (fun a b c h1 h2 => le_trans' a b c h1 h2) le_total' l
theorem rises_of {as : List Act} (h : as.Pairwise fun a b => a.lt b = true) : risesA as = true := by
  unfold risesA
  rw [List.all_eq_true]
  intro p hp
  induction as with
  | nil => simp at hp
  | cons a as ih =>
    cases as with
    | nil => simp at hp
    | cons b as =>
      simp only [List.drop_succ_cons, List.drop_zero, List.zip_cons_cons, List.mem_cons] at hp
      rcases hp with rfl | hp
      · exact (List.pairwise_cons.mp h).1 b List.mem_cons_self
      · exact ih (List.pairwise_cons.mp h).2 (by simpa using hp)
theorem rises_pw {as : List Act} (h : risesA as = true) : as.Pairwise fun a b => a.lt b = true := by
  unfold risesA at h
  rw [List.all_eq_true] at h
  induction as with
  | nil => exact .nil
  | cons a as ih =>
    cases as with
    | nil => simp
    | cons b as =>
      simp only [List.drop_succ_cons, List.drop_zero, List.zip_cons_cons, List.mem_cons] at h
      have hb : a.lt b = true := h (a, b) (.inl rfl)
      have ih' := ih fun p hp => h p (.inr (by simpa using hp))
      refine List.pairwise_cons.mpr ⟨fun c hc => ?_, ih'⟩
      rcases List.mem_cons.mp hc with rfl | hc
      · exact hb
      · exact lt_trans' hb ((List.pairwise_cons.mp ih').1 c hc)
theorem sortA_rises {l : List Act} (h : l.Nodup) : risesA (sortA l) = true := by
  apply rises_of
  have nd : (sortA l).Nodup := (sortA_perm l).nodup_iff.mpr h
  refine ((sortA_pw l).and nd).imp ?_
  rintro a b ⟨h1, h2⟩
  unfold Act.le at h1
  simp only [Bool.not_eq_true'] at h1
  rcases lt_tri a b with h | rfl | h
  · exact h
  · exact absurd rfl h2
  · rw [h] at h1; cases h1
theorem sort_ok {l : List Act} : sortOk (l.map Act.w) = true := by
  unfold sortOk
  simp only [Bool.and_eq_true, Bool.or_eq_true, List.all_eq_true]
  refine ⟨⟨fun x hx y hy => ?_, .inl fun x hx => ?_⟩, fun x hx => ?_⟩
  · obtain ⟨a, _, rfl⟩ := List.mem_map.mp hx
    obtain ⟨b, _, rfl⟩ := List.mem_map.mp hy
    exact act_alike a b
  · obtain ⟨a, _, rfl⟩ := List.mem_map.mp hx
    cases a <;> rfl
  · obtain ⟨a, _, rfl⟩ := List.mem_map.mp hx
    exact act_shp a
theorem bltop_sortL {l : List Act} : bltop "sorted" [.list (l.map Act.w)] = some (.s (.own false ((sortA l).map Act.w))) := by
  unfold bltop
  simp [sort_ok, sortW_acts]
theorem bltop_sortT {l : List Act} : bltop "sorted" [.tuple (l.map Act.w)] = some (.s (.own false ((sortA l).map Act.w))) := by
  unfold bltop
  simp [sort_ok, sortW_acts]
end D

namespace D
open PySem L2
theorem rl_last {r : Rl} : (∃ kd mw, idxop r.w (.int 0) = some (.str kd) ∧ cmpop .In (.str kd) (.tuple [.str "pack", .str "each"]) = some true ∧ idxop r.w (.int (-1)) = some (opW mw) ∧ ∀ m : Int, 1 ≤ m → capOk m r = (match mw with | none => true | some j => decide (m < j))) ∨
    ∃ kd, idxop r.w (.int 0) = some (.str kd) ∧ cmpop .In (.str kd) (.tuple [.str "pack", .str "each"]) = some false ∧ ∀ m : Int, 1 ≤ m → capOk m r = false := by
  cases r with
  | pack g s p mo => exact .inl ⟨"pack", mo, by simp [rlw_p], by simp, by rw [rlw_p, idx_tuple, atI_m1]; simp, fun m hm => by cases mo <;> rfl⟩
  | each w k mo => exact .inl ⟨"each", mo, by simp [rlw_e], by simp, by rw [rlw_e, idx_tuple, atI_m1]; simp, fun m hm => by cases mo <;> rfl⟩
  | frm g s p => exact .inr ⟨"from", by simp [rlw_f], by simp, fun m hm => by simp [capOk]; omega⟩
  | over w d => exact .inr ⟨"over", by simp [rlw_o], by simp, fun m hm => by simp [capOk]; omega⟩
/-! ### all acts -/
def actsAt (k : Nat) (r : Rl) : List Act := .off k :: (([1, 2] : List Int).filter fun m => capOk m r).map (.most k)
def allA : Nat → List Rl → List Act
  | _, [] => []
  | k, r :: rs => actsAt k r ++ allA (k + 1) rs
theorem allA_app : ∀ (k : Nat) (xs : List Rl) (r : Rl), allA k (xs ++ [r]) = allA k xs ++ actsAt (k + xs.length) r
  | k, [], r => by simp [allA]
  | k, x :: xs, r => by
    simp only [List.cons_append, allA]
    rw [allA_app (k + 1) xs r, List.append_assoc]
    congr 3
    simp
    omega
def Act.ix : Act → Nat
  | .most r _ => r
  | .off r => r
theorem actsAt_ix {k : Nat} {r : Rl} : ∀ a ∈ actsAt k r, a.ix = k := by
  intro a ha
  unfold actsAt at ha
  rcases List.mem_cons.mp ha with rfl | ha
  · rfl
  · obtain ⟨m, _, rfl⟩ := List.mem_map.mp ha
    rfl
theorem allA_ix : ∀ {k : Nat} {rs : List Rl}, ∀ a ∈ allA k rs, k ≤ a.ix ∧ a.ix < k + rs.length
  | _, [], a, h => by cases h
  | k, r :: rs, a, h => by
    simp only [allA, List.mem_append] at h
    rcases h with h | h
    · have := actsAt_ix a h
      simp
      omega
    · have := allA_ix a h
      simp
      omega
theorem actsAt_nd {k : Nat} {r : Rl} : (actsAt k r).Nodup := by
  unfold actsAt
  refine List.nodup_cons.mpr ⟨fun h => ?_, ?_⟩
  · obtain ⟨m, _, h⟩ := List.mem_map.mp h
    cases h
  · have : (([1, 2] : List Int).filter fun m => capOk m r).Nodup := (by decide : ([1, 2] : List Int).Nodup).sublist List.filter_sublist
    exact this.map _ fun a b h e => h (by cases e; rfl)
theorem allA_nd : ∀ {k : Nat} {rs : List Rl}, (allA k rs).Nodup
  | _, [] => List.nodup_nil
  | k, r :: rs => by
    simp only [allA]
    rw [List.nodup_append]
    refine ⟨actsAt_nd, allA_nd, fun a ha b hb e => ?_⟩
    subst e
    have := actsAt_ix a ha
    have := allA_ix a hb
    omega
theorem allA_mem : ∀ {rs : List Rl} {k : Nat} {a : Act}, a ∈ allA k rs → ∃ r, rs[a.ix - k]? = some r ∧ k ≤ a.ix ∧ a ∈ actsAt a.ix r
  | [], _, _, h => by cases h
  | r :: rs, k, a, h => by
    simp only [allA, List.mem_append] at h
    rcases h with h | h
    · have e := actsAt_ix a h
      refine ⟨r, by rw [e]; simp, by omega, by rw [e]; exact h⟩
    · obtain ⟨r', h1, h2, h3⟩ := allA_mem h
      refine ⟨r', ?_, by omega, h3⟩
      rw [show a.ix - k = (a.ix - (k + 1)) + 1 by omega, List.getElem?_cons_succ]
      exact h1
theorem allA_ok {rs : List Rl} {a : Act} (h : a ∈ allA 0 rs) : a.ok rs := by
  obtain ⟨r, h1, h2, h3⟩ := allA_mem h
  rw [Nat.sub_zero] at h1
  unfold actsAt at h3
  rcases List.mem_cons.mp h3 with h3 | h3
  · cases a with
    | off k => exact (List.getElem?_eq_some_iff.mp h1).1
    | most => cases h3
  · obtain ⟨m, hm, h4⟩ := List.mem_map.mp h3
    cases a with
    | off => cases h4
    | most k m' =>
      cases h4
      obtain ⟨m1, m2⟩ := List.mem_filter.mp hm
      simp at m1
      exact ⟨by omega, r, h1, m2⟩
theorem ok_allA {rs : List Rl} {a : Act} (h : a.ok rs) : a ∈ allA 0 rs := by
  have gen : ∀ (rs : List Rl) (k : Nat) (r : Rl) (j : Nat), rs[j]? = some r → ∀ b ∈ actsAt (k + j) r, b ∈ allA k rs := by
    intro rs
    induction rs with
    | nil => intro k r j h; simp at h
    | cons x rs ih =>
      intro k r j h b hb
      simp only [allA, List.mem_append]
      cases j with
      | zero =>
        simp at h
        subst h
        exact .inl hb
      | succ j => exact .inr (ih (k + 1) r j (by simpa using h) b (by rw [show k + 1 + j = k + (j + 1) by omega]; exact hb))
  cases a with
  | off k =>
    obtain ⟨r, hr⟩ : ∃ r, rs[k]? = some r := ⟨_, List.getElem?_eq_getElem h⟩
    exact gen rs 0 r k hr _ (by simp [actsAt])
  | most k m =>
    obtain ⟨h1, r, hr, h2⟩ := h
    refine gen rs 0 r k hr _ ?_
    unfold actsAt
    refine List.mem_cons_of_mem _ (List.mem_map.mpr ⟨m, List.mem_filter.mpr ⟨?_, h2⟩, by simp⟩)
    have : m = 1 ∨ m = 2 := by omega
    simpa using this
theorem actsAt_len {k : Nat} {r : Rl} : (actsAt k r).length ≤ 3 := by
  unfold actsAt
  have := List.length_filter_le (fun m => capOk m r) ([1, 2] : List Int)
  simp at this ⊢
  omega
theorem allA_len : ∀ {k : Nat} {rs : List Rl}, (allA k rs).length ≤ 3 * rs.length
  | _, [] => by simp [allA]
  | k, r :: rs => by
    have h1 := actsAt_len (k := k) (r := r)
    have h2 := allA_len (k := k + 1) (rs := rs)
    simp [allA]
    omega
theorem erase_map {α β : Type} (f : α → β) : ∀ (l : List α) (i : Nat), (l.map f).eraseIdx i = (l.eraseIdx i).map f
  | [], i => by simp
  | a :: l, 0 => by simp
  | a :: l, i + 1 => by simp [erase_map f l i]
theorem erase_perm {α : Type} : ∀ (l : List α) (i : Nat) (x : α), l[i]? = some x → (x :: l.eraseIdx i).Perm l
  | [], i, x, h => by simp at h
  | a :: l, 0, x, h => by
    simp at h
    subst h
    simp
  | a :: l, i + 1, x, h => by
    have := erase_perm l i x (by simpa using h)
    rw [List.eraseIdx_cons_succ]
    exact (List.Perm.swap a x _).trans (this.cons a)
section
variable {wf n : Nat} {gs : List (Int × Int)} {rs : List Rl} {ns : List Int}
theorem c_all_acts {G : W} (hz : rs.length ≤ 1000) : callN Δ0 wf (n + 1) "_law_all_acts" [.val (.tuple [G, .tuple (rs.map Rl.w)])] = .ok (.s (.own false ((sortA (allA 0 rs)).map Act.w))) [] := by
  refine call_E u__law_all_acts rfl ?_
  simp [F__law_all_acts, enumW_map]
  refine W_frX (L := rs) (f := fun i r => .tuple [.int i, r.w]) (fun done e => ∃ a b, e = [some (.val (.tuple [G, .tuple (rs.map Rl.w)])), some (.own false ((allA 0 done).map Act.w)), a, b, none]) rfl ⟨none, none, rfl⟩ ?_ ?_
  · rintro done r rest e hL ⟨a, b, rfl⟩
    refine ⟨by simp [watchOf], ?_⟩
    have hlen : rs.length = done.length + (rest.length + 1) := by rw [hL]; simp
    have l1 := allA_len (k := 0) (rs := done)
    have s1 : (allA 0 done).length < sizeLine := szl _ (by omega)
    rw [allA_app, Nat.zero_add]
    rcases rl_last (r := r) with ⟨kd, mw, i0, ic, i1, hcap⟩ | ⟨kd, i0, ic, hcap⟩
    · simp [s1, i0, ic, ev_lc]
      rw [kLc_pure (L := ([1, 2] : List Int)) (f := PyData.int) (g := fun m => if capOk m r then some (Act.most done.length m).w else none) (by simp) (szl _ (by simp)) (by simp) (fun m hm => ?_) (by simp)]
      · have e1 : ([1, 2] : List Int).filterMap (fun m => if capOk m r then some (Act.most done.length m).w else none) = ((([1, 2] : List Int).filter fun m => capOk m r).map (.most done.length)).map Act.w := by
          rw [List.map_map, ← List.filterMap_eq_map, List.filterMap_filter]
          congr 1
        rw [e1]
        have l3 := List.length_filter_le (fun m => capOk m r) ([1, 2] : List Int)
        have l2 : (allA 0 done).length + 1 + ((([1, 2] : List Int).filter fun m => capOk m r)).length ≤ sizeLine := Nat.le_of_lt (szl _ (by simp at l3; omega))
        simp [l2, actsAt, aw_o]
      · have hm' : 1 ≤ m := by simp at hm; omega
        have hc := hcap m hm'
        cases mw with
        | none => simp [i1, hc, aw_m]
        | some j =>
          by_cases hj : m < j <;> simp [i1, hc, hj, aw_m]
    · have h1 := hcap 1 (by omega)
      have h2 := hcap 2 (by omega)
      simp [s1, i0, ic, actsAt, h1, h2, aw_o]
  · rintro e ⟨a, b, rfl⟩
    simp [watchOf, bltop_sortL]
/-- some of them, drawn -/
theorem c_some_of {L : List Act} {m : Nat} {cnt : Int} (hn : ns.length ≤ 63) (hk : m + 1000 < 1000000) (hL : L.length ≤ 500) (hnd : L.Nodup) (hc : 0 ≤ cnt) (hw : 1000 ≤ wf) :
    ∃ (as : List Act) (m' : Nat), callN Δ0 wf (n + 4) "_law_some_of" [.val (wInts ns), .own true (zeros m), .val (.list (L.map Act.w)), .val (.int cnt)] = .ok (.s (.val (.tuple (as.map Act.w)))) [zeros m'] ∧ (∀ a ∈ as, a ∈ L) ∧ as.length = min cnt.toNat L.length ∧ risesA as = true ∧ m' ≤ m + L.length := by
  have key : ∃ r outs, callN Δ0 wf (n + 4) "_law_some_of" [.val (wInts ns), .own true (zeros m), .val (.list (L.map Act.w)), .val (.int cnt)] = .ok r outs ∧ ∃ (as : List Act) (m' : Nat), r = .s (.val (.tuple (as.map Act.w))) ∧ outs = [zeros m'] ∧ (∀ a ∈ as, a ∈ L) ∧ as.length = min cnt.toNat L.length ∧ risesA as = true ∧ m' ≤ m + L.length := by
    refine call_W u__law_some_of rfl ?_
    simp [F__law_some_of]
    refine W_wh (fun k e => ∃ left found mm, e = [some (.val (wInts ns)), some (.own true (zeros mm)), some (.val (.list (L.map Act.w))), some (.val (.int cnt)), some (.own false (left.map Act.w)), some (.own false (found.map Act.w))] ∧ (found ++ left).Perm L ∧ (found.length : Int) ≤ cnt ∧ k = left.length ∧ mm = m + found.length) (k := L.length) (by omega) ⟨L, [], m, rfl, by simp, by simpa using hc, rfl, by simp⟩ ?_
    rintro k e ⟨left, found, mm, rfl, hp, hf, rfl, rfl⟩
    have hpl := hp.length_eq
    simp at hpl
    have nn := ne_nil (xs := left.map Act.w) shp_actsL
    by_cases h0 : left = []
    · subst h0
      simp at hpl
      simp [ne_nil0, bltop_sortL]
      have hp' : found.Perm L := by simpa using hp
      have hnd' : found.Nodup := hp'.nodup_iff.mpr hnd
      refine ⟨sortA found, rfl, _, rfl, fun a ha => ?_, ?_, sortA_rises hnd', by omega⟩
      · exact hp'.mem_iff.mp ((sortA_perm found).mem_iff.mp ha)
      · rw [(sortA_perm found).length_eq]
        omega
    · have h0' : (left.map Act.w).isEmpty = false := by cases left with
        | nil => exact absurd rfl h0
        | cons => rfl
      rw [h0'] at nn
      by_cases h1 : (found.length : Int) < cnt
      · have lp : 0 < left.length := List.length_pos_iff.mpr h0
        have lp' : (0 : Int) < (left.length : Int) := by omega
        have d := c_dr0 (wf := wf) (n := n) (ns := ns) (m := m + found.length) (many := left.length) hn (by omega) lp'
        obtain ⟨b1, b2⟩ := dr_lt (ns := ns) (m := m + found.length) lp'
        generalize dr ns (m + found.length) left.length = j at *
        obtain ⟨y, hy⟩ : ∃ y, left[j.toNat]? = some y := ⟨_, List.getElem?_eq_getElem (by omega)⟩
        have j3 : j < 1000000 := by omega
        have s1 : found.length < sizeLine := szl _ (by omega)
        simp [nn, h1, callR, d, b1, b2, j3, hy, s1]
        have jl : j.toNat < left.length := by omega
        refine ⟨lp, left.eraseIdx j.toNat, found ++ [left[j.toNat]], _, ⟨rfl, ?_, by simp⟩, ?_, by simp; omega, ?_, by simp; omega⟩
        · rw [erase_map]
        · refine List.Perm.trans ?_ hp
          rw [List.append_assoc]
          exact List.Perm.append_left _ (erase_perm left j.toNat _ (List.getElem?_eq_getElem jl))
        · rw [List.length_eraseIdx_of_lt jl]
      · simp [nn, h1, bltop_sortL]
        have hnd' : (found ++ left).Nodup := hp.nodup_iff.mpr hnd
        refine ⟨sortA found, rfl, _, rfl, fun a ha => ?_, ?_, sortA_rises (List.nodup_append.mp hnd').1, by omega⟩
        · exact hp.mem_iff.mp (List.mem_append_left _ ((sortA_perm found).mem_iff.mp ha))
        · rw [(sortA_perm found).length_eq]
          omega
  obtain ⟨r, outs, h1, as, m', rfl, rfl, h2, h3, h4, h5⟩ := key
  exact ⟨as, m', h1, h2, h3, h4, h5⟩
theorem c_some_acts {m : Nat} {most : Int} (h : ShG gs rs) (hn : ns.length ≤ 63) (hk : m + 2000 < 1000000) (hm : 0 ≤ most ∧ most ≤ 100) (hw : 1000 ≤ wf) :
    ∃ (r : RV) (as : List Act) (m' : Nat), callN Δ0 wf (n + 5) "_law_some_acts" [.val (wInts ns), .own true (zeros m), .val (shT gs rs), .val (.int most)] = .ok r [zeros m'] ∧ r.toW = .tuple (as.map Act.w) ∧ (∀ a ∈ as, a ∈ allA 0 rs) ∧ (as.length : Int) ≤ most ∧ risesA as = true ∧ m' ≤ m + 20 := by
  have key : ∃ r outs, callN Δ0 wf (n + 5) "_law_some_acts" [.val (wInts ns), .own true (zeros m), .val (shT gs rs), .val (.int most)] = .ok r outs ∧ ∃ m', outs = [zeros m'] ∧ m' ≤ m + 20 ∧ ∃ as : List Act, r.toW = .tuple (as.map Act.w) ∧ (∀ a ∈ as, a ∈ allA 0 rs) ∧ (as.length : Int) ≤ most ∧ risesA as = true := by
    refine call_W u__law_some_acts rfl ?_
    have hrl := h.rl
    have c1 := c_all_acts (wf := wf) (n := n + 3) (G := .tuple (gs.map gdW)) (rs := rs) (by omega)
    have nn := ne_nil (xs := (sortA (allA 0 rs)).map Act.w) shp_actsL
    have pl := (sortA_perm (allA 0 rs)).length_eq
    have al := allA_len (k := 0) (rs := rs)
    have d := c_dr0 (wf := wf) (n := n + 1) (ns := ns) (m := m) (many := most + 1) hn (by omega) (by omega)
    obtain ⟨b1, b2⟩ := dr_lt (ns := ns) (m := m) (many := most + 1) (by omega)
    obtain ⟨as, m', e1, e2, e3, e4, e5⟩ := c_some_of (wf := wf) (n := n) (ns := ns) (L := sortA (allA 0 rs)) (m := m + 1) (cnt := dr ns m (most + 1)) hn (by omega) (by omega) ((sortA_perm _).nodup_iff.mpr allA_nd) b1 hw
    by_cases h0 : sortA (allA 0 rs) = []
    · simp [F__law_some_acts, callR, c1, h0, ne_nil0]
      exact ⟨m, rfl, by omega, hm.1, rfl⟩
    · have h0' : ((sortA (allA 0 rs)).map Act.w).isEmpty = false := by
        cases q : sortA (allA 0 rs) with
        | nil => exact absurd q h0
        | cons => rfl
      rw [h0'] at nn
      simp [F__law_some_acts, callR, c1, nn, d, e1]
      exact ⟨m', rfl, by omega, as, rfl, fun a ha => (sortA_perm _).mem_iff.mp (e2 a ha), by omega, e4⟩
  obtain ⟨r, outs, h1, m', rfl, h2, as, h3, h4, h5, h6⟩ := key
  exact ⟨r, as, m', h1, h3, h4, h5, h6, h2⟩
/-! ### touching -/
def Act.lim : Act → Int
  | .most _ m => m
  | .off _ => 0
def touchV (gs : List (Int × Int)) (rs : List Rl) (as : List Act) (a : Act) (b : List Int) : Bool := match (keptV rs.length as).findIdx? (· == a.ix) with
  | none => false
  | some i => decide (a.lim < ((usesV gs (underV rs as) b)[i]?).getD 0)
theorem underV_len {as : List Act} : (underV rs as).length = (keptV rs.length as).length := by
  unfold underV
  have : ∀ ks : List Nat, (∀ k ∈ ks, k < rs.length) → (ks.filterMap fun k => (rs[k]?).map (capR (mostsV as k))).length = ks.length := fun ks => by
    induction ks with
    | nil => intro _; rfl
    | cons k ks ih =>
      intro h
      have hk := h k List.mem_cons_self
      simp [hk, ih fun j hj => h j (List.mem_cons_of_mem _ hj)]
  refine this _ fun k hk => ?_
  have := (List.mem_filter.mp hk).1
  simpa using this
theorem shp_nats {l : List Nat} : shp (.list (l.map fun k => .int (k : Nat))) = true := by
  have := okDs_ints 39 (l.map fun k : Nat => (k : Int))
  rw [List.map_map] at this
  exact this
theorem find_nats (r : Nat) : ∀ l : List Nat, (l.map fun k => PyData.int (k : Nat)).findIdx? (fun z => PyData.eqv z (.int (r : Nat))) = l.findIdx? (· == r)
  | [] => rfl
  | a :: l => by
    rw [List.map_cons, List.findIdx?_cons, List.findIdx?_cons, find_nats r l]
    have : PyData.eqv (.int (a : Nat)) (.int (r : Nat)) = (a == r) := by
      simp only [PyData.eqv]
      rw [Bool.eq_iff_iff, beq_iff_eq, beq_iff_eq]
      omega
    rw [this]
theorem any_nats (r : Nat) (l : List Nat) : ((l.map fun k => PyData.int (k : Nat)).any fun z => PyData.eqv z (.int (r : Nat))) = (l.findIdx? (· == r)).isSome := by
  rw [← find_nats, List.findIdx?_isSome]
theorem c_touched {as : List Act} {a : Act} {b : List Int} (h : ShG gs rs) (ha : Acts rs as) (hb : Bk gs b) : callN Δ0 wf (n + 5) "touched" [.val (shT gs rs), .val (.tuple (as.map Act.w)), .val a.w, .val (bkW b)] = .ok (.s (.val (.bool (touchV gs rs as a b)))) [] := by
  refine call_E u_touched rfl ?_
  have gl := h.gl
  have bl := hb.l
  have hrl := h.rl
  have hal := ha.l
  have c1 := c_kept (wf := wf) (n := n + 3) (G := .tuple (gs.map gdW)) (rs := rs) (as := as) (by omega)
  have c2 := c_under (wf := wf) (n := n + 2) (G := .tuple (gs.map gdW)) (rs := rs) (as := as) (by omega) (by omega) ha.ok
  have hu := (h.under ha.ok).shp
  have c3 := c_uses_of (wf := wf) (n := n) (gs := gs) (rs := underV rs as) bl (by omega) hu.rlz hu.run
  have ai : idxop a.w (.int 1) = some (.int (a.ix : Nat)) := by cases a <;> simp [Act.w, Act.ix]
  have ni : cmpop .NotIn (.int (a.ix : Nat)) (.list ((keptV rs.length as).map fun k => .int (k : Nat))) = some (!((keptV rs.length as).findIdx? (· == a.ix)).isSome) := by
    have h1 : shp (.int (a.ix : Nat)) = true := rfl
    show (if (shp (.int (a.ix : Nat)) && shp (.list ((keptV rs.length as).map fun k => .int (k : Nat)))) = true then some (!((keptV rs.length as).map fun k => PyData.int (k : Nat)).any fun z => PyData.eqv z (.int (a.ix : Nat))) else none) = _
    rw [h1, shp_nats, any_nats]
    rfl
  have fi := find_nats a.ix (keptV rs.length as)
  cases q : (keptV rs.length as).findIdx? (· == a.ix) with
  | none =>
    rw [q] at ni
    simp [F_touched, callR, c1, ai, ni, touchV, q]
  | some i =>
    rw [q] at ni fi
    have sh1 : (shp (.list ((keptV rs.length as).map fun k => .int (k : Nat))) && shp (.int (a.ix : Nat))) = true := by rw [shp_nats]; rfl
    have il : i < (keptV rs.length as).length := (List.findIdx?_eq_some_iff_getElem.mp q).1
    have ul : i < (usesV gs (underV rs as) b).length := by rw [usesV_len, underV_len]; exact il
    obtain ⟨u, hu2⟩ : ∃ u, (usesV gs (underV rs as) b)[i]? = some u := ⟨_, List.getElem?_eq_getElem ul⟩
    have a0 : (∃ r m, a = .most r m) ∨ ∃ r, a = .off r := by cases a with
      | most r m => exact .inl ⟨r, m, rfl⟩
      | off r => exact .inr ⟨r, rfl⟩
    have kl : ∀ e, kLix ((keptV rs.length as).map fun k => .int (k : Nat)) (.s (.val (.int (a.ix : Nat)))) e = .ok (.s (.val (.int (i : Nat)))) e := fun e => by
      unfold kLix
      simp only [toW_s, toW_val, sh1, if_true, fi]
    rcases a0 with ⟨r, m, rfl⟩ | ⟨r, rfl⟩
    · simp only [aw_m] at ai ⊢
      simp only [Act.ix] at ai ni kl q
      simp [F_touched, callR, c1, ni, c2, c3, kl, hu2, touchV, q, Act.ix, Act.lim]
    · simp only [aw_o] at ai ⊢
      simp only [Act.ix] at ai ni kl q
      simp [F_touched, callR, c1, ni, c2, c3, kl, hu2, touchV, q, Act.ix, Act.lim]
theorem c_touches {as : List Act} {a : Act} {b : List Int} (h : ShG gs rs) (ha : Acts rs as) (hk : a.ok rs) (hb : Bk gs b) : callN Δ0 wf (n + 7) "touches" [.val (shT gs rs), .val (.tuple (as.map Act.w)), .val a.w, .val (bkW b)] = .ok (.s (.val (.bool (touchV gs rs as a b)))) [] := by
  refine call_E u_touches rfl ?_
  have gl := h.gl
  have bl := hb.l
  have c1 := c_need_acts (wf := wf) (n := n) h.shp ha
  have c2 := c_is_act (wf := wf) (n := n + 4) (G := .tuple (gs.map gdW)) (rs := rs) (v := a.w) (by cases a <;> rfl) (ndn_ndA (k := 0) ndn_act)
  rw [isActB_of hk] at c2
  have c3 := c_bstands (wf := wf) (n := n + 4) (G := .none) (R := .tuple (rs.map Rl.w)) (v := bkW b) (gs := gs.map gdW) rfl (fun xs e => by
    cases e
    exact ⟨by simp; omega, ndA_ints⟩)
  rw [isBk_ok (by simpa using bl) hb.b] at c3
  have c4 := c_touched (wf := wf) (n := n + 1) (a := a) h ha hb
  simp [F_touches, callR, c1, c2, c3, c4]
end
end D

namespace D
open PySem L2
/-! ### acts on one rule -/
def fmI {β : Type} : (Nat → Rl → Option β) → List Rl → List β
  | _, [] => []
  | h, r :: rs => (h 0 r).toList ++ fmI (fun j => h (j + 1)) rs
theorem range_fm {β : Type} : ∀ (rs : List Rl) (h : Nat → Rl → Option β), (List.range rs.length).filterMap (fun j => (rs[j]?).bind (h j)) = fmI h rs
  | [], h => rfl
  | r :: rs, h => by
    rw [List.length_cons, List.range_succ_eq_map, List.filterMap_cons]
    simp only [List.getElem?_cons_zero, Option.bind_some, List.filterMap_map, fmI]
    have ih := range_fm rs fun j => h (j + 1)
    have e : List.filterMap ((fun j => ((r :: rs)[j]?).bind (h j)) ∘ Nat.succ) (List.range rs.length) = fmI (fun j => h (j + 1)) rs := by
      rw [← ih]
      congr 1
    rw [e]
    cases h 0 r <;> rfl
theorem fmI_app {β : Type} : ∀ (xs ys : List Rl) (h : Nat → Rl → Option β), fmI h (xs ++ ys) = fmI h xs ++ fmI (fun j => h (j + xs.length)) ys
  | [], ys, h => rfl
  | x :: xs, ys, h => by
    simp only [List.cons_append, fmI]
    rw [fmI_app xs ys, List.append_assoc]
    congr 3
theorem fmI_id : ∀ {xs : List Rl} {h : Nat → Rl → Option Rl}, (∀ j r, j < xs.length → h j r = some r) → fmI h xs = xs
  | [], h, _ => rfl
  | x :: xs, h, hh => by
    simp only [fmI, hh 0 x (by simp), Option.toList_some, List.singleton_append]
    rw [fmI_id fun j r hj => hh (j + 1) r (by simp; omega)]
theorem under_fm {rs : List Rl} {as : List Act} : underV rs as = fmI (fun j r => if as.contains (.off j) then none else some (capR (mostsV as j) r)) rs := by
  unfold underV keptV
  rw [List.filterMap_filter, ← range_fm]
  congr 1
  funext j
  cases rs[j]? with
  | none => simp
  | some r => cases h : as.contains (.off j) <;> simp
/-- acts that speak of rule k alone -/
def onlyK (k : Nat) (as : List Act) : Prop := ∀ j, j ≠ k → as.contains (.off j) = false ∧ mostsV as j = []
theorem under_k {xs ys : List Rl} {r : Rl} {as : List Act} (h : onlyK xs.length as) : underV (xs ++ r :: ys) as = xs ++ ((if as.contains (.off xs.length) then [] else [capR (mostsV as xs.length) r]) ++ ys) := by
  rw [under_fm, fmI_app]
  congr 1
  · refine fmI_id fun j r hj => ?_
    obtain ⟨h1, h2⟩ := h j (by omega)
    rw [h1, h2]
    rfl
  · simp only [fmI, Nat.zero_add]
    congr 1
    · cases as.contains (.off xs.length) <;> rfl
    · refine fmI_id fun j r hj => ?_
      obtain ⟨h1, h2⟩ := h (j + 1 + xs.length) (by omega)
      rw [h1, h2]
      rfl
theorem under_nil {rs : List Rl} : underV rs [] = rs := by
  rw [under_fm]
  exact fmI_id fun j r _ => rfl
theorem okD_rl {r : Rl} {k : Nat} : okD (k + 1) r.w = true := by
  have h1 : PyData.strOk "pack" = true := by decide +kernel
  have h2 : PyData.strOk "from" = true := by decide +kernel
  have h3 : PyData.strOk "over" = true := by decide +kernel
  have h4 : PyData.strOk "each" = true := by decide +kernel
  have ho : ∀ m : Option Int, okD k (opW m) = true := fun m => by cases m <;> cases k <;> rfl
  cases r <;> cases k <;> simp_all [Rl.w, okD, okDs]
theorem okDs_rls {k : Nat} : ∀ l : List Rl, okDs (k + 1) (l.map Rl.w) = true
  | [] => by simp [okDs]
  | a :: l => by simp [okDs, okD_rl, okDs_rls l]
theorem okDs_gds {k : Nat} : ∀ l : List (Int × Int), okDs (k + 1) (l.map gdW) = true
  | [] => by simp [okDs]
  | a :: l => by cases k <;> simp [okDs, gdW, okD, okDs_gds l]
mutual
theorem eqv_self : ∀ (n : Nat) (x : W), okD n x = true → PyData.eqv x x = true
  | _, .none, _ => by simp [PyData.eqv]
  | _, .bool _, _ => by simp [PyData.eqv]
  | _, .int _, _ => by simp [PyData.eqv]
  | _, .str _, _ => by simp [PyData.eqv]
  | 0, .list _, h => by simp [okD] at h
  | 0, .tuple _, h => by simp [okD] at h
  | 0, .dict _, h => by simp [okD] at h
  | n + 1, .dict _, h => by simp [okD] at h
  | n + 1, .list xs, h => by
    have := eqvs_self n xs (by simpa [okD] using h)
    simpa [PyData.eqv] using this
  | n + 1, .tuple xs, h => by
    have := eqvs_self n xs (by simpa [okD] using h)
    simpa [PyData.eqv] using this
theorem eqvs_self : ∀ (n : Nat) (xs : List W), okDs n xs = true → PyData.eqvAll xs xs = true
  | _, [], _ => by simp [PyData.eqvAll]
  | n, x :: xs, h => by
    simp only [okDs, Bool.and_eq_true] at h
    simp only [PyData.eqvAll, eqv_self n x h.1, eqvs_self n xs h.2, Bool.and_self]
end
theorem cmp_ne_self {x : W} (h : shp x = true) : cmpop .NotEq x x = some false := by
  have e : eqOk x x = true := by unfold eqOk; rw [h]; simp
  unfold cmpop
  simp only [e, if_true, eqv_self 40 x h, Bool.not_true]
theorem cmp_eq_self {x : W} (h : shp x = true) : cmpop .Eq x x = some true := by
  have e : eqOk x x = true := by unfold eqOk; rw [h]; simp
  unfold cmpop
  simp only [e, if_true, eqv_self 40 x h]
theorem shp_rl {r : Rl} : shp r.w = true := okD_rl
theorem shp_rls {l : List Rl} : shp (.tuple (l.map Rl.w)) = true := by
  show okD 40 _ = true
  simp [okD, okDs_rls]
theorem shp_sh {gs : List (Int × Int)} {l : List Rl} : shp (shT gs l) = true := by
  show okD 40 _ = true
  simp [okD, okDs, okDs_rls, okDs_gds]
theorem taken_le {t s m : Int} (h : 0 ≤ m) : taken t s (some m) ≤ m := by
  unfold taken
  simp only
  split <;> omega
/-- the rule in the middle is used no more often than its most tells -/
theorem mid_le {gs : List (Int × Int)} {xs ys : List Rl} {r : Rl} {m : Int} {b : List Int} (h : 0 ≤ m) (hr : (∃ g s p, r = .pack g s p (some m)) ∨ ∃ w k, r = .each w k (some m)) : midU gs xs ys r b ≤ m := by
  rcases hr with ⟨g, s, p, rfl⟩ | ⟨w, k, rfl⟩
  · rcases mid_isG (gs := gs) (xs := xs) (ys := ys) (r := .pack g s p (some m)) (b := b) rfl with ⟨j, c, q1, q2, q3⟩ | ⟨_, q2⟩
    · rw [q3]
      obtain ⟨r', z1, z2, z3⟩ := ruleIx_get q2
      simp at z1
      subst z1
      unfold useV
      rw [z3]
      exact taken_le h
    · rw [q2]; exact h
  · rw [mid_each]
    exact taken_le h
theorem kept_ix {n k : Nat} {as : List Act} (hk : k < n) (h : onlyK k as) (ho : as.contains (.off k) = false) : (keptV n as).findIdx? (· == k) = some k := by
  have : keptV n as = List.range n := by
    unfold keptV
    rw [List.filter_eq_self]
    intro j _
    by_cases hj : j = k
    · rw [hj, ho]; rfl
    · rw [(h j hj).1]; rfl
  rw [this, List.findIdx?_eq_some_iff_getElem]
  refine ⟨by simpa using hk, by simp, fun j hj => ?_⟩
  simp
  omega
theorem kept_gone {n k : Nat} {as : List Act} (ho : as.contains (.off k) = true) : (keptV n as).findIdx? (· == k) = none := by
  rw [List.findIdx?_eq_none_iff]
  intro j hj
  have := (List.mem_filter.mp hj).2
  by_cases e : j = k
  · subst e
    rw [ho] at this
    cases this
  · simpa using e
end D

namespace D
open PySem L2
/-! ### offers -/
def offW (o : Act × Int) : W := .tuple [o.1.w, .int o.2]
def isOffB (rs : List Rl) : W → Bool
  | .tuple [a, c] => isActB rs a && isIntB c 1 9
  | _ => false
def fstW : W → W
  | .tuple (a :: _) => a
  | _ => .none
def offersB (rs : List Rl) : W → Bool
  | .tuple xs => decide (xs.length ≤ 6) && xs.all (isOffB rs) && risesW (xs.map fstW)
  | _ => false
theorem isOff_ok {rs : List Rl} {v : W} (h : isOffB rs v = true) : ∃ o : Act × Int, v = offW o ∧ o.1.ok rs ∧ 1 ≤ o.2 ∧ o.2 ≤ 9 := by
  unfold isOffB at h
  split at h
  · rename_i a c
    simp only [Bool.and_eq_true] at h
    obtain ⟨h1, h2⟩ := h
    obtain ⟨a, rfl, h3⟩ := isActB_ok h1
    obtain ⟨c, rfl, h4, h5⟩ := isIntB_cases h2
    exact ⟨(a, c), rfl, h3, h4, h5⟩
  · cases h
theorem isOff_of {rs : List Rl} {o : Act × Int} (h : o.1.ok rs) (h1 : 1 ≤ o.2) (h2 : o.2 ≤ 9) : isOffB rs (offW o) = true := by
  simp [isOffB, offW, isActB_of h, h1, h2]
theorem offs_of {rs : List Rl} : ∀ {xs : List W}, xs.all (isOffB rs) = true → ∃ os : List (Act × Int), xs = os.map offW ∧ ∀ o ∈ os, o.1.ok rs ∧ 1 ≤ o.2 ∧ o.2 ≤ 9
  | [], _ => ⟨[], rfl, by simp⟩
  | x :: xs, h => by
    rw [List.all_cons, Bool.and_eq_true] at h
    obtain ⟨o, rfl, h1⟩ := isOff_ok h.1
    obtain ⟨os, rfl, h2⟩ := offs_of h.2
    exact ⟨o :: os, rfl, fun p hp => by
      rcases List.mem_cons.mp hp with rfl | q
      · exact h1
      · exact h2 p q⟩
theorem fst_off (os : List (Act × Int)) : (os.map offW).map fstW = (os.map (·.1)).map Act.w := by
  rw [List.map_map, List.map_map]
  rfl
section
variable {wf n : Nat} {gs : List (Int × Int)} {rs : List Rl}
theorem c_risesL {as : List Act} (hz : as.length ≤ 1000) : callN Δ0 wf (n + 1) "rises" [.val (.list (as.map Act.w))] = .ok (.s (.val (.bool (risesA as)))) [] := by
  refine call_E u_rises rfl ?_
  have s1 : sliop (.list (as.map Act.w)) (some 1) none = some (.s (.own false ((as.drop 1).map Act.w))) := by
    show some (RV.s (.own false (cutW (as.map Act.w) (some ((1 : Nat) : Int)) none))) = _
    rw [cut_from, List.map_drop]
  simp [F_rises, s1, ev_lc, zipW_map]
  rw [kLc_map (L := as.zip (as.drop 1)) (f := fun p => .tuple [p.1.w, p.2.w]) (g := fun p => .bool (p.1.lt p.2)) (by rw [← List.map_tail, zipW_map]; simp) (szl _ (by simp; omega)) (by simp) (fun p hp => by simp [cmp_ltA]) (by simp)]
  simp [allB_bools, risesA, List.all_map, Function.comp_def]
theorem offers_no {xs : List W} {x : W} (hx : x ∈ xs) (h : isOffB rs x = false) : offersB rs (.tuple xs) = false := by
  have : xs.all (isOffB rs) = false := by
    rw [Bool.eq_false_iff]
    intro q
    rw [List.all_eq_true.mp q x hx] at h
    cases h
  simp [offersB, this]
theorem c_offers_stand {G v : W} (hv : nd v = true) (hs : ∀ xs, v = .tuple xs → xs.length ≤ 1000 ∧ ∀ x ∈ xs, ndn 3 x = true) :
    callN Δ0 wf (n + 3) "offers_stand" [.val (.tuple [G, .tuple (rs.map Rl.w)]), .val v] = .ok (.s (.val (.bool (offersB rs v)))) [] := by
  refine call_E u_offers_stand rfl ?_
  cases v with
  | tuple xs =>
    obtain ⟨hz, hx⟩ := hs xs rfl
    by_cases h6 : xs.length ≤ 6
    · have h6' : ¬ ((6 : Int) < (xs.length : Int)) := by omega
      simp [F_offers_stand, h6']
      refine W_fr (L := xs) (f := id) (fun done e => ∃ a, e = [some (.val (.tuple [G, .tuple (rs.map Rl.w)])), some (.val (.tuple xs)), a] ∧ (a = none ∨ ∃ w, a = some (.val w)) ∧ done.all (isOffB rs) = true) (by simp) ⟨none, rfl, .inl rfl, rfl⟩ ?_ ?_
      · rintro done x rest e hE ⟨a, rfl, ha0, hd⟩
        refine ⟨by simp [watchOf], ?_⟩
        have hm : x ∈ xs := by rw [hE]; simp
        have hnx := hx x hm
        have no := offers_no (rs := rs) hm
        cases x with
        | tuple ys =>
          match ys with
          | [] => simp [no rfl]
          | [a] => simp [no rfl]
          | [a, c] =>
            have ha := ndn_tup hnx a (by simp)
            have hc := ndn_tup hnx c (by simp)
            have c1 := c_is_act (wf := wf) (n := n) (G := G) (rs := rs) (v := a) (ndn_nd ha) (ndn_ndA ha)
            have c2 := c_is_int (wf := wf) (n := n + 1) (v := c) (lo := 1) (hi := 9) (ndn_nd hc)
            have hb : isOffB rs (.tuple [a, c]) = (isActB rs a && isIntB c 1 9) := rfl
            rw [hb] at no
            cases q1 : isActB rs a with
            | false =>
              rw [q1] at c1 no
              simp [callR, c1, no rfl]
            | true =>
              cases q2 : isIntB c 1 9 with
              | false =>
                rw [q1] at c1
                rw [q1, q2] at no
                rw [q2] at c2
                simp [callR, c1, c2, no rfl]
              | true =>
                rw [q1] at c1
                rw [q2] at c2
                simp [callR, c1, c2, hb, q1, q2] at hd ⊢
                exact hd
          | a :: b :: c :: l =>
            have h3 : ¬ ((l.length : Int) + 1 + 1 + 1 = 2) := by omega
            simp [h3, no rfl]
        | dict kvs => cases ndn_nd hnx
        | _ => simp [no rfl]
      · rintro e ⟨a, rfl, ha0, hd⟩
        refine ⟨by simp [watchOf], ?_⟩
        obtain ⟨os, rfl, ho⟩ := offs_of hd
        have c1 := c_risesL (wf := wf) (n := n + 1) (as := os.map (·.1)) (by simpa using hz)
        have e1 : offersB rs (.tuple (os.map offW)) = risesA (os.map (·.1)) := by
          have z : decide ((os.map offW).length ≤ 6) = true := decide_eq_true h6
          simp only [offersB, hd, fst_off, rises_acts, z]
          rfl
        simp [ev_lc]
        rw [kLc_map (L := os) (f := offW) (g := fun o => o.1.w) (by simp) (szl _ (by simp at hz; omega)) (by simp) (fun o ho => by simp [offW]) (by rcases ha0 with rfl | ⟨w, rfl⟩ <;> simp)]
        simp only [List.map_map, Function.comp_def] at c1
        simp [callR, c1, e1]
    · have h6' : (6 : Int) < (xs.length : Int) := by omega
      simp [F_offers_stand, h6', offersB, h6]
  | dict kvs => cases hv
  | _ => simp [F_offers_stand, offersB]
theorem c_are_offers {v : W} (h : Shp gs rs) (hv : nd v = true) (hs : ∀ xs, v = .tuple xs → xs.length ≤ 1000 ∧ ∀ x ∈ xs, ndn 3 x = true) : callN Δ0 wf (n + 6) "are_offers" [.val (shT gs rs), .val v] = .ok (.s (.val (.bool (offersB rs v)))) [] := by
  refine call_E u_are_offers rfl ?_
  have c1 := c_need_shop (wf := wf) (n := n) h
  have c2 := c_offers_stand (wf := wf) (n := n + 2) (G := .tuple (gs.map gdW)) (rs := rs) hv hs
  simp [F_are_offers, callR, c1, c2]
end
end D

namespace D
open PySem L2
structure OffS (rs : List Rl) (os : List (Act × Int)) : Prop where
  l : os.length ≤ 6
  ok : ∀ o ∈ os, o.1.ok rs ∧ 1 ≤ o.2 ∧ o.2 ≤ 9
  r : risesA (os.map (·.1)) = true
def kindsW : List W := [.tuple [.str "less"], .tuple [.str "loss"], .tuple [.str "less", .str "loss"]]
theorem OffS.b {rs : List Rl} {os : List (Act × Int)} (h : OffS rs os) : offersB rs (.tuple (os.map offW)) = true := by
  have z : decide ((os.map offW).length ≤ 6) = true := decide_eq_true (by simpa using h.l)
  have y : (os.map offW).all (isOffB rs) = true := by
    rw [List.all_map, List.all_eq_true]
    intro o ho
    obtain ⟨q1, q2, q3⟩ := h.ok o ho
    exact isOff_of q1 q2 q3
  simp only [offersB, z, y, fst_off, rises_acts, h.r]
  rfl
theorem ndn_off {o : Act × Int} {k : Nat} : ndn k (offW o) = true := by
  cases k with
  | zero => rfl
  | succ k =>
    have h1 := ndn_act (a := o.1) (k := k)
    have h2 : ndn k (.int o.2) = true := by cases k <;> rfl
    simp [ndn, nd, offW, h1, h2]
/-- rules that speak of the first good alone -/
def firstG : Rl → Bool
  | .pack g _ _ _ => decide (g = 0)
  | .frm g _ _ => decide (g = 0)
  | _ => true
@[simp] theorem ni_pf_p : cmpop .NotIn (.str "pack") (.tuple [.str "pack", .str "from"]) = some false := by decide +kernel
@[simp] theorem ni_pf_f : cmpop .NotIn (.str "from") (.tuple [.str "pack", .str "from"]) = some false := by decide +kernel
@[simp] theorem ni_pf_o : cmpop .NotIn (.str "over") (.tuple [.str "pack", .str "from"]) = some true := by decide +kernel
@[simp] theorem ni_pf_e : cmpop .NotIn (.str "each") (.tuple [.str "pack", .str "from"]) = some true := by decide +kernel
theorem firstG_fm : ∀ rs : List Rl, (rs.filterMap fun r => if firstG r then some r.w else none) = (rs.filter firstG).map Rl.w
  | [] => rfl
  | r :: l => by
    rw [List.filterMap_cons, List.filter_cons, firstG_fm l]
    cases firstG r <;> rfl
theorem one_good {gs : List (Int × Int)} {rs : List Rl} (h : ShOk gs rs) : ShOk (gs.take 1) (rs.filter firstG) := by
  have gl := h.gl
  refine ⟨.inl (by simp; omega), fun g hg => h.gok g (List.mem_of_mem_take hg), Nat.le_trans (List.length_filter_le _ _) h.rl, fun r hr => ?_, ?_, fun r hr => ?_⟩
  · obtain ⟨h1, h2⟩ := List.mem_filter.mp hr
    have q := h.rok r h1
    have e : ((gs.take 1).length : Int) = 1 := by simp; omega
    rw [e]
    cases r with
    | pack g s p m =>
      have : g = 0 := by simpa [firstG] using h2
      exact ⟨⟨by omega, by omega⟩, q.2⟩
    | frm g s p =>
      have : g = 0 := by simpa [firstG] using h2
      exact ⟨⟨by omega, by omega⟩, q.2⟩
    | over w d => exact q
    | each w k m => exact q
  · unfold openN
    have : ((rs.filter firstG).filter Rl.open_).length ≤ (rs.filter Rl.open_).length := by
      rw [List.filter_filter]
      have : (rs.filter fun a => Rl.open_ a && firstG a) = (rs.filter Rl.open_).filter firstG := by
        rw [List.filter_filter]
        congr 1
        funext a
        exact Bool.and_comm _ _
      rw [this]
      exact List.length_filter_le _ _
    exact Nat.le_trans this h.opn
  · have q := h.pk r (List.mem_filter.mp hr).1
    cases r with
    | pack g s p m =>
      intro x hx
      rw [List.getElem?_take] at hx
      split at hx
      · exact q x hx
      · cases hx
    | _ => trivial
section
variable {wf n : Nat} {ns : List Int}
/-- draws for each act: offers -/
theorem case_offs {Γ : Gam} {as : List Act} {m : Nat} {S2 S3 S4 S5 S6 : Option Slot} {os' : List Opd} {ws : List W} (hL : as.length ≤ 100) (hw : ∀ e, watchOf os' ws e) (hm : m ≤ 10000)
    (hd : ∀ j, j ≤ m + 1000 → Γ.call "_law_draw" [.val (wInts ns), .own true (zeros j), .val (.int 4)] = .ok (.s (.val (.int (dr ns j 4)))) [zeros (j + 1)]) (Q : RV → SEnv → Prop)
    (hq : ∀ os : List (Act × Int), os.map (·.1) = as → (∀ o ∈ os, 1 ≤ o.2 ∧ o.2 ≤ 4) → Q (.s (.own false (os.map offW))) [some (.val (wInts ns)), some (.own true (zeros (m + as.length))), S2, S3, S4, S5, S6, none, none, none]) :
    (kLc Γ (.tup [.var 9, .bin .Add (.v (.con (.int 1))) (.v (.call "_law_draw" [.v (.var 0), .r 1, .v (.con (.int 4))]))]) (.one 9) [] [9] (os', ws, as.map Act.w) [some (.val (wInts ns)), some (.own true (zeros m)), S2, S3, S4, S5, S6, none, none, none]).W Q := by
  refine W_kLc (L := as) (f := Act.w) (fun done acc e => ∃ os : List (Act × Int), acc = os.map offW ∧ os.map (·.1) = done ∧ (∀ o ∈ os, 1 ≤ o.2 ∧ o.2 ≤ 4) ∧ e = [some (.val (wInts ns)), some (.own true (zeros (m + done.length))), S2, S3, S4, S5, S6, none, none, none]) (by simp) (szl _ (by omega)) ⟨[], rfl, rfl, by simp, by simp⟩ ?_ ?_
  · rintro done a rest acc e hE ⟨os, rfl, o1, o2, rfl⟩
    refine ⟨hw _, ?_⟩
    have hlen : as.length = done.length + (rest.length + 1) := by rw [hE]; simp
    have d1 := hd (m + done.length) (by omega)
    have b1 := dr_lt (ns := ns) (m := m + done.length) (many := 4) (by omega)
    generalize dr ns (m + done.length) 4 = x at *
    simp [callR0, d1]
    refine ⟨os ++ [(a, 1 + x)], by simp [offW], by simp [o1], fun o1' o2' ho => ?_, by simp [Nat.add_assoc]⟩
    rcases List.mem_append.mp ho with q | q
    · exact o2 _ q
    · simp at q
      obtain ⟨rfl, rfl⟩ := q
      omega
  · rintro acc e ⟨os, rfl, o1, o2, rfl⟩
    refine ⟨hw _, ?_⟩
    have := hq os o1 o2
    simpa using this
theorem pick_kinds {m : Nat} (hn : ns.length ≤ 63) (hk : m + 1 < 1000000) : ∃ kd ∈ kindsW, callN Δ0 wf (n + 4) "_law_pick" [.val (wInts ns), .own true (zeros m), .val (.tuple kindsW)] = .ok (.s (.val kd)) [zeros (m + 1)] := by
  have p := c_pick0 (wf := wf) (n := n) (ns := ns) (m := m) (ws := kindsW) hn hk (by decide)
  have e3 : ((kindsW.length : Nat) : Int) = 3 := rfl
  rw [e3] at p
  have b := dr_lt (ns := ns) (m := m) (many := 3) (by omega)
  refine ⟨_, ?_, p⟩
  have : (dr ns m 3).toNat = 0 ∨ (dr ns m 3).toNat = 1 ∨ (dr ns m 3).toNat = 2 := by omega
  rcases this with e | e | e <;> rw [e] <;> simp [kindsW]
/-- what the law's cases are -/
structure Case (most : Int) (gs : List (Int × Int)) (rs : List Rl) (os : List (Act × Int)) (kd : W) : Prop where
  sh : ShOk gs rs
  of : OffS rs os
  ol : (os.length : Int) ≤ most
  kd : kd ∈ kindsW
theorem c_some_case {m : Nat} {most : Int} (hn : ns.length ≤ 63) (hk : m ≤ 8000) (hm : 1 ≤ most ∧ most ≤ 6) (hw : 1000 ≤ wf) :
    ∃ gs rs os kd m', callN Δ0 wf (n + 8) "_law_some_case" [.val (wInts ns), .own true (zeros m), .val (.int most)] = .ok (.t [.val (shT gs rs), .val (.tuple (os.map offW)), .val kd]) [zeros m'] ∧ Case most gs rs os kd ∧ m' ≤ m + 400 := by
  have key : ∃ r outs, callN Δ0 wf (n + 8) "_law_some_case" [.val (wInts ns), .own true (zeros m), .val (.int most)] = .ok r outs ∧ ∃ gs rs os kd m', r = .t [.val (shT gs rs), .val (.tuple (os.map offW)), .val kd] ∧ outs = [zeros m'] ∧ Case most gs rs os kd ∧ m' ≤ m + 400 := by
    refine call_W u__law_some_case rfl ?_
    obtain ⟨gs, rs, m1, hs, hok, hm1⟩ := c_shop0 (wf := wf) (n := n + 1) (ns := ns) (m := m) hn (by omega)
    have gl := hok.gl
    have rl := hok.rl
    have d1 := c_dr0 (wf := wf) (n := n + 4) (ns := ns) (m := m1) (many := 3) hn (by omega) (by omega)
    obtain ⟨b1, b2⟩ := dr_lt (ns := ns) (m := m1) (many := 3) (by omega)
    generalize dr ns m1 3 = x1 at *
    by_cases hx : 0 < x1
    · have ok2 := one_good hok
      have sl : sliop (.tuple (gs.map gdW)) none (some 1) = some (.s (.val (.tuple ((gs.take 1).map gdW)))) := by
        rw [show (1 : Int) = ((1 : Nat) : Int) from rfl, sli_to, List.map_take]
      simp [F__law_some_case, callR, hs, d1, hx, ev_lc]
      rw [kLc_pure (L := rs) (f := Rl.w) (g := fun r => if firstG r then some r.w else none) (by simp) (szl _ (by omega)) (by simp) (fun r hr => ?_) (by simp)]
      rotate_left
      · cases r with
        | pack g s p m => by_cases q : g = 0 <;> simp [rlw_p, firstG, q]
        | frm g s p => by_cases q : g = 0 <;> simp [rlw_f, firstG, q]
        | over w d => simp [rlw_o, firstG]
        | each w k m => simp [rlw_e, firstG]
      have fm := firstG_fm rs
      have rl2 := ok2.rl
      obtain ⟨g1, hg1⟩ : ∃ x, x = gs.take 1 := ⟨_, rfl⟩
      obtain ⟨r1, hr1⟩ : ∃ x, x = rs.filter firstG := ⟨_, rfl⟩
      rw [← hg1] at sl ok2
      rw [← hr1] at ok2 fm rl2
      simp [fm, sl]
      have ca := c_all_acts (wf := wf) (n := n + 6) (G := .tuple (g1.map gdW)) (rs := r1) (by omega)
      have pl := (sortA_perm (allA 0 r1)).length_eq
      have al := allA_len (k := 0) (rs := r1)
      have nn := ne_nil (xs := (sortA (allA 0 r1)).map Act.w) shp_actsL
      have d2 := c_dr0 (wf := wf) (n := n + 4) (ns := ns) (m := m1 + 1) (many := 2) hn (by omega) (by omega)
      obtain ⟨b21, b22⟩ := dr_lt (ns := ns) (m := m1 + 1) (many := 2) (by omega)
      generalize dr ns (m1 + 1) 2 = x2 at *
      obtain ⟨as, m2, e1, e2, e3, e4, e5⟩ := c_some_of (wf := wf) (n := n + 3) (ns := ns) (L := sortA (allA 0 r1)) (m := m1 + 1 + 1) (cnt := most - x2) hn (by omega) (by omega) ((sortA_perm _).nodup_iff.mpr allA_nd) (by omega) hw
      by_cases h0 : sortA (allA 0 r1) = []
      · simp [callR, ca, h0, ne_nil0, ev_lc]
        refine case_offs (as := ([] : List Act)) (m := m1 + 1) (by simp) (fun e => by simp [watchOf]) (by omega) (fun j hj => c_dr0 (n := n + 4) hn (by omega) (by omega)) _ fun os o1 o2 => ?_
        have os0 : os = [] := by simpa using o1
        subst os0
        obtain ⟨kd, kk, pk⟩ := pick_kinds (wf := wf) (n := n + 3) (ns := ns) (m := m1 + 1) hn (by omega)
        simp only [kindsW] at pk
        simp [callR, pk]
        exact ⟨g1, r1, [], kd, ⟨⟨rfl, rfl⟩, rfl, rfl⟩, _, rfl, ⟨ok2, ⟨by simp, by simp, rfl⟩, by simp; omega, kk⟩, by omega⟩
      · have h0' : ((sortA (allA 0 r1)).map Act.w).isEmpty = false := by
          cases q : sortA (allA 0 r1) with
          | nil => exact absurd q h0
          | cons => rfl
        rw [h0'] at nn
        simp [callR, ca, nn, d2, e1, ev_lc]
        refine case_offs (as := as) (m := m2) (by omega) (fun e => by simp [watchOf]) (by omega) (fun j hj => c_dr0 (n := n + 4) hn (by omega) (by omega)) _ fun os o1 o2 => ?_
        have ol : os.length = as.length := by rw [← o1]; simp
        obtain ⟨kd, kk, pk⟩ := pick_kinds (wf := wf) (n := n + 3) (ns := ns) (m := m2 + as.length) hn (by omega)
        simp only [kindsW] at pk
        simp [callR, pk]
        refine ⟨g1, r1, os, kd, ⟨⟨rfl, rfl⟩, rfl, rfl⟩, _, rfl, ⟨ok2, ⟨by omega, fun o ho => ⟨allA_ok ((sortA_perm _).mem_iff.mp (e2 _ (by rw [← o1]; exact List.mem_map_of_mem ho))), ?_⟩, by rw [o1]; exact e4⟩, by omega, kk⟩, by omega⟩
        have := o2 o ho
        omega
    · simp [F__law_some_case, hs, d1, hx, ev_lc, callR]
      have ca := c_all_acts (wf := wf) (n := n + 6) (G := .tuple (gs.map gdW)) (rs := rs) (by omega)
      have pl := (sortA_perm (allA 0 rs)).length_eq
      have al := allA_len (k := 0) (rs := rs)
      have nn := ne_nil (xs := (sortA (allA 0 rs)).map Act.w) shp_actsL
      have d2 := c_dr0 (wf := wf) (n := n + 4) (ns := ns) (m := m1 + 1) (many := 2) hn (by omega) (by omega)
      obtain ⟨b21, b22⟩ := dr_lt (ns := ns) (m := m1 + 1) (many := 2) (by omega)
      generalize dr ns (m1 + 1) 2 = x2 at *
      obtain ⟨as, m2, e1, e2, e3, e4, e5⟩ := c_some_of (wf := wf) (n := n + 3) (ns := ns) (L := sortA (allA 0 rs)) (m := m1 + 1 + 1) (cnt := most - x2) hn (by omega) (by omega) ((sortA_perm _).nodup_iff.mpr allA_nd) (by omega) hw
      by_cases h0 : sortA (allA 0 rs) = []
      · simp [callR, ca, h0, ne_nil0, ev_lc]
        refine case_offs (as := ([] : List Act)) (m := m1 + 1) (by simp) (fun e => by simp [watchOf]) (by omega) (fun j hj => c_dr0 (n := n + 4) hn (by omega) (by omega)) _ fun os o1 o2 => ?_
        have os0 : os = [] := by simpa using o1
        subst os0
        obtain ⟨kd, kk, pk⟩ := pick_kinds (wf := wf) (n := n + 3) (ns := ns) (m := m1 + 1) hn (by omega)
        simp only [kindsW] at pk
        simp [callR, pk]
        exact ⟨gs, rs, [], kd, ⟨⟨rfl, rfl⟩, rfl, rfl⟩, _, rfl, ⟨hok, ⟨by simp, by simp, rfl⟩, by simp; omega, kk⟩, by omega⟩
      · have h0' : ((sortA (allA 0 rs)).map Act.w).isEmpty = false := by
          cases q : sortA (allA 0 rs) with
          | nil => exact absurd q h0
          | cons => rfl
        rw [h0'] at nn
        simp [callR, ca, nn, d2, e1, ev_lc]
        refine case_offs (as := as) (m := m2) (by omega) (fun e => by simp [watchOf]) (by omega) (fun j hj => c_dr0 (n := n + 4) hn (by omega) (by omega)) _ fun os o1 o2 => ?_
        have ol : os.length = as.length := by rw [← o1]; simp
        obtain ⟨kd, kk, pk⟩ := pick_kinds (wf := wf) (n := n + 3) (ns := ns) (m := m2 + as.length) hn (by omega)
        simp only [kindsW] at pk
        simp [callR, pk]
        refine ⟨gs, rs, os, kd, ⟨⟨rfl, rfl⟩, rfl, rfl⟩, _, rfl, ⟨hok, ⟨by omega, fun o ho => ⟨allA_ok ((sortA_perm _).mem_iff.mp (e2 _ (by rw [← o1]; exact List.mem_map_of_mem ho))), ?_⟩, by rw [o1]; exact e4⟩, by omega, kk⟩, by omega⟩
        have := o2 o ho
        omega
  obtain ⟨r, outs, h1, gs, rs, os, kd, m', rfl, rfl, h2, h3⟩ := key
  exact ⟨gs, rs, os, kd, m', h1, h2, h3⟩
end
end D

namespace D
open PySem L2
/-! ### rows of acts -/
def lexA : List Act → List Act → Bool
  | [], [] => false
  | [], _ :: _ => true
  | _ :: _, [] => false
  | a :: as, b :: bs => if a = b then lexA as bs else a.lt b
theorem lexA_toks : ∀ as bs : List Act, PyProof.Rows.lexLt PyProof.Rows.itemOrd (PySem.W.keyToksAll (as.map Act.w)) (PySem.W.keyToksAll (bs.map Act.w)) = lexA as bs
  | [], [] => lt_nil
  | [], b :: bs => by
    simp only [List.map_nil, List.map_cons, PySem.W.keyToksAll, lexA]
    rw [PySem.W.lex_atom (by simp)]
    decide +kernel
  | a :: as, [] => by
    simp only [List.map_nil, List.map_cons, PySem.W.keyToksAll, lexA]
    rw [PySem.W.lex_atom (by simp)]
    decide +kernel
  | a :: as, b :: bs => by
    simp only [List.map_cons, lexA]
    by_cases h : a = b
    · subst h
      rw [PySem.W.dataLt_all_yes (act_alike a a) (by rw [act_eqv]; simp), if_pos rfl]
      exact lexA_toks as bs
    · rw [PySem.W.dataLt_all_no (act_alike a b) (by rw [act_eqv]; simp [h]), if_neg h, act_lt]
theorem alike_acts : ∀ as bs : List Act, PySem.W.alikeAll (as.map Act.w) (bs.map Act.w) = true
  | [], _ => by simp [PySem.W.alikeAll]
  | _ :: _, [] => by simp [PySem.W.alikeAll]
  | a :: as, b :: bs => by simp [PySem.W.alikeAll, act_alike, alike_acts as bs]
theorem cmp_ltAs (as bs : List Act) : cmpop .Lt (.tuple (as.map Act.w)) (.tuple (bs.map Act.w)) = some (lexA as bs) := by
  have h : PySem.W.dataLt (.tuple (as.map Act.w)) (.tuple (bs.map Act.w)) = lexA as bs := by
    rw [PySem.W.dataLt_tuple]
    exact lexA_toks as bs
  have h1 : PySem.W.alike (.tuple (as.map Act.w)) (.tuple (bs.map Act.w)) = true := by
    simp only [PySem.W.alike]
    exact alike_acts as bs
  have h2 := shp_acts (as := as)
  have h3 := shp_acts (as := bs)
  simp [cmpop, h, h1, h2, h3]
theorem eqvs_acts : ∀ as bs : List Act, PyData.eqvAll (as.map Act.w) (bs.map Act.w) = decide (as = bs)
  | [], [] => by simp [PyData.eqvAll]
  | [], _ :: _ => by simp [PyData.eqvAll]
  | _ :: _, [] => by simp [PyData.eqvAll]
  | a :: as, b :: bs => by
    simp only [List.map_cons, PyData.eqvAll, act_eqv, eqvs_acts as bs]
    by_cases h1 : a = b <;> by_cases h2 : as = bs <;> simp [h1, h2]
theorem eqv_acts (as bs : List Act) : PyData.eqv (.tuple (as.map Act.w)) (.tuple (bs.map Act.w)) = decide (as = bs) := by
  simp only [PyData.eqv]
  exact eqvs_acts as bs
section
variable {wf n : Nat} {gs : List (Int × Int)} {rs : List Rl} {os : List (Act × Int)}
theorem c_need_offers (h : Shp gs rs) (ho : OffS rs os) : callN Δ0 wf (n + 6) "need_offers" [.val (shT gs rs), .val (.tuple (os.map offW))] = .ok (.s (.val .none)) [] := by
  refine call_E u_need_offers rfl ?_
  have c1 := c_need_shop (wf := wf) (n := n) h
  have c2 := c_offers_stand (wf := wf) (n := n + 2) (G := .tuple (gs.map gdW)) (rs := rs) (v := .tuple (os.map offW)) rfl (fun xs e => by
    cases e
    refine ⟨by have := ho.l; simp; omega, fun x hx => ?_⟩
    obtain ⟨o, _, rfl⟩ := List.mem_map.mp hx
    exact ndn_off)
  rw [ho.b] at c2
  simp [F_need_offers, callR, c1, c2]
theorem kinds_in {kd : W} (h : kd ∈ kindsW) : (∃ xs, kd = .tuple xs) ∧ cmpop .NotIn kd (.tuple kindsW) = some false := by
  simp only [kindsW, List.mem_cons, List.not_mem_nil, or_false] at h
  rcases h with rfl | rfl | rfl
  · exact ⟨⟨_, rfl⟩, by decide +kernel⟩
  · exact ⟨⟨_, rfl⟩, by decide +kernel⟩
  · exact ⟨⟨_, rfl⟩, by decide +kernel⟩
theorem c_need_kinds {kd : W} (h : Shp gs rs) (ho : OffS rs os) (hk : kd ∈ kindsW) : callN Δ0 wf (n + 7) "need_kinds" [.val (shT gs rs), .val (.tuple (os.map offW)), .val kd] = .ok (.s (.val .none)) [] := by
  refine call_E u_need_kinds rfl ?_
  have c1 := c_need_offers (wf := wf) (n := n) h ho
  obtain ⟨⟨xs, rfl⟩, h2⟩ := kinds_in hk
  simp only [kindsW] at h2
  simp [F_need_kinds, callR, c1, h2]
theorem c_need_num {i lo hi : Int} (h1 : lo ≤ i) (h2 : i ≤ hi) : callN Δ0 wf (n + 2) "need_number" [.val (.int i), .val (.int lo), .val (.int hi)] = .ok (.s (.val .none)) [] := by
  refine call_E u_need_number rfl ?_
  have c1 := c_is_int (wf := wf) (n := n) (v := .int i) (lo := lo) (hi := hi) rfl
  simp [F_need_number, callR, c1, h1, h2]
/-- the price of acts -/
def costV (os : List (Act × Int)) (as : List Act) : Int := ((os.filter fun o => as.contains o.1).map (·.2)).sum
theorem costs_fm (as : List Act) : ∀ os : List (Act × Int), os.filterMap (fun o => if as.contains o.1 then some (PyData.int o.2) else none) = ((os.filter fun o => as.contains o.1).map (·.2)).map .int
  | [] => rfl
  | o :: os => by
    rw [List.filterMap_cons, List.filter_cons, costs_fm as os]
    cases as.contains o.1 <;> rfl
theorem c_cost_of {as : List Act} (hl : os.length ≤ 1000) : callN Δ0 wf (n + 1) "cost_of" [.val (.tuple (os.map offW)), .val (.tuple (as.map Act.w))] = .ok (.s (.val (.int (costV os as)))) [] := by
  refine call_E u_cost_of rfl ?_
  simp [F_cost_of, ev_lc]
  rw [kLc_pure (L := os) (f := offW) (g := fun o => if as.contains o.1 then some (.int o.2) else none) (by simp) (szl _ (by omega)) (by simp) (fun o ho => ?_) (by simp)]
  · rw [costs_fm]
    have : allI (((os.filter fun o => as.contains o.1).map (·.2)).map PyData.int) = some ((os.filter fun o => as.contains o.1).map (·.2)) := by
      rw [List.map_map]
      exact allI_nums _
    generalize ((os.filter fun o => as.contains o.1).map (·.2)).map PyData.int = zz at *
    simp [this, costV]
  · have ci := cmp_inA (a := o.1) (as := as)
    cases q : as.contains o.1 with
    | true =>
      rw [q] at ci
      simp [offW, ci]
    | false =>
      rw [q] at ci
      simp [offW, ci]
theorem c_with_act {as : List Act} {a : Act} (hl : as.length ≤ 1000) : callN Δ0 wf (n + 1) "with_act" [.val (.tuple (as.map Act.w)), .val a.w] = .ok (.s (.val (.tuple ((sortA (as ++ [a])).map Act.w)))) [] := by
  refine call_E u_with_act rfl ?_
  have ad : binop .Add (.tuple (as.map Act.w)) (.tuple [a.w]) = some (.s (.val (.tuple ((as ++ [a]).map Act.w)))) := by
    rw [tup_add (by simp; omega)]
    simp
  have so := bltop_sortT (l := as ++ [a])
  obtain ⟨T, hT⟩ : ∃ x, x = (as ++ [a]).map Act.w := ⟨_, rfl⟩
  rw [← hT] at ad so
  simp [F_with_act, ad, so]
def isBoolB : W → Bool
  | .bool _ => true
  | _ => false
def tupB : W → Bool
  | .tuple _ => true
  | _ => false
def partsB : W → Bool
  | .tuple ys => ys.any isBoolB
  | _ => false
theorem eqv_part {x y : W} (h : PyData.eqv x y = true) (hx : (∃ i, x = .int i) ∨ ∃ k, x = .str k) (hy : isBoolB y = false) : y = x := by
  rcases hx with ⟨i, rfl⟩ | ⟨k, rfl⟩
  · cases y <;> simp_all [PyData.eqv, isBoolB]
  · cases y <;> simp_all [PyData.eqv, isBoolB]
/-- what equals an act and holds no truth value is that act -/
theorem eqv_is {a : Act} {ys : List W} (h : PyData.eqv a.w (.tuple ys) = true) (hb : ys.any isBoolB = false) : (.tuple ys : W) = a.w := by
  cases a with
  | most r m =>
    rw [aw_m] at h ⊢
    simp only [PyData.eqv] at h
    match ys, h, hb with
    | [], h, _ => simp [PyData.eqvAll] at h
    | [x], h, _ => simp [PyData.eqvAll] at h
    | [x, y], h, _ => simp [PyData.eqvAll] at h
    | [x, y, z], h, hb =>
      simp only [PyData.eqvAll, Bool.and_eq_true] at h
      simp only [List.any_cons, List.any_nil, Bool.or_eq_false_iff] at hb
      rw [eqv_part h.1 (.inr ⟨_, rfl⟩) hb.1, eqv_part h.2.1 (.inl ⟨_, rfl⟩) hb.2.1, eqv_part h.2.2.1 (.inl ⟨_, rfl⟩) hb.2.2.1]
    | x :: y :: z :: w :: l, h, _ => simp [PyData.eqvAll] at h
  | off r =>
    rw [aw_o] at h ⊢
    simp only [PyData.eqv] at h
    match ys, h, hb with
    | [], h, _ => simp [PyData.eqvAll] at h
    | [x], h, _ => simp [PyData.eqvAll] at h
    | [x, y], h, hb =>
      simp only [PyData.eqvAll, Bool.and_eq_true] at h
      simp only [List.any_cons, List.any_nil, Bool.or_eq_false_iff] at hb
      rw [eqv_part h.1 (.inr ⟨_, rfl⟩) hb.1, eqv_part h.2.1 (.inl ⟨_, rfl⟩) hb.2.1]
    | x :: y :: z :: l, h, _ => simp [PyData.eqvAll] at h
theorem act_parts (a : Act) : partsB a.w = false := by cases a <;> rfl
theorem acts_bought {os : List (Act × Int)} : ∀ {xs : List W}, (∀ x ∈ xs, tupB x = true ∧ ((os.map fun o => o.1.w).any fun z => PyData.eqv z x) = true ∧ partsB x = false) → ∃ as : List Act, xs = as.map Act.w ∧ ∀ a ∈ as, a ∈ os.map (·.1)
  | [], _ => ⟨[], rfl, by simp⟩
  | x :: xs, h => by
    obtain ⟨as, rfl, h2⟩ := acts_bought fun y hy => h y (List.mem_cons_of_mem _ hy)
    obtain ⟨t, e, b⟩ := h x List.mem_cons_self
    obtain ⟨z, hz, ez⟩ := List.any_eq_true.mp e
    obtain ⟨o, ho, rfl⟩ := List.mem_map.mp hz
    cases x with
    | tuple ys =>
      refine ⟨o.1 :: as, by rw [List.map_cons, ← eqv_is ez b], fun a ha => ?_⟩
      rcases List.mem_cons.mp ha with rfl | q
      · exact List.mem_map_of_mem ho
      · exact h2 a q
    | _ => cases t
def Bought (os : List (Act × Int)) (v : W) (as : List Act) : Prop := v = .tuple (as.map Act.w) ∧ (∀ a ∈ as, a ∈ os.map (·.1)) ∧ risesA as = true
theorem any_own {x : W} : ((os.map fun o => o.1.w).any fun z => PyData.eqv z x) = os.any fun o => PyData.eqv o.1.w x := by
  rw [List.any_map]
  rfl
theorem okDs_mem {k : Nat} {x : W} : ∀ {xs : List W}, okDs k xs = true → x ∈ xs → okD k x = true
  | y :: ys, h, hx => by
    simp only [okDs, Bool.and_eq_true] at h
    rcases List.mem_cons.mp hx with rfl | q
    · exact h.1
    · exact okDs_mem h.2 q
def ownB (os : List (Act × Int)) (x : W) : Bool := tupB x && (os.map fun o => o.1.w).any fun z => PyData.eqv z x
theorem own_act {a : Act} (h : a ∈ os.map (·.1)) : ownB os a.w = true := by
  obtain ⟨o, ho, rfl⟩ := List.mem_map.mp h
  have e := act_eqv o.1 o.1
  unfold ownB
  rw [Bool.and_eq_true]
  refine ⟨by cases o.1 <;> rfl, List.any_eq_true.mpr ⟨_, List.mem_map_of_mem ho, ?_⟩⟩
  rw [e]
  simp
theorem c_is_bought {v : W} (hv : nd v = true) (hl : os.length ≤ 1000) (hz : ∀ xs, v = .tuple xs → xs.length ≤ 1000 ∧ ∀ x ∈ xs, shp x = true ∧ ∀ ys, x = .tuple ys → ys.length ≤ 1000) :
    ∃ b : Bool, callN Δ0 wf (n + 2) "is_bought" [.val (.tuple (os.map offW)), .val v] = .ok (.s (.val (.bool b))) [] ∧ (b = true ↔ ∃ as, Bought os v as) := by
  have key : ∃ r outs, callN Δ0 wf (n + 2) "is_bought" [.val (.tuple (os.map offW)), .val v] = .ok r outs ∧ outs = [] ∧ ∃ b : Bool, r = .s (.val (.bool b)) ∧ (b = true ↔ ∃ as, Bought os v as) := by
    refine call_W u_is_bought rfl ?_
    simp [F_is_bought, ev_lc]
    rw [kLc_map (L := os) (f := offW) (g := fun o => o.1.w) (by simp) (szl _ (by omega)) (by simp) (fun o ho => by simp [offW]) (by simp)]
    simp
    have nb : ∀ w : W, (∀ xs, w ≠ .tuple xs) → ∀ as, ¬ Bought os w as := fun w hw as hb => hw _ hb.1
    cases v with
    | tuple xs =>
      obtain ⟨z1, z2⟩ := hz xs rfl
      have so : shp (.list (os.map fun o => o.1.w)) = true := by
        have := shp_actsL (as := os.map (·.1))
        rw [List.map_map] at this
        exact this
      simp [ev_lc]
      rw [kLc_map (L := xs) (f := id) (g := fun x => .bool (ownB os x)) (by simp) (szl _ (by omega)) (by simp) (fun x hx => ?_) (by simp)]
      rotate_left
      · have ci : cmpop .In x (.list (os.map fun o => o.1.w)) = some ((os.map fun o => o.1.w).any fun z => PyData.eqv z x) := by
          show (if (shp x && shp (.list (os.map fun o => o.1.w))) = true then some ((os.map fun o => o.1.w).any fun z => PyData.eqv z x) else none) = _
          rw [(z2 x hx).1, so]
          rfl
        have eo : ownB os x = (tupB x && (os.map fun o => o.1.w).any fun z => PyData.eqv z x) := rfl
        generalize ((os.map fun o => o.1.w).any fun z => PyData.eqv z x) = bb at *
        cases x with
        | tuple ys => simp [ci, eo, tupB]
        | dict kvs => cases (z2 _ hx).1
        | _ => simp [eo, tupB]
      by_cases ha : xs.all (ownB os) = true
      · simp [allB_bools, ha, ev_lc]
        rw [kLc_map (L := xs) (f := id) (g := fun x => .bool (partsB x)) (by simp) (szl _ (by omega)) (by simp) (fun x hx => ?_) (by simp)]
        rotate_left
        · have hx2 := List.all_eq_true.mp ha x hx
          cases x with
          | tuple ys =>
            have yl := (z2 _ hx).2 ys rfl
            simp [ev_lc]
            rw [kLc_map (L := ys) (f := id) (g := fun y => .bool (isBoolB y)) (by simp) (szl _ (by omega)) (by simp) (fun y hy => ?_) (by simp)]
            rotate_left
            · have o1 : okDs 39 ys = true := (z2 _ hx).1
              have o2 := okDs_mem o1 hy
              cases y with
              | dict kvs => cases o2
              | _ => simp [isBoolB]
            · simp [allB_bools, partsB]
          | _ => cases hx2
        by_cases hp : xs.any partsB = true
        · simp [allB_bools, hp]
          intro as hb
          obtain ⟨e, _, _⟩ := hb
          cases e
          obtain ⟨x, hx, q⟩ := List.any_eq_true.mp hp
          obtain ⟨a, _, rfl⟩ := List.mem_map.mp hx
          rw [act_parts] at q
          cases q
        · have hp' : xs.any partsB = false := by simpa using hp
          obtain ⟨as, hxs, h2⟩ := acts_bought (os := os) (xs := xs) fun x hx => by
            have h1 := List.all_eq_true.mp ha x hx
            unfold ownB at h1
            rw [Bool.and_eq_true] at h1
            refine ⟨h1.1, h1.2, ?_⟩
            cases q : partsB x with
            | false => rfl
            | true =>
              rw [List.any_eq_true.mpr ⟨x, hx, q⟩] at hp'
              cases hp'
          have c1 := c_rises (wf := wf) (n := n) (as := as) (by rw [hxs] at z1; simpa using z1)
          rw [← hxs] at c1
          have ui : ∀ bs, Bought os (.tuple xs) bs → bs = as := fun bs hb => by
            have e := hb.1
            rw [hxs] at e
            have q := eqv_acts as bs
            rw [← e] at q
            have q2 := eqv_acts as as
            rw [q2] at q
            have q3 : as = bs := by simpa using q.symm
            exact q3.symm
          cases hr : risesA as with
          | false =>
            rw [hr] at c1
            simp [allB_bools, hp', callR, c1]
            intro bs hb
            have := ui bs hb
            subst this
            rw [hb.2.2] at hr
            cases hr
          | true =>
            rw [hr] at c1
            simp [allB_bools, hp', callR, c1]
            exact ⟨as, by rw [hxs], h2, hr⟩
      · have ha' : xs.all (ownB os) = false := by simpa using ha
        simp [allB_bools, ha']
        intro as hb
        obtain ⟨e, h3, _⟩ := hb
        cases e
        rw [Bool.eq_false_iff] at ha'
        refine ha' (List.all_eq_true.mpr fun x hx => ?_)
        obtain ⟨a, hA, rfl⟩ := List.mem_map.mp hx
        exact own_act (h3 a hA)
    | dict kvs => cases hv
    | _ => simp [nb]
  obtain ⟨r, outs, h1, rfl, b, rfl, h2⟩ := key
  exact ⟨b, h1, h2⟩
end
end D

namespace D
open PySem L2
/-! ## what is refused -/
def Res.X {α : Type} (r : Res α) (c : Str) (Q : SEnv → Prop) : Prop := ∃ e, r = .exc c e ∧ Q e
@[simp] theorem X_exc {α : Type} {c d : Str} {e : SEnv} {Q : SEnv → Prop} : (Res.exc c e : Res α).X d Q = (c = d ∧ Q e) := by
  apply propext
  constructor
  · rintro ⟨e', h, q⟩
    cases h
    exact ⟨rfl, q⟩
  · rintro ⟨rfl, q⟩
    exact ⟨e, rfl, q⟩
@[simp] theorem X_ok {α : Type} {a : α} {d : Str} {e : SEnv} {Q : SEnv → Prop} : (Res.ok a e : Res α).X d Q = False := by
  apply propext
  constructor
  · rintro ⟨e', h, q⟩
    cases h
  · exact False.elim
@[simp] theorem W_exc {α : Type} {c : Str} {e : SEnv} {Q : α → SEnv → Prop} : (Res.exc c e : Res α).W Q = False := by
  apply propext
  constructor
  · rintro ⟨a, e', h, q⟩
    cases h
  · exact False.elim
theorem call_X {Δ : Str → Option Fn} {wf n : Nat} {f c : Str} {fn : Fn} {ss : List Slot} {outs : List (List W)} (h : Δ f = some fn) (hl : ss.length = fn.np)
    (w : (evSs ⟨callN Δ wf n⟩ wf fn.body (ss.map some ++ List.replicate (fn.nn - fn.np) none)).X c fun e => outsOf ss e = some outs) :
    callN Δ wf (n + 1) f ss = .exc c outs := by
  obtain ⟨e, h1, h2⟩ := w
  rw [call_in h]
  unfold runFn
  rw [if_pos hl, h1]
  simp only [h2]
@[simp] theorem evS_tr {Γ : Gam} {wf i : Nat} {b : List S} {e : SEnv} : evS Γ wf (.tr i b) e = catchR i (evSs Γ wf b e) := by rw [evS]
@[simp] theorem catch_ok {i : Nat} {f : Fl} {e : SEnv} : catchR i (.ok f e) = .ok f e := id rfl
theorem catch_exc {i k : Nat} {c : Str} {e : SEnv} (h : exIdx c = some k) : catchR i (.exc c e) = if i < e.length then .ok (.rt (.s (.val (raisedW k)))) e else .bad := by
  simp only [catchR, h]
@[simp] theorem catch_0 {i : Nat} {e : SEnv} : catchR i (.exc "InvalidShop" e) = if i < e.length then .ok (.rt (.s (.val (raisedW 0)))) e else .bad := catch_exc (by decide +kernel)
@[simp] theorem catch_1 {i : Nat} {e : SEnv} : catchR i (.exc "InvalidBasket" e) = if i < e.length then .ok (.rt (.s (.val (raisedW 1)))) e else .bad := catch_exc (by decide +kernel)
@[simp] theorem catch_2 {i : Nat} {e : SEnv} : catchR i (.exc "InvalidActs" e) = if i < e.length then .ok (.rt (.s (.val (raisedW 2)))) e else .bad := catch_exc (by decide +kernel)
@[simp] theorem catch_3 {i : Nat} {e : SEnv} : catchR i (.exc "InvalidAct" e) = if i < e.length then .ok (.rt (.s (.val (raisedW 3)))) e else .bad := catch_exc (by decide +kernel)
@[simp] theorem catch_4 {i : Nat} {e : SEnv} : catchR i (.exc "InvalidOffers" e) = if i < e.length then .ok (.rt (.s (.val (raisedW 4)))) e else .bad := catch_exc (by decide +kernel)
@[simp] theorem catch_5 {i : Nat} {e : SEnv} : catchR i (.exc "InvalidKinds" e) = if i < e.length then .ok (.rt (.s (.val (raisedW 5)))) e else .bad := catch_exc (by decide +kernel)
@[simp] theorem catch_6 {i : Nat} {e : SEnv} : catchR i (.exc "InvalidNumber" e) = if i < e.length then .ok (.rt (.s (.val (raisedW 6)))) e else .bad := catch_exc (by decide +kernel)
@[simp] theorem catch_7 {i : Nat} {e : SEnv} : catchR i (.exc "Different" e) = if i < e.length then .ok (.rt (.s (.val (raisedW 7)))) e else .bad := catch_exc (by decide +kernel)
@[simp] theorem catch_8 {i : Nat} {e : SEnv} : catchR i (.exc "NoFault" e) = if i < e.length then .ok (.rt (.s (.val (raisedW 8)))) e else .bad := catch_exc (by decide +kernel)
@[simp] theorem raised_eq {k : Nat} : raisedW k = .tuple [.str "raised", .int (k : Nat)] := id rfl
theorem ne_nilT {xs : List W} (h : shp (.tuple xs) = true) : cmpop .NotEq (.tuple xs) (.tuple []) = some (!xs.isEmpty) := by
  unfold cmpop
  have h2 : eqOk (.tuple xs) (.tuple []) = true := by
    unfold eqOk
    rw [h]
    simp [shp, okD, okDs]
  simp only [h2, if_true]
  cases xs <;> simp [PyData.eqv, PyData.eqvAll]
section
variable {wf n : Nat} {gs : List (Int × Int)} {rs : List Rl}
/-- no shop, whatever it is -/
structure NoSh (v : W) : Prop where
  nd : ndn 4 v = true
  l : ∀ xs ys, v = .tuple [.tuple xs, .tuple ys] → xs.length ≤ 100000 ∧ ys.length ≤ 100000
  b : isShopB v = false
theorem noSh_goods : NoSh (.tuple [.tuple (gs.map gdW)]) := ⟨by simp [ndn, nd, gdW], fun xs ys e => (by cases e), rfl⟩
theorem noSh_none : NoSh .none := ⟨rfl, fun xs ys e => (by cases e), rfl⟩
theorem noSh_int {i : Int} : NoSh (.int i) := ⟨rfl, fun xs ys e => (by cases e), rfl⟩
theorem noSh_str {x : Str} : NoSh (.str x) := ⟨rfl, fun xs ys e => (by cases e), rfl⟩
theorem noSh_list {xs : List W} : NoSh (.list xs) := ⟨rfl, fun xs ys e => (by cases e), rfl⟩
theorem noSh_nil : NoSh (.tuple [.tuple [], .tuple []]) := ⟨by simp [ndn, nd], fun xs ys e => (by cases e; simp), rfl⟩
theorem noSh_over (hg : gs.length ≤ 2) : NoSh (.tuple [.tuple (gs.map gdW), .tuple [.tuple [.str "over", .int 5, .int 0]]]) := by
  refine ⟨by simp [ndn, nd, gdW], fun xs ys e => ?_, ?_⟩
  · cases e
    simp
    omega
  · have : isRuleB (gs.length : Int) (.tuple [.str "over", .int 5, .int 0]) = false := by simp [isRuleB, isIntB]
    simp [isShopB, rulesB, this]
theorem noSh_more {x : W} (hx : ndn 3 x = true) : NoSh (.tuple [.tuple (gs.map gdW), .tuple (rs.map Rl.w), x]) := by
  refine ⟨?_, fun xs ys e => (by cases e), rfl⟩
  have := ndn_sh (gs := gs) (rs := rs)
  simp only [shW] at this
  simp only [ndn, List.all_cons, List.all_nil, Bool.and_true, Bool.and_eq_true] at this ⊢
  refine ⟨this.1, this.2.1, this.2.2, ?_⟩
  simpa only [ndn, Bool.and_eq_true] using hx
variable {v : W}
theorem x_shop (h : NoSh v) : callN Δ0 wf (n + 5) "need_shop" [.val v] = .exc "InvalidShop" [] := by
  refine call_X u_need_shop rfl ?_
  have c := c_stands (wf := wf) (n := n) isp0 h.nd h.l
  simp [F_need_shop, callR, c, h.b]
/-- no basket of a shop -/
structure NoBk (k : Nat) (v : W) : Prop where
  nd : nd v = true
  z : ∀ xs, v = .tuple xs → xs.length ≤ 1000 ∧ ndA xs = true
  b : isBkB k v = false
theorem x_basket0 {w : W} (h : NoSh v) : callN Δ0 wf (n + 6) "need_basket" [.val v, .val w] = .exc "InvalidShop" [] := by
  refine call_X u_need_basket rfl ?_
  have c := x_shop (wf := wf) (n := n) h
  simp [F_need_basket, callR, c]
theorem x_basket {w : W} (h : Shp gs rs) (hb : NoBk gs.length w) : callN Δ0 wf (n + 6) "need_basket" [.val (shT gs rs), .val w] = .exc "InvalidBasket" [] := by
  refine call_X u_need_basket rfl ?_
  have c1 := c_need_shop (wf := wf) (n := n) h
  have c2 := c_bstands (wf := wf) (n := n + 3) (G := .none) (R := .tuple (rs.map Rl.w)) (v := w) (gs := gs.map gdW) hb.nd hb.z
  rw [List.length_map, hb.b] at c2
  simp [F_need_basket, callR, c1, c2]
theorem x_acts0 {w : W} (h : NoSh v) : callN Δ0 wf (n + 6) "need_acts" [.val v, .val w] = .exc "InvalidShop" [] := by
  refine call_X u_need_acts rfl ?_
  have c := x_shop (wf := wf) (n := n) h
  simp [F_need_acts, callR, c]
/-- no acts -/
structure NoAc (rs : List Rl) (v : W) : Prop where
  nd : nd v = true
  z : ∀ xs, v = .tuple xs → xs.length ≤ 1000 ∧ ∀ x ∈ xs, ndn 2 x = true
  b : actsB rs v = false
theorem x_acts {w : W} (h : Shp gs rs) (ha : NoAc rs w) : callN Δ0 wf (n + 6) "need_acts" [.val (shT gs rs), .val w] = .exc "InvalidActs" [] := by
  refine call_X u_need_acts rfl ?_
  have c1 := c_need_shop (wf := wf) (n := n) h
  have c2 := c_acts_stand (wf := wf) (n := n + 2) (G := .tuple (gs.map gdW)) (rs := rs) ha.nd ha.z
  simp [F_need_acts, callR, c1, c2, ha.b]
theorem x_under0 {w : W} (h : NoSh v) : callN Δ0 wf (n + 7) "shop_under" [.val v, .val w] = .exc "InvalidShop" [] := by
  refine call_X u_shop_under rfl ?_
  have c := x_acts0 (wf := wf) (n := n) (w := w) h
  simp [F_shop_under, callR, c]
theorem x_under {w : W} (h : Shp gs rs) (ha : NoAc rs w) : callN Δ0 wf (n + 7) "shop_under" [.val (shT gs rs), .val w] = .exc "InvalidActs" [] := by
  refine call_X u_shop_under rfl ?_
  have c := x_acts (wf := wf) (n := n) h ha
  simp [F_shop_under, callR, c]
theorem x_touches0 {w a b : W} (h : NoSh v) : callN Δ0 wf (n + 7) "touches" [.val v, .val w, .val a, .val b] = .exc "InvalidShop" [] := by
  refine call_X u_touches rfl ?_
  have c := x_acts0 (wf := wf) (n := n) (w := w) h
  simp [F_touches, callR, c]
theorem x_touches1 {w a b : W} (h : Shp gs rs) (ha : NoAc rs w) : callN Δ0 wf (n + 7) "touches" [.val (shT gs rs), .val w, .val a, .val b] = .exc "InvalidActs" [] := by
  refine call_X u_touches rfl ?_
  have c := x_acts (wf := wf) (n := n) h ha
  simp [F_touches, callR, c]
theorem x_touches2 {as : List Act} {a b : W} (h : Shp gs rs) (ha : Acts rs as) (hn : nd a = true) (hs : ∀ xs, a = .tuple xs → ndA xs = true) (hb : isActB rs a = false) : callN Δ0 wf (n + 7) "touches" [.val (shT gs rs), .val (.tuple (as.map Act.w)), .val a, .val b] = .exc "InvalidAct" [] := by
  refine call_X u_touches rfl ?_
  have c1 := c_need_acts (wf := wf) (n := n) h ha
  have c2 := c_is_act (wf := wf) (n := n + 4) (G := .tuple (gs.map gdW)) (rs := rs) hn hs
  simp [F_touches, callR, c1, c2, hb]
theorem x_touches3 {as : List Act} {a : Act} {b : W} (h : Shp gs rs) (ha : Acts rs as) (hk : a.ok rs) (hb : NoBk gs.length b) : callN Δ0 wf (n + 7) "touches" [.val (shT gs rs), .val (.tuple (as.map Act.w)), .val a.w, .val b] = .exc "InvalidBasket" [] := by
  refine call_X u_touches rfl ?_
  have c1 := c_need_acts (wf := wf) (n := n) h ha
  have c2 := c_is_act (wf := wf) (n := n + 4) (G := .tuple (gs.map gdW)) (rs := rs) (v := a.w) (by cases a <;> rfl) (fun xs e => by cases a <;> (cases e; rfl))
  rw [isActB_of hk] at c2
  have c3 := c_bstands (wf := wf) (n := n + 4) (G := .none) (R := .tuple (rs.map Rl.w)) (v := b) (gs := gs.map gdW) hb.nd hb.z
  rw [List.length_map, hb.b] at c3
  simp [F_touches, callR, c1, c2, c3]
end
end D

namespace D
open PySem L2
/-- a text in two parts -/
theorem W_app {Γ : Gam} {wf : Nat} {b : List S} {Q : Fl → SEnv → Prop} : ∀ {a : List S} {e : SEnv}, ((evSs Γ wf a e).W fun fl e' => match fl with | .nx => (evSs Γ wf b e').W Q | .rt r => Q (.rt r) e') → (evSs Γ wf (a ++ b) e).W Q
  | [], e, h => by
    rw [evSs_nil, W_ok] at h
    exact h
  | x :: a, e, h => by
    rw [List.cons_append, evSs_cons, W_bind]
    rw [evSs_cons, W_bind] at h
    refine h.mono fun fl e' q => ?_
    cases fl with
    | nx =>
      rw [k_ssN] at q ⊢
      exact W_app q
    | rt r =>
      obtain ⟨fl, e2, h1, h2⟩ := q
      cases h1
      exact ⟨_, _, rfl, h2⟩
/-! ## offers, kinds, bought acts: what is refused -/
section
variable {wf n : Nat} {gs : List (Int × Int)} {rs : List Rl} {os : List (Act × Int)} {v w : W}
structure NoOf (rs : List Rl) (v : W) : Prop where
  nd : nd v = true
  z : ∀ xs, v = .tuple xs → xs.length ≤ 1000 ∧ ∀ x ∈ xs, ndn 3 x = true
  b : offersB rs v = false
theorem x_offers0 (h : NoSh v) : callN Δ0 wf (n + 6) "need_offers" [.val v, .val w] = .exc "InvalidShop" [] := by
  refine call_X u_need_offers rfl ?_
  have c := x_shop (wf := wf) (n := n) h
  simp [F_need_offers, callR, c]
theorem x_offers (h : Shp gs rs) (ho : NoOf rs w) : callN Δ0 wf (n + 6) "need_offers" [.val (shT gs rs), .val w] = .exc "InvalidOffers" [] := by
  refine call_X u_need_offers rfl ?_
  have c1 := c_need_shop (wf := wf) (n := n) h
  have c2 := c_offers_stand (wf := wf) (n := n + 2) (G := .tuple (gs.map gdW)) (rs := rs) (v := w) ho.nd ho.z
  simp [F_need_offers, callR, c1, c2, ho.b]
/-- not bought acts -/
structure NoBt (os : List (Act × Int)) (v : W) : Prop where
  nd : nd v = true
  z : ∀ xs, v = .tuple xs → xs.length ≤ 1000 ∧ ∀ x ∈ xs, shp x = true ∧ ∀ ys, x = .tuple ys → ys.length ≤ 1000
  b : ∀ as, ¬ Bought os v as
theorem x_bought (hl : os.length ≤ 1000) (h : NoBt os v) : callN Δ0 wf (n + 3) "need_bought" [.val (.tuple (os.map offW)), .val v] = .exc "InvalidActs" [] := by
  refine call_X u_need_bought rfl ?_
  obtain ⟨b, c1, c2⟩ := c_is_bought (wf := wf) (n := n) (os := os) h.nd hl h.z
  have : b = false := by
    cases b with
    | false => rfl
    | true =>
      obtain ⟨as, q⟩ := c2.mp rfl
      exact absurd q (h.b as)
  subst this
  simp [F_need_bought, callR, c1]
theorem shp_act (a : Act) : shp a.w = true ∧ ∀ ys, a.w = .tuple ys → ys.length ≤ 1000 := ⟨act_shp a, fun ys e => by cases a <;> (cases e; simp)⟩
theorem c_need_bought {as : List Act} (hl : os.length ≤ 1000) (ha : ∀ a ∈ as, a ∈ os.map (·.1)) (hr : risesA as = true) (hz : as.length ≤ 1000) : callN Δ0 wf (n + 3) "need_bought" [.val (.tuple (os.map offW)), .val (.tuple (as.map Act.w))] = .ok (.s (.val .none)) [] := by
  refine call_E u_need_bought rfl ?_
  obtain ⟨b, c1, c2⟩ := c_is_bought (wf := wf) (n := n) (os := os) (v := .tuple (as.map Act.w)) rfl hl (fun xs e => by
    cases e
    refine ⟨by simpa using hz, fun x hx => ?_⟩
    obtain ⟨a, _, rfl⟩ := List.mem_map.mp hx
    exact shp_act a)
  have : b = true := c2.mpr ⟨as, rfl, ha, hr⟩
  subst this
  simp [F_need_bought, callR, c1]
theorem c_price_of {as : List Act} (h : Shp gs rs) (ho : OffS rs os) (ha : ∀ a ∈ as, a ∈ os.map (·.1)) (hr : risesA as = true) (hz : as.length ≤ 1000) : callN Δ0 wf (n + 7) "price_of" [.val (shT gs rs), .val (.tuple (os.map offW)), .val (.tuple (as.map Act.w))] = .ok (.s (.val (.int (costV os as)))) [] := by
  refine call_E u_price_of rfl ?_
  have hl := ho.l
  have c1 := c_need_offers (wf := wf) (n := n) h ho
  have c2 := c_need_bought (wf := wf) (n := n + 3) (os := os) (as := as) (by omega) ha hr hz
  have c3 := c_cost_of (wf := wf) (n := n + 5) (os := os) (as := as) (by omega)
  simp [F_price_of, callR, c1, c2, c3]
theorem x_price0 {a : W} (h : NoSh v) : callN Δ0 wf (n + 7) "price_of" [.val v, .val w, .val a] = .exc "InvalidShop" [] := by
  refine call_X u_price_of rfl ?_
  have c := x_offers0 (wf := wf) (n := n) (w := w) h
  simp [F_price_of, callR, c]
theorem x_price1 {a : W} (h : Shp gs rs) (ho : NoOf rs w) : callN Δ0 wf (n + 7) "price_of" [.val (shT gs rs), .val w, .val a] = .exc "InvalidOffers" [] := by
  refine call_X u_price_of rfl ?_
  have c := x_offers (wf := wf) (n := n) h ho
  simp [F_price_of, callR, c]
theorem x_price2 {a : W} (h : Shp gs rs) (ho : OffS rs os) (ha : NoBt os a) : callN Δ0 wf (n + 7) "price_of" [.val (shT gs rs), .val (.tuple (os.map offW)), .val a] = .exc "InvalidActs" [] := by
  refine call_X u_price_of rfl ?_
  have hl := ho.l
  have c1 := c_need_offers (wf := wf) (n := n) h ho
  have c2 := x_bought (wf := wf) (n := n + 3) (os := os) (by omega) ha
  simp [F_price_of, callR, c1, c2]
theorem bought_inj {as bs : List Act} (h : (as.map Act.w) = bs.map Act.w) : as = bs := by
  have := eqv_acts as bs
  rw [h] at this
  have e := eqv_acts bs bs
  rw [this] at e
  simpa using e
theorem pw_nodup {as : List Act} (h : risesA as = true) : as.Nodup := (rises_pw h).imp fun {x y} q e => by
  subst e
  rw [lt_irr] at q
  cases q
theorem noBt_of {as : List Act} (hz : as.length ≤ 1000) (h : (∀ a ∈ as, a ∈ os.map (·.1)) → risesA as = true → False) : NoBt os (.tuple (as.map Act.w)) := by
  refine ⟨rfl, fun xs e => ?_, fun bs hb => ?_⟩
  · cases e
    refine ⟨by simpa using hz, fun x hx => ?_⟩
    obtain ⟨a, _, rfl⟩ := List.mem_map.mp hx
    exact shp_act a
  · obtain ⟨h1, h2, h3⟩ := hb
    have e : as = bs := bought_inj (by injection h1)
    subst e
    exact h h2 h3
theorem noBt_l {xs : List W} : NoBt os (.list xs) := ⟨rfl, fun xs e => (by cases e), fun as h => by cases h.1⟩
theorem noBt_n : NoBt os .none := ⟨rfl, fun xs e => (by cases e), fun as h => by cases h.1⟩
theorem noBt_i {i : Int} : NoBt os (.int i) := ⟨rfl, fun xs e => (by cases e), fun as h => by cases h.1⟩
end
end D

namespace D
open PySem L2 PyProof.Rows
def F_law : Fn := ⟨1, 12,
    [.set 1 true (.lst []),
      .unp [(.nm 2, false), (.nm 3, false), (.nm 4, false)] (.call "_law_some_case" [.v (.var 0), .r 1, .v (.con (.int 6))]),
      .set 5 false (.lc (.var 8) (.many [8, 9]) (.seq (.v (.var 3))) [] [8, 9]),
      .set 6 false (.tup []),
      .ite (.cmp .NotEq (.v (.var 5)) (.v (.lst []))) [.set 6 false (.call "_law_some_of" [.v (.var 0), .r 1, .v (.var 5), .v (.call "_law_draw" [.v (.var 0), .r 1, .v (.bin .Add (.v (.blt "len" [.v (.var 5)])) (.v (.con (.int 1))))])])] [],
      .set 7 false (.con (.int 0)),
      .fr (.many [8, 9]) (.seq (.v (.var 3))) [.aug 7 .Add (.ife (.cmp .In (.v (.var 8)) (.v (.var 6))) (.var 9) (.con (.int 0)))],
      .ite (.or (.cmp .NotEq (.v (.call "_law_price" [.v (.var 2), .v (.var 3), .v (.var 6)])) (.v (.var 7))) (.cmp .NotEq (.v (.call "_law_price" [.v (.var 2), .v (.var 3), .v (.tup [])])) (.v (.con (.int 0))))) [.ret (some (.con (.bool false)))] [],
      .set 10 true (.lst [.blt "list" [.v (.var 6)], .con (.none), .bin .Add (.v (.var 6)) (.v (.tup [.tup [.con (.str "off"), .con (.int 9)]])), .ife (.cmp .NotEq (.v (.var 6)) (.v (.tup []))) (.bin .Add (.v (.var 6)) (.v (.sli (.v (.var 6)) none (some (.con (.int 1)))))) (.con (.int 5))]),
      .ex (.ext 10 (.v (.sli (.v (.lc (.tup [.var 8]) (.one 8) (.seq (.v (.call "_law_all_acts" [.v (.var 2)]))) [.cmp .NotIn (.v (.var 8)) (.v (.var 5))] [8])) none (some (.con (.int 3)))))),
      .ex (.ext 10 (.v (.ife (.cmp .Gt (.v (.blt "len" [.v (.var 6)])) (.v (.con (.int 1)))) (.lst [.rev (.v (.var 6)) none]) (.lst [])))),
      .ite (.not (.blt "all" [.v (.lc (.cmp .Eq (.v (.call "_law_price" [.v (.var 2), .v (.var 3), .v (.var 11)])) (.v (.tup [.con (.str "raised"), .con (.int 2)]))) (.one 11) (.seq (.r 10)) [] [11])])) [.ret (some (.con (.bool false)))] [],
      .ret (some (.and (.cmp .Eq (.v (.call "_law_price" [.v (.var 2), .v (.blt "list" [.v (.var 3)]), .v (.var 6)])) (.v (.tup [.con (.str "raised"), .con (.int 4)]))) (.cmp .Eq (.v (.call "_law_price" [.v (.con (.none)), .v (.con (.int 5)), .v (.con (.int 5))])) (.v (.tup [.con (.str "raised"), .con (.int 0)])))))]⟩
def cf_law : Cf := ⟨["script", "state", "shop", "offers", "kinds", "own", "acts", "due", "act", "cost", "bad", "one"], [1, 10], [("_law_some_case", [1]), ("_law_some_of", [1]), ("_law_draw", [1]), ("_law_price", []), ("_law_all_acts", [])], [], [], [], [], []⟩
/-- what the law finds: itself, and the defs it calls as all laws have them -/
structure LawEnv (Δ : Str → Option Fn) (wf : Nat) : Prop where
  f_law : Δ "law" = some F_law
  c__law_some_case : ∀ n, callN Δ wf n "_law_some_case" = callN Δ0 wf n "_law_some_case"
  c__law_some_of : ∀ n, callN Δ wf n "_law_some_of" = callN Δ0 wf n "_law_some_of"
  c__law_draw : ∀ n, callN Δ wf n "_law_draw" = callN Δ0 wf n "_law_draw"
  c__law_price : ∀ n, callN Δ wf n "_law_price" = callN Δ0 wf n "_law_price"
  c__law_all_acts : ∀ n, callN Δ wf n "_law_all_acts" = callN Δ0 wf n "_law_all_acts"
end D

namespace D
open PySem L2
section
variable {wf n : Nat} {ns : List Int} {Δ : Str → Option Fn} {gs : List (Int × Int)} {rs : List Rl} {os : List (Act × Int)}
theorem told18 {v w a : W} {c : Str} {k : Nat} (hx : callN Δ0 wf n "price_of" [.val v, .val w, .val a] = .exc c []) (hk : exIdx c = some k) : callN Δ0 wf (n + 1) "_law_price" [.val v, .val w, .val a] = .ok (.s (.val (.tuple [.str "raised", .int (k : Nat)]))) [] := by
  refine call_E u__law_price rfl ?_
  simp [F__law_price, callR, hx, catch_exc hk]
theorem good18 {v w a r : W} (hx : callN Δ0 wf n "price_of" [.val v, .val w, .val a] = .ok (.s (.val r)) []) : callN Δ0 wf (n + 1) "_law_price" [.val v, .val w, .val a] = .ok (.s (.val r)) [] := by
  refine call_E u__law_price rfl ?_
  simp [F__law_price, callR, hx]
def R18 : List S := F_law.body.drop 5
def R18b : List S := F_law.body.drop 9
def R18c : List S := F_law.body.drop 11
theorem cmp_notinL {a : Act} {as : List Act} : cmpop .NotIn a.w (.list (as.map Act.w)) = some (!as.contains a) := by
  have h1 := act_shp a
  have h2 := shp_actsL (as := as)
  unfold cmpop
  simp only [h1, h2, Bool.and_self, if_true]
  congr 2
  induction as with
  | nil => rfl
  | cons b as ih =>
    rw [List.map_cons, List.any_cons, List.contains_cons, ih shp_actsL, act_eqv]
    congr 1
    by_cases q : b = a
    · subst q; simp
    · simp [q, Ne.symm q]
theorem tail18c {as : List Act} {m : Nat} {kd x5 : W} {C : List W} {x7 : W} {a8 a9 : Option W} (h : LawEnv Δ wf) (hok : ShOk gs rs) (ho : OffS rs os) (hC : ∀ v ∈ C, NoBt os v) (hCl : C.length ≤ 100) :
    (evSs ⟨callN Δ wf (n + 19)⟩ wf R18c [some (.val (wInts ns)), some (.own false (zeros m)), some (.val (shT gs rs)), some (.val (.tuple (os.map offW))), some (.val kd), some (.val x5), some (.val (.tuple (as.map Act.w))), some (.val x7), a8.map Slot.val, a9.map Slot.val, some (.own false C), none]).W
      fun fl e => (∃ outs, outsOf [.val (wInts ns)] e = some outs) ∧ flRV fl = .s (.val (.bool true)) := by
  have ol := ho.l
  have l1 := told18 (n := n + 18) (k := 4) (x_price1 (wf := wf) (n := n + 11) (w := .list (os.map offW)) (a := .tuple (as.map Act.w)) hok.shp ⟨rfl, fun xs e => (by cases e), rfl⟩) (by decide +kernel)
  have l2 := told18 (n := n + 18) (k := 0) (x_price0 (wf := wf) (n := n + 11) (v := .none) (w := .int 5) (a := .int 5) noSh_none) (by decide +kernel)
  have q4 := cmp_eq_self (x := .tuple [.str "raised", .int 4]) (by decide +kernel)
  have q0 := cmp_eq_self (x := .tuple [.str "raised", .int 0]) (by decide +kernel)
  have q2 := cmp_eq_self (x := .tuple [.str "raised", .int 2]) (by decide +kernel)
  have l3 : ∀ v ∈ C, callN Δ0 wf (n + 19) "_law_price" [.val (shT gs rs), .val (.tuple (os.map offW)), .val v] = .ok (.s (.val (.tuple [.str "raised", .int 2]))) [] := fun v hv => told18 (n := n + 18) (k := 2) (x_price2 (wf := wf) (n := n + 11) hok.shp ho (hC v hv)) (by decide +kernel)
  simp [R18c, F_law, ev_lc]
  rw [kLc_map (L := C) (f := id) (g := fun _ => .bool true) (by simp) (szl _ (by omega)) (by simp) (fun v hv => ?_) (by simp)]
  · have := allB_bools (f := fun _ : W => true) C
    simp [this, callR, h.c__law_price, l1, l2, q4, q0]
  · simp [callR, h.c__law_price, l3 v hv, q2]
theorem bad18_a {as : List Act} (ho : OffS rs os) (hr : rs.length ≤ 4) (hal : as.length ≤ 6) : NoBt os (.tuple (as.map Act.w ++ [.tuple [.str "off", .int 9]])) := by
  have := noBt_of (os := os) (as := as ++ [.off 9]) (by simp; omega) (fun h1 _ => by
    have := h1 (.off 9) (by simp)
    obtain ⟨o, ho1, ho2⟩ := List.mem_map.mp this
    have := (ho.ok o ho1).1
    rw [ho2] at this
    have : 9 < rs.length := this
    omega)
  simpa [aw_o] using this
theorem bad18_b {as : List Act} (hal : as.length ≤ 6) (hne : as ≠ []) : NoBt os (.tuple (as.map Act.w ++ (as.map Act.w).take 1)) := by
  have := noBt_of (os := os) (as := as ++ as.take 1) (by simp; omega) (fun _ h2 => by
    have nd := pw_nodup h2
    cases as with
    | nil => exact hne rfl
    | cons a as =>
      simp at nd)
  simpa [List.map_take] using this
theorem bad18_c {as : List Act} (hal : as.length ≤ 6) (hup : risesA as = true) (h1 : 1 < as.length) : NoBt os (.tuple (as.map Act.w).reverse) := by
  have := noBt_of (os := os) (as := as.reverse) (by simp; omega) (fun _ h2 => by
    have p1 := rises_pw hup
    have p2 := rises_pw h2
    match as, h1 with
    | a :: b :: as, _ =>
      have q1 := (List.pairwise_cons.mp p1).1 b (by simp)
      rw [List.pairwise_reverse] at p2
      have q2 := (List.pairwise_cons.mp p2).1 b (by simp)
      have := lt_trans' q1 q2
      rw [lt_irr] at this
      cases this)
  simpa using this
theorem tail18b {L as : List Act} {m : Nat} {kd : W} {B : List W} {x7 : W} {a8 a9 : Option W} (h : LawEnv Δ wf) (hok : ShOk gs rs) (ho : OffS rs os) (hL : L = os.map (·.1)) (ha : ∀ a ∈ as, a ∈ L) (hup : risesA as = true) (hal : as.length ≤ 6) (hB : ∀ v ∈ B, NoBt os v) (hBl : B.length = 4) :
    (evSs ⟨callN Δ wf (n + 19)⟩ wf R18b [some (.val (wInts ns)), some (.own false (zeros m)), some (.val (shT gs rs)), some (.val (.tuple (os.map offW))), some (.val kd), some (.val (.list (L.map Act.w))), some (.val (.tuple (as.map Act.w))), some (.val x7), a8.map Slot.val, a9.map Slot.val, some (.own false B), none]).W
      fun fl e => (∃ outs, outsOf [.val (wInts ns)] e = some outs) ∧ flRV fl = .s (.val (.bool true)) := by
  have rl := hok.rl
  have gl := hok.gl
  have ol := ho.l
  have al := c_all_acts (wf := wf) (n := n + 18) (G := .tuple (gs.map gdW)) (rs := rs) (by omega)
  obtain ⟨S, hS⟩ : ∃ S, S = sortA (allA 0 rs) := ⟨_, rfl⟩
  rw [← hS] at al
  have Sl : S.length ≤ 12 := by
    rw [hS, (sortA_perm _).length_eq]
    have := allA_len (k := 0) (rs := rs)
    omega
  have al2 : callN Δ0 wf (n + 19) "_law_all_acts" [.val (shT gs rs)] = _ := al
  rw [show R18b = R18b.take 2 ++ R18c from rfl]
  refine W_app ?_
  simp [R18b, F_law, callR, h.c__law_all_acts, al2, ev_lc]
  rw [kLc_pure (L := S) (f := Act.w) (g := fun a => if L.contains a then none else some (.tuple [a.w])) rfl (szl _ (by omega)) (by simp) (fun a ha => ?_) (by cases a8 <;> simp)]
  rotate_left
  · have ci := cmp_notinL (a := a) (as := L)
    cases q : L.contains a with
    | true =>
      rw [q] at ci
      simp [ci]
    | false =>
      rw [q] at ci
      simp [ci]
  obtain ⟨N, hN⟩ : ∃ N, N = S.filterMap fun a => if L.contains a then none else some (PyData.tuple [a.w]) := ⟨_, rfl⟩
  rw [← hN]
  have sl : sliop (.list N) none (some 3) = some (.s (.own false (N.take 3))) := by
    show some (RV.s (.own false (cutW N none (some ((3 : Nat) : Int))))) = _
    rw [cut_to]
  obtain ⟨N3, hN3⟩ : ∃ N3, N3 = N.take 3 := ⟨_, rfl⟩
  have N3l : N3.length ≤ 3 := by rw [hN3]; simp; omega
  have hN3b : ∀ v ∈ N3, NoBt os v := fun v hv => by
    rw [hN3] at hv
    have hv := List.mem_of_mem_take hv
    rw [hN, List.mem_filterMap] at hv
    obtain ⟨a, _, h2⟩ := hv
    split at h2
    · cases h2
    · rename_i hc
      cases h2
      have := noBt_of (os := os) (as := [a]) (by simp) (fun h1 _ => by
        have := h1 a (by simp)
        rw [← hL] at this
        exact hc (by simpa using this))
      simpa using this
  rw [← hN3] at sl
  have big := sizeLine_big
  have z1 : B.length + N3.length ≤ sizeLine := by omega
  have z2 : B.length + (N3.length + 1) ≤ sizeLine := by omega
  have z3 : B.length + N3.length + 1 ≤ sizeLine := by omega
  have rv : revL (as.map Act.w) none = (as.map Act.w).reverse := by
    unfold revL revN
    rw [List.take_length]
  have nm : ∀ v ∈ B ++ N3, NoBt os v := fun v hv => by
    rcases List.mem_append.mp hv with hv | hv
    · exact hB v hv
    · exact hN3b v hv
  have T := fun (C : List W) (hC : ∀ v ∈ C, NoBt os v) (hCl : C.length ≤ 100) => tail18c (n := n) (ns := ns) (as := as) (m := m) (kd := kd) (x5 := .list (L.map Act.w)) (x7 := x7) (a8 := a8) (a9 := a9) h hok ho hC hCl
  by_cases h1 : (1 : Int) < (as.length : Int)
  · simp [sl, z1, h1, z2, z3, rv]
    have := T (B ++ N3 ++ [.tuple (as.map Act.w).reverse]) (fun v hv => by
      rcases List.mem_append.mp hv with hv | hv
      · exact nm v hv
      · simp at hv
        subst hv
        have := bad18_c (os := os) hal hup (by omega)
        simpa using this) (by simp; omega)
    simpa using this
  · simp [sl, z1, h1]
    exact T (B ++ N3) nm (by simp; omega)
theorem tail18 {L as : List Act} {m : Nat} {kd : W} (h : LawEnv Δ wf) (hok : ShOk gs rs) (ho : OffS rs os) (hL : L = os.map (·.1)) (ha : ∀ a ∈ as, a ∈ L) (hup : risesA as = true) (hal : as.length ≤ 6) :
    (evSs ⟨callN Δ wf (n + 19)⟩ wf R18 [some (.val (wInts ns)), some (.own false (zeros m)), some (.val (shT gs rs)), some (.val (.tuple (os.map offW))), some (.val kd), some (.val (.list (L.map Act.w))), some (.val (.tuple (as.map Act.w))), none, none, none, none, none]).W
      fun fl e => (∃ outs, outsOf [.val (wInts ns)] e = some outs) ∧ flRV fl = .s (.val (.bool true)) := by
  have rl := hok.rl
  have gl := hok.gl
  have ol := ho.l
  rw [show R18 = R18.take 4 ++ R18b from rfl]
  refine W_app ?_
  simp [R18, F_law]
  refine W_fr (L := os) (f := offW) (fun done e => ∃ a8 a9 : Option W, e = [some (.val (wInts ns)), some (.own false (zeros m)), some (.val (shT gs rs)), some (.val (.tuple (os.map offW))), some (.val kd), some (.val (.list (L.map Act.w))), some (.val (.tuple (as.map Act.w))), some (.val (.int (costV done as))), a8.map Slot.val, a9.map Slot.val, none, none]) rfl ⟨none, none, rfl⟩ ?_ ?_
  · rintro done o rest e hE ⟨a8, a9, rfl⟩
    refine ⟨by simp [watchOf], ?_⟩
    have ci := cmp_inA (a := o.1) (as := as)
    have cs : costV (done ++ [o]) as = costV done as + if as.contains o.1 then o.2 else 0 := by
      unfold costV
      rw [List.filter_append, List.filter_cons]
      cases as.contains o.1 <;> simp
    rw [cs]
    cases q : as.contains o.1 with
    | true =>
      rw [q] at ci
      simp [offW, ci]
      exact ⟨⟨some o.1.w, rfl⟩, ⟨some (.int o.2), rfl⟩⟩
    | false =>
      rw [q] at ci
      simp [offW, ci]
      exact ⟨⟨some o.1.w, rfl⟩, ⟨some (.int o.2), rfl⟩⟩
  · rintro e ⟨a8, a9, rfl⟩
    refine ⟨by simp [watchOf], ?_⟩
    have p1 := good18 (n := n + 18) (c_price_of (wf := wf) (n := n + 11) hok.shp ho (by rw [← hL]; exact ha) hup (by omega))
    have p2 := good18 (n := n + 18) (c_price_of (wf := wf) (n := n + 11) (as := []) hok.shp ho (by simp) rfl (by simp))
    have c0 : costV os [] = 0 := by
      unfold costV
      have : os.filter (fun o => ([] : List Act).contains o.1) = [] := by
        rw [List.filter_eq_nil_iff]
        intro o _ z
        cases z
      rw [this]
      rfl
    rw [c0, List.map_nil] at p2
    obtain ⟨A, hA⟩ : ∃ A, A = as.map Act.w := ⟨_, rfl⟩
    have Al : A.length = as.length := by rw [hA]; simp
    have sA : shp (.tuple A) = true := by rw [hA]; exact shp_acts
    have n1 := ne_nilT sA
    have ad1 : binop .Add (.tuple A) (.tuple [.tuple [.str "off", .int 9]]) = some (.s (.val (.tuple (A ++ [.tuple [.str "off", .int 9]])))) := tup_add (by simp; omega)
    have ad2 : binop .Add (.tuple A) (.tuple (A.take 1)) = some (.s (.val (.tuple (A ++ A.take 1)))) := tup_add (by simp; omega)
    have sl : sliop (.tuple A) none (some 1) = some (.s (.val (.tuple (A.take 1)))) := sli_to (i := 1)
    have b3 := bad18_a (as := as) ho rl hal
    have T := fun (B : List W) (hB : ∀ v ∈ B, NoBt os v) (hBl : B.length = 4) => tail18b (n := n) (ns := ns) (m := m) (kd := kd) (x7 := .int (costV os as)) (a8 := a8) (a9 := a9) h hok ho hL ha hup hal hB hBl
    rw [← hA] at p1 b3 ⊢
    by_cases hA0 : as = []
    · have e1 : A = [] := by rw [hA, hA0]; rfl
      rw [e1] at n1 ad1 b3
      simp at n1 b3
      simp only [List.nil_append] at ad1
      rw [← hA, e1] at T
      rw [e1] at p1
      simp [callR, h.c__law_price, p1, p2, e1, ad1, n1]
      refine ⟨by rw [hA0]; exact c0, T _ ?hb ?hl⟩
      case hl => rfl
      intro v hv
      simp only [List.mem_cons, List.not_mem_nil, or_false] at hv
      rcases hv with rfl | rfl | rfl | rfl
      · exact noBt_l
      · exact noBt_n
      · exact b3
      · exact noBt_i
    · have e1 : A.isEmpty = false := by
        rw [hA]
        cases as with
        | nil => exact absurd rfl hA0
        | cons => rfl
      rw [e1] at n1
      have b4 := bad18_b (os := os) (as := as) hal hA0
      rw [← hA] at b4 T
      simp [callR, h.c__law_price, p1, p2, ad1, n1, sl, ad2]
      refine T _ ?hb2 ?hl2
      case hl2 => rfl
      intro v hv
      simp only [List.mem_cons, List.not_mem_nil, or_false] at hv
      rcases hv with rfl | rfl | rfl | rfl
      · exact noBt_l
      · exact noBt_n
      · exact b3
      · exact b4
theorem c_law (h : LawEnv Δ wf) (hn : ns.length ≤ 63) (hw : 1000 ≤ wf) : ∃ outs, callN Δ wf (n + 20) "law" [.val (wInts ns)] = .ok (.s (.val (.bool true))) outs := by
  have key : ∃ r outs, callN Δ wf (n + 20) "law" [.val (wInts ns)] = .ok r outs ∧ r = .s (.val (.bool true)) := by
    refine call_W h.f_law rfl ?_
    obtain ⟨gs, rs, os, kd, m, hs, hok, hm⟩ := c_some_case (wf := wf) (n := n + 11) (ns := ns) (m := 0) (most := 6) hn (by omega) (by omega) hw
    have hs0 : zeros 0 = [] := rfl
    rw [hs0] at hs
    have rl := hok.sh.rl
    have gl := hok.sh.gl
    have ol := hok.of.l
    have nd := pw_nodup hok.of.r
    rw [show F_law.body = F_law.body.take 5 ++ R18 from rfl]
    refine W_app ?_
    simp [F_law, callR, h.c__law_some_case, hs, ev_lc]
    rw [kLc_map (L := os) (f := offW) (g := fun o => o.1.w) (by simp) (szl _ (by omega)) (by simp) (fun o ho => by simp [offW]) (by simp)]
    have ow : os.map (fun o => o.1.w) = (os.map (·.1)).map Act.w := by simp
    rw [ow]
    obtain ⟨L, hL⟩ : ∃ L, L = os.map (·.1) := ⟨_, rfl⟩
    have Ll : L.length = os.length := by rw [hL]; simp
    rw [← hL] at nd ⊢
    have n1 := ne_nil (xs := L.map Act.w) shp_actsL
    by_cases hk : L = []
    · rw [hk] at n1
      simp at n1
      simp [hk, n1]
      have := tail18 (n := n) (ns := ns) (as := []) (m := m) (kd := kd) h hok.sh hok.of hL (by simp) rfl (by simp)
      rw [hk] at this
      simpa using this
    · have he : (L.map Act.w).isEmpty = false := by
        cases L with
        | nil => exact absurd rfl hk
        | cons => rfl
      rw [he] at n1
      have d1 := c_dr0 (wf := wf) (n := n + 16) (ns := ns) (m := m) (many := (L.length : Int) + 1) hn (by omega) (by omega)
      have b1 := dr_lt (ns := ns) (m := m) (many := (L.length : Int) + 1) (by omega)
      obtain ⟨as, m2, s1, s2, s3, s4, s5⟩ := c_some_of (wf := wf) (n := n + 15) (ns := ns) (L := L) (m := m + 1) (cnt := dr ns m ((L.length : Int) + 1)) hn (by omega) (by omega) nd b1.1 hw
      simp [n1, callR, h.c__law_draw, d1, h.c__law_some_of, s1]
      exact tail18 (n := n) (ns := ns) (as := as) (m := m2) (kd := kd) h hok.sh hok.of hL s2 s4 (by omega)
  obtain ⟨r, outs, h1, rfl⟩ := key
  exact ⟨outs, h1⟩
end
end D

namespace D
open PySem L2 PyProof.Rows
def top (i : Nat) : Stmt := PySem.Challenge.pw_sureprices_k18_whole_prices.main.body.getD i (.Pass ⟨0, 0, 0, 0⟩)
def D__law_cell_at : Df := ⟨"_law_cell_at", defArgs (top 33), defBody (top 33), defScope (top 33), ["script", "k"], cf__law_cell_at, F__law_cell_at, 0, "_law_cell_at", ""⟩
def D__law_mixed : Df := ⟨"_law_mixed", defArgs (top 34), defBody (top 34), defScope (top 34), ["script", "k", "many"], cf__law_mixed, F__law_mixed, 0, "_law_mixed", ""⟩
def D__law_draw : Df := ⟨"_law_draw", defArgs (top 35), defBody (top 35), defScope (top 35), ["script", "state", "many"], cf__law_draw, F__law_draw, 0, "_law_draw", ""⟩
def D__law_some_goods : Df := ⟨"_law_some_goods", defArgs (top 41), defBody (top 41), defScope (top 41), ["script", "state"], cf__law_some_goods, F__law_some_goods, 0, "_law_some_goods", ""⟩
def D__law_pick : Df := ⟨"_law_pick", defArgs (top 39), defBody (top 39), defScope (top 39), ["script", "state", "some"], cf__law_pick, F__law_pick, 0, "_law_pick", ""⟩
def D__law_some_rule : Df := ⟨"_law_some_rule", defArgs (top 40), defBody (top 40), defScope (top 40), ["script", "state", "goods", "capped"], cf__law_some_rule, F__law_some_rule, 0, "_law_some_rule", ""⟩
def D__law_some_shop : Df := ⟨"_law_some_shop", defArgs (top 42), defBody (top 42), defScope (top 42), ["script", "state"], cf__law_some_shop, F__law_some_shop, 0, "_law_some_shop", ""⟩
def D__law_all_acts : Df := ⟨"_law_all_acts", defArgs (top 38), defBody (top 38), defScope (top 38), ["shop"], cf__law_all_acts, F__law_all_acts, 0, "_law_all_acts", ""⟩
def D__law_some_of : Df := ⟨"_law_some_of", defArgs (top 36), defBody (top 36), defScope (top 36), ["script", "state", "some", "count"], cf__law_some_of, F__law_some_of, 0, "_law_some_of", ""⟩
def D__law_some_case : Df := ⟨"_law_some_case", defArgs (top 43), defBody (top 43), defScope (top 43), ["script", "state", "most"], cf__law_some_case, F__law_some_case, 0, "_law_some_case", ""⟩
def D_is_integer : Df := ⟨"is_integer", defArgs (top 15), defBody (top 15), defScope (top 15), ["value", "low", "high"], cf_is_integer, F_is_integer, 0, "is_integer", ""⟩
def D_is_good : Df := ⟨"is_good", defArgs (top 17), defBody (top 17), defScope (top 17), ["value"], cf_is_good, F_is_good, 0, "is_good", ""⟩
def D_is_most : Df := ⟨"is_most", defArgs (top 18), defBody (top 18), defScope (top 18), ["value"], cf_is_most, F_is_most, 0, "is_most", ""⟩
def D_is_rule : Df := ⟨"is_rule", defArgs (top 19), defBody (top 19), defScope (top 19), ["count", "value"], cf_is_rule, F_is_rule, 0, "is_rule", ""⟩
def D_stands : Df := ⟨"stands", defArgs (top 20), defBody (top 20), defScope (top 20), ["value"], cf_stands, F_stands, 0, "stands", ""⟩
def D_need_shop : Df := ⟨"need_shop", defArgs (top 21), defBody (top 21), defScope (top 21), ["shop"], cf_need_shop, F_need_shop, 0, "need_shop", ""⟩
def D_rises : Df := ⟨"rises", defArgs (top 16), defBody (top 16), defScope (top 16), ["some"], cf_rises, F_rises, 0, "rises", ""⟩
def D_most_of : Df := ⟨"most_of", defArgs (top 23), defBody (top 23), defScope (top 23), ["rule"], cf_most_of, F_most_of, 0, "most_of", ""⟩
def D_is_act : Df := ⟨"is_act", defArgs (top 24), defBody (top 24), defScope (top 24), ["shop", "value"], cf_is_act, F_is_act, 0, "is_act", ""⟩
def D_offers_stand : Df := ⟨"offers_stand", defArgs (top 26), defBody (top 26), defScope (top 26), ["shop", "value"], cf_offers_stand, F_offers_stand, 0, "offers_stand", ""⟩
def D_need_offers : Df := ⟨"need_offers", defArgs (top 27), defBody (top 27), defScope (top 27), ["shop", "offers"], cf_need_offers, F_need_offers, 0, "need_offers", ""⟩
def D_is_bought : Df := ⟨"is_bought", defArgs (top 28), defBody (top 28), defScope (top 28), ["offers", "value"], cf_is_bought, F_is_bought, 0, "is_bought", ""⟩
def D_need_bought : Df := ⟨"need_bought", defArgs (top 29), defBody (top 29), defScope (top 29), ["offers", "acts"], cf_need_bought, F_need_bought, 0, "need_bought", ""⟩
def D_cost_of : Df := ⟨"cost_of", defArgs (top 30), defBody (top 30), defScope (top 30), ["offers", "acts"], cf_cost_of, F_cost_of, 0, "cost_of", ""⟩
def D_price_of : Df := ⟨"price_of", defArgs (top 31), defBody (top 31), defScope (top 31), ["shop", "offers", "acts"], cf_price_of, F_price_of, 0, "price_of", ""⟩
def D__law_price : Df := ⟨"_law_price", defArgs (top 44), defBody (top 44), defScope (top 44), ["shop", "offers", "acts"], cf__law_price, F__law_price, 0, "_law_price", ""⟩
def D_law : Df := ⟨"law", defArgs (top 45), defBody (top 45), defScope (top 45), ["script"], cf_law, F_law, 0, "law", ""⟩
theorem ok__law_cell_at : D__law_cell_at.Ok := Df.ok_of (by decide +kernel) (by kernel_rfl)
theorem ok__law_mixed : D__law_mixed.Ok := Df.ok_of (by decide +kernel) (by kernel_rfl)
theorem ok__law_draw : D__law_draw.Ok := Df.ok_of (by decide +kernel) (by kernel_rfl)
theorem ok__law_some_goods : D__law_some_goods.Ok := Df.ok_of (by decide +kernel) (by kernel_rfl)
theorem ok__law_pick : D__law_pick.Ok := Df.ok_of (by decide +kernel) (by kernel_rfl)
theorem ok__law_some_rule : D__law_some_rule.Ok := Df.ok_of (by decide +kernel) (by kernel_rfl)
theorem ok__law_some_shop : D__law_some_shop.Ok := Df.ok_of (by decide +kernel) (by kernel_rfl)
theorem ok__law_all_acts : D__law_all_acts.Ok := Df.ok_of (by decide +kernel) (by kernel_rfl)
theorem ok__law_some_of : D__law_some_of.Ok := Df.ok_of (by decide +kernel) (by kernel_rfl)
theorem ok__law_some_case : D__law_some_case.Ok := Df.ok_of (by decide +kernel) (by kernel_rfl)
theorem ok_is_integer : D_is_integer.Ok := Df.ok_of (by decide +kernel) (by kernel_rfl)
theorem ok_is_good : D_is_good.Ok := Df.ok_of (by decide +kernel) (by kernel_rfl)
theorem ok_is_most : D_is_most.Ok := Df.ok_of (by decide +kernel) (by kernel_rfl)
theorem ok_is_rule : D_is_rule.Ok := Df.ok_of (by decide +kernel) (by kernel_rfl)
theorem ok_stands : D_stands.Ok := Df.ok_of (by decide +kernel) (by kernel_rfl)
theorem ok_need_shop : D_need_shop.Ok := Df.ok_of (by decide +kernel) (by kernel_rfl)
theorem ok_rises : D_rises.Ok := Df.ok_of (by decide +kernel) (by kernel_rfl)
theorem ok_most_of : D_most_of.Ok := Df.ok_of (by decide +kernel) (by kernel_rfl)
theorem ok_is_act : D_is_act.Ok := Df.ok_of (by decide +kernel) (by kernel_rfl)
theorem ok_offers_stand : D_offers_stand.Ok := Df.ok_of (by decide +kernel) (by kernel_rfl)
theorem ok_need_offers : D_need_offers.Ok := Df.ok_of (by decide +kernel) (by kernel_rfl)
theorem ok_is_bought : D_is_bought.Ok := Df.ok_of (by decide +kernel) (by kernel_rfl)
theorem ok_need_bought : D_need_bought.Ok := Df.ok_of (by decide +kernel) (by kernel_rfl)
theorem ok_cost_of : D_cost_of.Ok := Df.ok_of (by decide +kernel) (by kernel_rfl)
theorem ok_price_of : D_price_of.Ok := Df.ok_of (by decide +kernel) (by kernel_rfl)
theorem ok__law_price : D__law_price.Ok := Df.ok_of (by decide +kernel) (by kernel_rfl)
theorem ok_law : D_law.Ok := Df.ok_of (by decide +kernel) (by kernel_rfl)
theorem lookup1 {a x : Str} {v w : W} (h : [(a, v)].lookup x = some w) : x = a ∧ w = v := by
  rw [List.lookup_cons] at h
  split at h
  · rename_i e
    cases h
    exact ⟨by simpa using e, rfl⟩
  · cases h
def T : List Df := [D__law_cell_at, D__law_mixed, D__law_draw, D__law_some_goods, D__law_pick, D__law_some_rule, D__law_some_shop, D__law_all_acts, D__law_some_of, D__law_some_case, D_is_integer, D_is_good, D_is_most, D_is_rule, D_stands, D_need_shop, D_rises, D_most_of, D_is_act, D_offers_stand, D_need_offers, D_is_bought, D_need_bought, D_cost_of, D_price_of, D__law_price, D_law]
def h__law_cell_at : He.DefD := ⟨("_law_cell_at", none), "_law_cell_at", "_law_cell_at", defArgs (top 33), defBody (top 33), defScope (top 33), [], []⟩
def h__law_mixed : He.DefD := ⟨("_law_mixed", none), "_law_mixed", "_law_mixed", defArgs (top 34), defBody (top 34), defScope (top 34), [], []⟩
def h__law_draw : He.DefD := ⟨("_law_draw", none), "_law_draw", "_law_draw", defArgs (top 35), defBody (top 35), defScope (top 35), [], []⟩
def h__law_some_goods : He.DefD := ⟨("_law_some_goods", none), "_law_some_goods", "_law_some_goods", defArgs (top 41), defBody (top 41), defScope (top 41), [], []⟩
def h__law_pick : He.DefD := ⟨("_law_pick", none), "_law_pick", "_law_pick", defArgs (top 39), defBody (top 39), defScope (top 39), [], []⟩
def h__law_some_rule : He.DefD := ⟨("_law_some_rule", none), "_law_some_rule", "_law_some_rule", defArgs (top 40), defBody (top 40), defScope (top 40), [], []⟩
def h__law_some_shop : He.DefD := ⟨("_law_some_shop", none), "_law_some_shop", "_law_some_shop", defArgs (top 42), defBody (top 42), defScope (top 42), [], []⟩
def h__law_all_acts : He.DefD := ⟨("_law_all_acts", none), "_law_all_acts", "_law_all_acts", defArgs (top 38), defBody (top 38), defScope (top 38), [], []⟩
def h__law_some_of : He.DefD := ⟨("_law_some_of", none), "_law_some_of", "_law_some_of", defArgs (top 36), defBody (top 36), defScope (top 36), [], []⟩
def h__law_some_case : He.DefD := ⟨("_law_some_case", none), "_law_some_case", "_law_some_case", defArgs (top 43), defBody (top 43), defScope (top 43), [], []⟩
def h_is_integer : He.DefD := ⟨("is_integer", none), "is_integer", "is_integer", defArgs (top 15), defBody (top 15), defScope (top 15), [], []⟩
def h_is_good : He.DefD := ⟨("is_good", none), "is_good", "is_good", defArgs (top 17), defBody (top 17), defScope (top 17), [], []⟩
def h_is_most : He.DefD := ⟨("is_most", none), "is_most", "is_most", defArgs (top 18), defBody (top 18), defScope (top 18), [], []⟩
def h_is_rule : He.DefD := ⟨("is_rule", none), "is_rule", "is_rule", defArgs (top 19), defBody (top 19), defScope (top 19), [], []⟩
def h_stands : He.DefD := ⟨("stands", none), "stands", "stands", defArgs (top 20), defBody (top 20), defScope (top 20), [], []⟩
def h_need_shop : He.DefD := ⟨("need_shop", none), "need_shop", "need_shop", defArgs (top 21), defBody (top 21), defScope (top 21), [], []⟩
def h_rises : He.DefD := ⟨("rises", none), "rises", "rises", defArgs (top 16), defBody (top 16), defScope (top 16), [], []⟩
def h_most_of : He.DefD := ⟨("most_of", none), "most_of", "most_of", defArgs (top 23), defBody (top 23), defScope (top 23), [], []⟩
def h_is_act : He.DefD := ⟨("is_act", none), "is_act", "is_act", defArgs (top 24), defBody (top 24), defScope (top 24), [], []⟩
def h_offers_stand : He.DefD := ⟨("offers_stand", none), "offers_stand", "offers_stand", defArgs (top 26), defBody (top 26), defScope (top 26), [], []⟩
def h_need_offers : He.DefD := ⟨("need_offers", none), "need_offers", "need_offers", defArgs (top 27), defBody (top 27), defScope (top 27), [], []⟩
def h_is_bought : He.DefD := ⟨("is_bought", none), "is_bought", "is_bought", defArgs (top 28), defBody (top 28), defScope (top 28), [], []⟩
def h_need_bought : He.DefD := ⟨("need_bought", none), "need_bought", "need_bought", defArgs (top 29), defBody (top 29), defScope (top 29), [], []⟩
def h_cost_of : He.DefD := ⟨("cost_of", none), "cost_of", "cost_of", defArgs (top 30), defBody (top 30), defScope (top 30), [], []⟩
def h_price_of : He.DefD := ⟨("price_of", none), "price_of", "price_of", defArgs (top 31), defBody (top 31), defScope (top 31), [], []⟩
def h__law_price : He.DefD := ⟨("_law_price", none), "_law_price", "_law_price", defArgs (top 44), defBody (top 44), defScope (top 44), [], []⟩
def h_law : He.DefD := ⟨("law", none), "law", "law", defArgs (top 45), defBody (top 45), defScope (top 45), [], []⟩
def h_which : He.DefD := ⟨("_law_which", none), "_law_which", "_law_which", defArgs (top 37), defBody (top 37), defScope (top 37), [], []⟩
def hfn : List He.DefD := [h__law_cell_at, h__law_mixed, h__law_draw, h__law_some_goods, h__law_pick, h__law_some_rule, h__law_some_shop, h__law_all_acts, h__law_some_of, h__law_some_case, h_is_integer, h_is_good, h_is_most, h_is_rule, h_stands, h_need_shop, h_rises, h_most_of, h_is_act, h_offers_stand, h_need_offers, h_is_bought, h_need_bought, h_cost_of, h_price_of, h__law_price, h_law, h_which]
def hfa : List He.Fa := ([.glo "_law_cell_at", .glo "_law_mixed", .glo "_law_draw", .glo "_law_some_goods", .glo "_law_pick", .glo "_law_some_rule", .glo "_law_some_shop", .glo "_law_all_acts", .glo "_law_some_of", .glo "_law_some_case", .glo "is_integer", .glo "is_good", .glo "is_most", .glo "is_rule", .glo "stands", .glo "need_shop"] : List He.Fa) ++ ([.glo "rises", .glo "most_of", .glo "is_act", .glo "offers_stand", .glo "need_offers", .glo "is_bought", .glo "need_bought", .glo "cost_of", .glo "price_of", .glo "_law_price", .glo "law", .free "len", .free "min", .free "max", .free "tuple", .free "list"] : List He.Fa) ++ ([.free "sum", .free "any", .free "all", .free "sorted", .free "int", .free "bool", .free "str", .free "isinstance", .free "range", .free "enumerate", .free "zip", .free "set", .glo "InvalidShop", .glo "InvalidBasket", .glo "InvalidActs", .glo "InvalidAct"] : List He.Fa) ++ ([.glo "InvalidOffers", .glo "InvalidKinds", .glo "InvalidNumber", .glo "Different", .glo "NoFault", .glo "NotThere", .glo "NothingToUndo", .glo "ParseError", .exc "InvalidShop", .exc "InvalidBasket", .exc "InvalidActs", .exc "InvalidAct", .exc "InvalidOffers", .exc "InvalidKinds", .exc "InvalidNumber", .exc "Different"] : List He.Fa) ++ ([.exc "NoFault", .exc "NotThere", .exc "NothingToUndo", .exc "ParseError", .glo "PriceError", .glo "_law_which", .free "ValueError"] : List He.Fa)
abbrev Rw : PySem.W.OpenRow := PySem.W.OpenLaw.row PySem.Challenge.rw_sureprices_k18_whole_prices
abbrev hk : PySem.W.Hook := hookY 4 hfa hfn exB
def ob (s : PySem.W.SharedT) : He.AlD × Bool := obsY 4 hfa hfn exB (HandSHeadRun.getT s)
theorem ob_eq (s : PySem.W.SharedT) : ob s = hk.obs s.abs := obsY_eq (HandSHeadRun.getT_eq s)
def loose : List Str := (["PriceError", "InvalidShop", "InvalidBasket", "InvalidActs", "InvalidAct", "InvalidOffers", "InvalidKinds", "InvalidNumber", "Different", "NoFault", "NotThere", "NothingToUndo", "ParseError", "is_integer", "rises", "is_good"] : List Str) ++ (["is_most", "is_rule", "stands", "need_shop", "most_of", "is_act", "offers_stand", "need_offers", "is_bought", "need_bought", "cost_of", "price_of", "_law_cell_at", "_law_mixed", "_law_draw", "_law_some_of"] : List Str) ++ (["_law_which", "_law_all_acts", "_law_pick", "_law_some_rule", "_law_some_goods", "_law_some_shop", "_law_some_case", "_law_price"] : List Str)
theorem run (w : World) : HandSHeadRun.RunEq Rw (PySem.W.view Rw.prog [45]) hk ob 9000 loose w := by
  intro os
  kernel_rfl
theorem T_nd : (T.map (·.name)).Nodup := by decide +kernel
theorem T_ok : ∀ d ∈ T, d.kd ≤ 1 → d.Ok := by
  intro d hd hk
  simp only [T, List.mem_cons, List.not_mem_nil, or_false] at hd
  rcases hd with rfl | rfl | rfl | rfl | rfl | rfl | rfl | rfl | rfl | rfl | rfl | rfl | rfl | rfl | rfl | rfl | rfl | rfl | rfl | rfl | rfl | rfl | rfl | rfl | rfl | rfl | rfl
  · exact ok__law_cell_at
  · exact ok__law_mixed
  · exact ok__law_draw
  · exact ok__law_some_goods
  · exact ok__law_pick
  · exact ok__law_some_rule
  · exact ok__law_some_shop
  · exact ok__law_all_acts
  · exact ok__law_some_of
  · exact ok__law_some_case
  · exact ok_is_integer
  · exact ok_is_good
  · exact ok_is_most
  · exact ok_is_rule
  · exact ok_stands
  · exact ok_need_shop
  · exact ok_rises
  · exact ok_most_of
  · exact ok_is_act
  · exact ok_offers_stand
  · exact ok_need_offers
  · exact ok_is_bought
  · exact ok_need_bought
  · exact ok_cost_of
  · exact ok_price_of
  · exact ok__law_price
  · exact ok_law
theorem T_fs : ∀ d ∈ T, ∀ f io, d.cf.fs.lookup f = some io → ∃ e ∈ T, e.name = f ∧ e.kd = 0 := by
  have h : T.all (fun d => d.cf.fs.all fun p => T.any fun e => e.name == p.1 && e.kd == 0) = true := by decide +kernel
  intro d hd f io hf
  have h1 := List.all_eq_true.mp (List.all_eq_true.mp h d hd) (f, io) (PySem.mem_of_lookup hf)
  obtain ⟨e, he, h2⟩ := List.any_eq_true.mp h1
  exact ⟨e, he, by simpa using h2⟩
theorem T_ms : ∀ d ∈ T, ∀ m c, d.cf.ms.lookup m = some c → ∃ e ∈ T, e.name = methN c m ∧ e.kd = 1 ∧ e.dn = m ∧ e.cl = c := by
  have h : T.all (fun d => d.cf.ms.all fun p => T.any fun e => e.name == methN p.2 p.1 && (e.kd == 1 && (e.dn == p.1 && e.cl == p.2))) = true := by decide +kernel
  intro d hd m c hf
  have h1 := List.all_eq_true.mp (List.all_eq_true.mp h d hd) (m, c) (PySem.mem_of_lookup hf)
  obtain ⟨e, he, h2⟩ := List.any_eq_true.mp h1
  exact ⟨e, he, by simpa using h2⟩
theorem facts {P : Program} {w : World} {K : PySem.W.Frag} {h base : Heap} {mg : Str → Option Value} (X2 : K.In h) (G : h.Ns mainGlobals mg) (c : He.SaysD hfa hfn K) (ce : exB K = true) : Facts P w K mg base (He.ga K) T := by
  refine ⟨fun d hd hk => ?_, fun t ht => ?_, fun d hd x w hx => ?_, fun d hd c2 hc => ?_, fun d hd f c2 hf => ?_, fun d hd m c2 hm => ?_, fun _ => rfl, fun d hd hx => ?_⟩
  · simp only [T, List.mem_cons, List.not_mem_nil, or_false] at hd
    rcases hd with rfl | rfl | rfl | rfl | rfl | rfl | rfl | rfl | rfl | rfl | rfl | rfl | rfl | rfl | rfl | rfl | rfl | rfl | rfl | rfl | rfl | rfl | rfl | rfl | rfl | rfl | rfl
    · obtain ⟨fd, F⟩ := c.def_ 0 (d := h__law_cell_at) rfl
      exact ⟨_, fd, F, fun _ => He.glo_ok X2 G (c.fact 0 (f := .glo "_law_cell_at") rfl), fun z => absurd z (by decide +kernel), FunD.bindsN F fun _ _ _ _ _ _ us hl => match us, hl with | [_, _], _ => rfl⟩
    · obtain ⟨fd, F⟩ := c.def_ 1 (d := h__law_mixed) rfl
      exact ⟨_, fd, F, fun _ => He.glo_ok X2 G (c.fact 1 (f := .glo "_law_mixed") rfl), fun z => absurd z (by decide +kernel), FunD.bindsN F fun _ _ _ _ _ _ us hl => match us, hl with | [_, _, _], _ => rfl⟩
    · obtain ⟨fd, F⟩ := c.def_ 2 (d := h__law_draw) rfl
      exact ⟨_, fd, F, fun _ => He.glo_ok X2 G (c.fact 2 (f := .glo "_law_draw") rfl), fun z => absurd z (by decide +kernel), FunD.bindsN F fun _ _ _ _ _ _ us hl => match us, hl with | [_, _, _], _ => rfl⟩
    · obtain ⟨fd, F⟩ := c.def_ 3 (d := h__law_some_goods) rfl
      exact ⟨_, fd, F, fun _ => He.glo_ok X2 G (c.fact 3 (f := .glo "_law_some_goods") rfl), fun z => absurd z (by decide +kernel), FunD.bindsN F fun _ _ _ _ _ _ us hl => match us, hl with | [_, _], _ => rfl⟩
    · obtain ⟨fd, F⟩ := c.def_ 4 (d := h__law_pick) rfl
      exact ⟨_, fd, F, fun _ => He.glo_ok X2 G (c.fact 4 (f := .glo "_law_pick") rfl), fun z => absurd z (by decide +kernel), FunD.bindsN F fun _ _ _ _ _ _ us hl => match us, hl with | [_, _, _], _ => rfl⟩
    · obtain ⟨fd, F⟩ := c.def_ 5 (d := h__law_some_rule) rfl
      exact ⟨_, fd, F, fun _ => He.glo_ok X2 G (c.fact 5 (f := .glo "_law_some_rule") rfl), fun z => absurd z (by decide +kernel), FunD.bindsN F fun _ _ _ _ _ _ us hl => match us, hl with | [_, _, _, _], _ => rfl⟩
    · obtain ⟨fd, F⟩ := c.def_ 6 (d := h__law_some_shop) rfl
      exact ⟨_, fd, F, fun _ => He.glo_ok X2 G (c.fact 6 (f := .glo "_law_some_shop") rfl), fun z => absurd z (by decide +kernel), FunD.bindsN F fun _ _ _ _ _ _ us hl => match us, hl with | [_, _], _ => rfl⟩
    · obtain ⟨fd, F⟩ := c.def_ 7 (d := h__law_all_acts) rfl
      exact ⟨_, fd, F, fun _ => He.glo_ok X2 G (c.fact 7 (f := .glo "_law_all_acts") rfl), fun z => absurd z (by decide +kernel), FunD.bindsN F fun _ _ _ _ _ _ us hl => match us, hl with | [_], _ => rfl⟩
    · obtain ⟨fd, F⟩ := c.def_ 8 (d := h__law_some_of) rfl
      exact ⟨_, fd, F, fun _ => He.glo_ok X2 G (c.fact 8 (f := .glo "_law_some_of") rfl), fun z => absurd z (by decide +kernel), FunD.bindsN F fun _ _ _ _ _ _ us hl => match us, hl with | [_, _, _, _], _ => rfl⟩
    · obtain ⟨fd, F⟩ := c.def_ 9 (d := h__law_some_case) rfl
      exact ⟨_, fd, F, fun _ => He.glo_ok X2 G (c.fact 9 (f := .glo "_law_some_case") rfl), fun z => absurd z (by decide +kernel), FunD.bindsN F fun _ _ _ _ _ _ us hl => match us, hl with | [_, _, _], _ => rfl⟩
    · obtain ⟨fd, F⟩ := c.def_ 10 (d := h_is_integer) rfl
      exact ⟨_, fd, F, fun _ => He.glo_ok X2 G (c.fact 10 (f := .glo "is_integer") rfl), fun z => absurd z (by decide +kernel), FunD.bindsN F fun _ _ _ _ _ _ us hl => match us, hl with | [_, _, _], _ => rfl⟩
    · obtain ⟨fd, F⟩ := c.def_ 11 (d := h_is_good) rfl
      exact ⟨_, fd, F, fun _ => He.glo_ok X2 G (c.fact 11 (f := .glo "is_good") rfl), fun z => absurd z (by decide +kernel), FunD.bindsN F fun _ _ _ _ _ _ us hl => match us, hl with | [_], _ => rfl⟩
    · obtain ⟨fd, F⟩ := c.def_ 12 (d := h_is_most) rfl
      exact ⟨_, fd, F, fun _ => He.glo_ok X2 G (c.fact 12 (f := .glo "is_most") rfl), fun z => absurd z (by decide +kernel), FunD.bindsN F fun _ _ _ _ _ _ us hl => match us, hl with | [_], _ => rfl⟩
    · obtain ⟨fd, F⟩ := c.def_ 13 (d := h_is_rule) rfl
      exact ⟨_, fd, F, fun _ => He.glo_ok X2 G (c.fact 13 (f := .glo "is_rule") rfl), fun z => absurd z (by decide +kernel), FunD.bindsN F fun _ _ _ _ _ _ us hl => match us, hl with | [_, _], _ => rfl⟩
    · obtain ⟨fd, F⟩ := c.def_ 14 (d := h_stands) rfl
      exact ⟨_, fd, F, fun _ => He.glo_ok X2 G (c.fact 14 (f := .glo "stands") rfl), fun z => absurd z (by decide +kernel), FunD.bindsN F fun _ _ _ _ _ _ us hl => match us, hl with | [_], _ => rfl⟩
    · obtain ⟨fd, F⟩ := c.def_ 15 (d := h_need_shop) rfl
      exact ⟨_, fd, F, fun _ => He.glo_ok X2 G (c.fact 15 (f := .glo "need_shop") rfl), fun z => absurd z (by decide +kernel), FunD.bindsN F fun _ _ _ _ _ _ us hl => match us, hl with | [_], _ => rfl⟩
    · obtain ⟨fd, F⟩ := c.def_ 16 (d := h_rises) rfl
      exact ⟨_, fd, F, fun _ => He.glo_ok X2 G (c.fact 16 (f := .glo "rises") rfl), fun z => absurd z (by decide +kernel), FunD.bindsN F fun _ _ _ _ _ _ us hl => match us, hl with | [_], _ => rfl⟩
    · obtain ⟨fd, F⟩ := c.def_ 17 (d := h_most_of) rfl
      exact ⟨_, fd, F, fun _ => He.glo_ok X2 G (c.fact 17 (f := .glo "most_of") rfl), fun z => absurd z (by decide +kernel), FunD.bindsN F fun _ _ _ _ _ _ us hl => match us, hl with | [_], _ => rfl⟩
    · obtain ⟨fd, F⟩ := c.def_ 18 (d := h_is_act) rfl
      exact ⟨_, fd, F, fun _ => He.glo_ok X2 G (c.fact 18 (f := .glo "is_act") rfl), fun z => absurd z (by decide +kernel), FunD.bindsN F fun _ _ _ _ _ _ us hl => match us, hl with | [_, _], _ => rfl⟩
    · obtain ⟨fd, F⟩ := c.def_ 19 (d := h_offers_stand) rfl
      exact ⟨_, fd, F, fun _ => He.glo_ok X2 G (c.fact 19 (f := .glo "offers_stand") rfl), fun z => absurd z (by decide +kernel), FunD.bindsN F fun _ _ _ _ _ _ us hl => match us, hl with | [_, _], _ => rfl⟩
    · obtain ⟨fd, F⟩ := c.def_ 20 (d := h_need_offers) rfl
      exact ⟨_, fd, F, fun _ => He.glo_ok X2 G (c.fact 20 (f := .glo "need_offers") rfl), fun z => absurd z (by decide +kernel), FunD.bindsN F fun _ _ _ _ _ _ us hl => match us, hl with | [_, _], _ => rfl⟩
    · obtain ⟨fd, F⟩ := c.def_ 21 (d := h_is_bought) rfl
      exact ⟨_, fd, F, fun _ => He.glo_ok X2 G (c.fact 21 (f := .glo "is_bought") rfl), fun z => absurd z (by decide +kernel), FunD.bindsN F fun _ _ _ _ _ _ us hl => match us, hl with | [_, _], _ => rfl⟩
    · obtain ⟨fd, F⟩ := c.def_ 22 (d := h_need_bought) rfl
      exact ⟨_, fd, F, fun _ => He.glo_ok X2 G (c.fact 22 (f := .glo "need_bought") rfl), fun z => absurd z (by decide +kernel), FunD.bindsN F fun _ _ _ _ _ _ us hl => match us, hl with | [_, _], _ => rfl⟩
    · obtain ⟨fd, F⟩ := c.def_ 23 (d := h_cost_of) rfl
      exact ⟨_, fd, F, fun _ => He.glo_ok X2 G (c.fact 23 (f := .glo "cost_of") rfl), fun z => absurd z (by decide +kernel), FunD.bindsN F fun _ _ _ _ _ _ us hl => match us, hl with | [_, _], _ => rfl⟩
    · obtain ⟨fd, F⟩ := c.def_ 24 (d := h_price_of) rfl
      exact ⟨_, fd, F, fun _ => He.glo_ok X2 G (c.fact 24 (f := .glo "price_of") rfl), fun z => absurd z (by decide +kernel), FunD.bindsN F fun _ _ _ _ _ _ us hl => match us, hl with | [_, _, _], _ => rfl⟩
    · obtain ⟨fd, F⟩ := c.def_ 25 (d := h__law_price) rfl
      exact ⟨_, fd, F, fun _ => He.glo_ok X2 G (c.fact 25 (f := .glo "_law_price") rfl), fun z => absurd z (by decide +kernel), FunD.bindsN F fun _ _ _ _ _ _ us hl => match us, hl with | [_, _, _], _ => rfl⟩
    · obtain ⟨fd, F⟩ := c.def_ 26 (d := h_law) rfl
      exact ⟨_, fd, F, fun _ => He.glo_ok X2 G (c.fact 26 (f := .glo "law") rfl), fun z => absurd z (by decide +kernel), FunD.bindsN F fun _ _ _ _ _ _ us hl => match us, hl with | [_], _ => rfl⟩
  · simp only [freeNames, bltNames, typNames, List.cons_append, List.nil_append, List.mem_cons, List.not_mem_nil, or_false] at ht
    rcases ht with rfl | rfl | rfl | rfl | rfl | rfl | rfl | rfl | rfl | rfl | rfl | rfl | rfl | rfl | rfl | rfl | rfl | rfl | rfl
    · exact He.free_ok X2 G (c.fact 27 (f := .free "len") rfl)
    · exact He.free_ok X2 G (c.fact 28 (f := .free "min") rfl)
    · exact He.free_ok X2 G (c.fact 29 (f := .free "max") rfl)
    · exact He.free_ok X2 G (c.fact 30 (f := .free "tuple") rfl)
    · exact He.free_ok X2 G (c.fact 31 (f := .free "list") rfl)
    · exact He.free_ok X2 G (c.fact 32 (f := .free "sum") rfl)
    · exact He.free_ok X2 G (c.fact 33 (f := .free "any") rfl)
    · exact He.free_ok X2 G (c.fact 34 (f := .free "all") rfl)
    · exact He.free_ok X2 G (c.fact 35 (f := .free "sorted") rfl)
    · exact He.free_ok X2 G (c.fact 36 (f := .free "int") rfl)
    · exact He.free_ok X2 G (c.fact 37 (f := .free "bool") rfl)
    · exact He.free_ok X2 G (c.fact 38 (f := .free "str") rfl)
    · exact He.free_ok X2 G (c.fact 30 (f := .free "tuple") rfl)
    · exact He.free_ok X2 G (c.fact 31 (f := .free "list") rfl)
    · exact He.free_ok X2 G (c.fact 39 (f := .free "isinstance") rfl)
    · exact He.free_ok X2 G (c.fact 40 (f := .free "range") rfl)
    · exact He.free_ok X2 G (c.fact 41 (f := .free "enumerate") rfl)
    · exact He.free_ok X2 G (c.fact 42 (f := .free "zip") rfl)
    · exact He.free_ok X2 G (c.fact 43 (f := .free "set") rfl)
  · simp only [T, List.mem_cons, List.not_mem_nil, or_false] at hd
    rcases hd with rfl | rfl | rfl | rfl | rfl | rfl | rfl | rfl | rfl | rfl | rfl | rfl | rfl | rfl | rfl | rfl | rfl | rfl | rfl | rfl | rfl | rfl | rfl | rfl | rfl | rfl | rfl
    · cases hx
    · cases hx
    · cases hx
    · cases hx
    · cases hx
    · cases hx
    · cases hx
    · cases hx
    · cases hx
    · cases hx
    · cases hx
    · cases hx
    · cases hx
    · cases hx
    · cases hx
    · cases hx
    · cases hx
    · cases hx
    · cases hx
    · cases hx
    · cases hx
    · cases hx
    · cases hx
    · cases hx
    · cases hx
    · cases hx
    · cases hx
  · have q : T.all (fun d => d.cf.xs.all fun c => (["InvalidShop", "InvalidBasket", "InvalidActs", "InvalidAct", "InvalidOffers", "InvalidKinds", "InvalidNumber", "Different", "NoFault", "NotThere", "NothingToUndo", "ParseError"] : List Str).contains c || !exNames.contains c) = true := by decide +kernel
    have := List.all_eq_true.mp (List.all_eq_true.mp q d hd) c2 hc
    intro he X e1 e2 e3 e4 e5 hg
    have he2 : exNames.contains c2 = true := by simpa using he
    rw [he2, Bool.not_true, Bool.or_false] at this
    simp only [List.contains_cons, List.contains_nil, Bool.or_eq_true, beq_iff_eq, Bool.or_false] at this
    rcases this with rfl | rfl | rfl | rfl | rfl | rfl | rfl | rfl | rfl | rfl | rfl | rfl
    · exact rai_of e3 e4 (He.exc_ok (c.fact 56 (f := .exc "InvalidShop") rfl)) (He.glo_ok X2 G (c.fact 44 (f := .glo "InvalidShop") rfl)) hg (by decide)
    · exact rai_of e3 e4 (He.exc_ok (c.fact 57 (f := .exc "InvalidBasket") rfl)) (He.glo_ok X2 G (c.fact 45 (f := .glo "InvalidBasket") rfl)) hg (by decide)
    · exact rai_of e3 e4 (He.exc_ok (c.fact 58 (f := .exc "InvalidActs") rfl)) (He.glo_ok X2 G (c.fact 46 (f := .glo "InvalidActs") rfl)) hg (by decide)
    · exact rai_of e3 e4 (He.exc_ok (c.fact 59 (f := .exc "InvalidAct") rfl)) (He.glo_ok X2 G (c.fact 47 (f := .glo "InvalidAct") rfl)) hg (by decide)
    · exact rai_of e3 e4 (He.exc_ok (c.fact 60 (f := .exc "InvalidOffers") rfl)) (He.glo_ok X2 G (c.fact 48 (f := .glo "InvalidOffers") rfl)) hg (by decide)
    · exact rai_of e3 e4 (He.exc_ok (c.fact 61 (f := .exc "InvalidKinds") rfl)) (He.glo_ok X2 G (c.fact 49 (f := .glo "InvalidKinds") rfl)) hg (by decide)
    · exact rai_of e3 e4 (He.exc_ok (c.fact 62 (f := .exc "InvalidNumber") rfl)) (He.glo_ok X2 G (c.fact 50 (f := .glo "InvalidNumber") rfl)) hg (by decide)
    · exact rai_of e3 e4 (He.exc_ok (c.fact 63 (f := .exc "Different") rfl)) (He.glo_ok X2 G (c.fact 51 (f := .glo "Different") rfl)) hg (by decide)
    · exact rai_of e3 e4 (He.exc_ok (c.fact 64 (f := .exc "NoFault") rfl)) (He.glo_ok X2 G (c.fact 52 (f := .glo "NoFault") rfl)) hg (by decide)
    · exact rai_of e3 e4 (He.exc_ok (c.fact 65 (f := .exc "NotThere") rfl)) (He.glo_ok X2 G (c.fact 53 (f := .glo "NotThere") rfl)) hg (by decide)
    · exact rai_of e3 e4 (He.exc_ok (c.fact 66 (f := .exc "NothingToUndo") rfl)) (He.glo_ok X2 G (c.fact 54 (f := .glo "NothingToUndo") rfl)) hg (by decide)
    · exact rai_of e3 e4 (He.exc_ok (c.fact 67 (f := .exc "ParseError") rfl)) (He.glo_ok X2 G (c.fact 55 (f := .glo "ParseError") rfl)) hg (by decide)
  · have q : T.all (fun d => d.cf.aa.isEmpty) = true := by decide +kernel
    have := List.all_eq_true.mp q d hd
    rw [List.isEmpty_iff.mp this] at hf
    cases hf
  · have q : T.all (fun d => d.cf.ms.isEmpty) = true := by decide +kernel
    have := List.all_eq_true.mp q d hd
    rw [List.isEmpty_iff.mp this] at hm
    cases hm
  · obtain ⟨fd, F⟩ := c.def_ 27 (d := h_which) rfl
    refine ⟨_, fd, _, _, _, F, He.glo_ok X2 G (c.fact 69 (f := .glo "_law_which") rfl), FunD.bindsN F fun _ _ _ _ _ _ us hl => match us, hl with | [_], _ => rfl, by decide +kernel, by decide +kernel, ⟨fun c2 hc => ?_, He.glo_ok X2 G (c.fact 68 (f := .glo "PriceError") rfl), ce⟩, He.free_ok X2 G (c.fact 39 (f := .free "isinstance") rfl), He.free_ok X2 G (c.fact 70 (f := .free "ValueError") rfl)⟩
    simp only [exNames, List.mem_cons, List.not_mem_nil, or_false] at hc
    rcases hc with rfl | rfl | rfl | rfl | rfl | rfl | rfl | rfl | rfl | rfl | rfl | rfl
    · exact He.glo_ok X2 G (c.fact 44 (f := .glo "InvalidShop") rfl)
    · exact He.glo_ok X2 G (c.fact 45 (f := .glo "InvalidBasket") rfl)
    · exact He.glo_ok X2 G (c.fact 46 (f := .glo "InvalidActs") rfl)
    · exact He.glo_ok X2 G (c.fact 47 (f := .glo "InvalidAct") rfl)
    · exact He.glo_ok X2 G (c.fact 48 (f := .glo "InvalidOffers") rfl)
    · exact He.glo_ok X2 G (c.fact 49 (f := .glo "InvalidKinds") rfl)
    · exact He.glo_ok X2 G (c.fact 50 (f := .glo "InvalidNumber") rfl)
    · exact He.glo_ok X2 G (c.fact 51 (f := .glo "Different") rfl)
    · exact He.glo_ok X2 G (c.fact 52 (f := .glo "NoFault") rfl)
    · exact He.glo_ok X2 G (c.fact 53 (f := .glo "NotThere") rfl)
    · exact He.glo_ok X2 G (c.fact 54 (f := .glo "NothingToUndo") rfl)
    · exact He.glo_ok X2 G (c.fact 55 (f := .glo "ParseError") rfl)
theorem inis {P : Program} {w : World} {K : PySem.W.Frag} {h base : Heap} {mg : Str → Option Value} (X : K.In h) (G : h.Ns mainGlobals mg) (c : He.SaysD hfa hfn K) (F : Facts P w K mg base (He.ga K) T) : ∀ d ∈ T, ∀ c, d.cf.cs.contains c = true → Ini P w K mg base (He.ga K) T 100000 c := by
  intro d hd k hk
  have q : T.all (fun d => d.cf.cs.isEmpty) = true := by decide +kernel
  have := List.all_eq_true.mp q d hd
  rw [List.isEmpty_iff.mp this] at hk
  cases hk
theorem endOf (law : ∀ ns : List Int, ns.length ≤ 63 → ∃ outs, callN (tab T) 100000 60 "law" [.val (.list (ns.map .int))] = .ok (.s (.val (.bool true))) outs) : PySem.Challenge.rw_sureprices_k18_whole_prices.Holds := by
  w_on; o_law
  refine HandSHeadRun.head_any (r := PySem.W.OpenLaw.row PySem.Challenge.rw_sureprices_k18_whole_prices) (q := PySem.W.view (PySem.W.OpenLaw.row PySem.Challenge.rw_sureprices_k18_whole_prices).prog [45]) (H := hk) (ob := ob) (M := 9000) (loose := loose) (d := HandSHeadRun.topDef (PySem.W.OpenLaw.row PySem.Challenge.rw_sureprices_k18_whole_prices).prog 45) (kwd := []) ob_eq
    (by kernel_rfl) (fun s => by kernel_rfl) run (by kernel_rfl) (by kernel_rfl) (by kernel_rfl) (by rfl) (by first | assumption | decide +kernel) (by decide +kernel) ⟨rfl, rfl, rfl, rfl, rfl, by decide +kernel⟩ ?hw ?hc
  case hw => w_witness2
  case hc =>
    refine law_end (l := PySem.Challenge.rw_sureprices_k18_whole_prices) (n := 63) (T := T) (dl := D_law) (x := "script") (wf := 100000) (lvl := 60) rfl (by decide) (by kernel_rfl) ⟨rfl, by decide, by decide⟩ (by simp [T]) rfl rfl T_nd T_ok T_fs T_ms ?F law
    intro w mg fa h Y G hmg0
    obtain ⟨K, KX, c, ce⟩ := Y
    have hmg : mg ("law" : PySem.Str) = some (.ref fa) := by
      have e : (HandSHeadRun.topDef (PySem.W.OpenLaw.row PySem.Challenge.rw_sureprices_k18_whole_prices).prog 45).name = ("law" : PySem.Str) := by kernel_rfl
      rw [← e]
      exact hmg0
    obtain ⟨fd, F⟩ := c.def_ 26 (d := h_law) rfl
    have e := hmg.symm.trans (He.glo_ok KX G (c.fact 26 (f := .glo "law") rfl))
    cases e
    have b := FunD.bindsA (ps := ["script"]) F fun _ _ _ _ _ _ us hl => match us, hl with | [_], _ => rfl
    exact ⟨K, He.ga K, fd, KX, fun s v => b s [v] rfl, F, fun base _ _ => ⟨facts KX G c ce, inis KX G c (facts KX G c ce)⟩⟩
end D
namespace D
open PySem L2
theorem tb__law_cell_at : tab T "_law_cell_at" = some F__law_cell_at := tab_of T_nd (d := D__law_cell_at) (List.mem_of_getElem? (i := 0) rfl)
theorem tb__law_mixed : tab T "_law_mixed" = some F__law_mixed := tab_of T_nd (d := D__law_mixed) (List.mem_of_getElem? (i := 1) rfl)
theorem tb__law_draw : tab T "_law_draw" = some F__law_draw := tab_of T_nd (d := D__law_draw) (List.mem_of_getElem? (i := 2) rfl)
theorem tb__law_some_goods : tab T "_law_some_goods" = some F__law_some_goods := tab_of T_nd (d := D__law_some_goods) (List.mem_of_getElem? (i := 3) rfl)
theorem tb__law_pick : tab T "_law_pick" = some F__law_pick := tab_of T_nd (d := D__law_pick) (List.mem_of_getElem? (i := 4) rfl)
theorem tb__law_some_rule : tab T "_law_some_rule" = some F__law_some_rule := tab_of T_nd (d := D__law_some_rule) (List.mem_of_getElem? (i := 5) rfl)
theorem tb__law_some_shop : tab T "_law_some_shop" = some F__law_some_shop := tab_of T_nd (d := D__law_some_shop) (List.mem_of_getElem? (i := 6) rfl)
theorem tb__law_all_acts : tab T "_law_all_acts" = some F__law_all_acts := tab_of T_nd (d := D__law_all_acts) (List.mem_of_getElem? (i := 7) rfl)
theorem tb__law_some_of : tab T "_law_some_of" = some F__law_some_of := tab_of T_nd (d := D__law_some_of) (List.mem_of_getElem? (i := 8) rfl)
theorem tb__law_some_case : tab T "_law_some_case" = some F__law_some_case := tab_of T_nd (d := D__law_some_case) (List.mem_of_getElem? (i := 9) rfl)
theorem tb_is_integer : tab T "is_integer" = some F_is_integer := tab_of T_nd (d := D_is_integer) (List.mem_of_getElem? (i := 10) rfl)
theorem tb_is_good : tab T "is_good" = some F_is_good := tab_of T_nd (d := D_is_good) (List.mem_of_getElem? (i := 11) rfl)
theorem tb_is_most : tab T "is_most" = some F_is_most := tab_of T_nd (d := D_is_most) (List.mem_of_getElem? (i := 12) rfl)
theorem tb_is_rule : tab T "is_rule" = some F_is_rule := tab_of T_nd (d := D_is_rule) (List.mem_of_getElem? (i := 13) rfl)
theorem tb_stands : tab T "stands" = some F_stands := tab_of T_nd (d := D_stands) (List.mem_of_getElem? (i := 14) rfl)
theorem tb_need_shop : tab T "need_shop" = some F_need_shop := tab_of T_nd (d := D_need_shop) (List.mem_of_getElem? (i := 15) rfl)
theorem tb_rises : tab T "rises" = some F_rises := tab_of T_nd (d := D_rises) (List.mem_of_getElem? (i := 16) rfl)
theorem tb_most_of : tab T "most_of" = some F_most_of := tab_of T_nd (d := D_most_of) (List.mem_of_getElem? (i := 17) rfl)
theorem tb_is_act : tab T "is_act" = some F_is_act := tab_of T_nd (d := D_is_act) (List.mem_of_getElem? (i := 18) rfl)
theorem tb_offers_stand : tab T "offers_stand" = some F_offers_stand := tab_of T_nd (d := D_offers_stand) (List.mem_of_getElem? (i := 19) rfl)
theorem tb_need_offers : tab T "need_offers" = some F_need_offers := tab_of T_nd (d := D_need_offers) (List.mem_of_getElem? (i := 20) rfl)
theorem tb_is_bought : tab T "is_bought" = some F_is_bought := tab_of T_nd (d := D_is_bought) (List.mem_of_getElem? (i := 21) rfl)
theorem tb_need_bought : tab T "need_bought" = some F_need_bought := tab_of T_nd (d := D_need_bought) (List.mem_of_getElem? (i := 22) rfl)
theorem tb_cost_of : tab T "cost_of" = some F_cost_of := tab_of T_nd (d := D_cost_of) (List.mem_of_getElem? (i := 23) rfl)
theorem tb_price_of : tab T "price_of" = some F_price_of := tab_of T_nd (d := D_price_of) (List.mem_of_getElem? (i := 24) rfl)
theorem tb__law_price : tab T "_law_price" = some F__law_price := tab_of T_nd (d := D__law_price) (List.mem_of_getElem? (i := 25) rfl)
theorem tb_law : tab T "law" = some F_law := tab_of T_nd (d := D_law) (List.mem_of_getElem? (i := 26) rfl)
def names : List Str := [("_law_cell_at" : Str), ("_law_mixed" : Str), ("_law_draw" : Str), ("_law_some_goods" : Str), ("_law_pick" : Str), ("_law_some_rule" : Str), ("_law_some_shop" : Str), ("_law_all_acts" : Str), ("_law_some_of" : Str), ("_law_some_case" : Str), ("is_integer" : Str), ("is_good" : Str), ("is_most" : Str), ("is_rule" : Str), ("stands" : Str), ("need_shop" : Str), ("rises" : Str), ("most_of" : Str), ("is_act" : Str), ("offers_stand" : Str), ("need_offers" : Str), ("is_bought" : Str), ("need_bought" : Str), ("cost_of" : Str), ("price_of" : Str), ("_law_price" : Str)]
theorem agree : ∀ f, names.contains f = true → tab T f = Δ0 f := by
  intro f hf
  have hf : f ∈ names := by simpa using hf
  simp only [names, List.mem_cons, List.not_mem_nil, or_false] at hf
  rcases hf with rfl | rfl | rfl | rfl | rfl | rfl | rfl | rfl | rfl | rfl | rfl | rfl | rfl | rfl | rfl | rfl | rfl | rfl | rfl | rfl | rfl | rfl | rfl | rfl | rfl | rfl
  · exact tb__law_cell_at.trans u__law_cell_at.symm
  · exact tb__law_mixed.trans u__law_mixed.symm
  · exact tb__law_draw.trans u__law_draw.symm
  · exact tb__law_some_goods.trans u__law_some_goods.symm
  · exact tb__law_pick.trans u__law_pick.symm
  · exact tb__law_some_rule.trans u__law_some_rule.symm
  · exact tb__law_some_shop.trans u__law_some_shop.symm
  · exact tb__law_all_acts.trans u__law_all_acts.symm
  · exact tb__law_some_of.trans u__law_some_of.symm
  · exact tb__law_some_case.trans u__law_some_case.symm
  · exact tb_is_integer.trans u_is_integer.symm
  · exact tb_is_good.trans u_is_good.symm
  · exact tb_is_most.trans u_is_most.symm
  · exact tb_is_rule.trans u_is_rule.symm
  · exact tb_stands.trans u_stands.symm
  · exact tb_need_shop.trans u_need_shop.symm
  · exact tb_rises.trans u_rises.symm
  · exact tb_most_of.trans u_most_of.symm
  · exact tb_is_act.trans u_is_act.symm
  · exact tb_offers_stand.trans u_offers_stand.symm
  · exact tb_need_offers.trans u_need_offers.symm
  · exact tb_is_bought.trans u_is_bought.symm
  · exact tb_need_bought.trans u_need_bought.symm
  · exact tb_cost_of.trans u_cost_of.symm
  · exact tb_price_of.trans u_price_of.symm
  · exact tb__law_price.trans u__law_price.symm
theorem closed : ∀ f fn, names.contains f = true → Δ0 f = some fn → inSs (fun g => names.contains g) fn.body = true := by
  have h : names.all (fun f => match ΔU f with | some fn => inSs (fun g => names.contains g) fn.body | none => true) = true := by decide +kernel
  intro f fn hf hd
  have := List.all_eq_true.mp h f (by simpa using hf)
  rw [Δ0_eq] at hd
  rw [hd] at this
  exact this
theorem lawEnv : LawEnv (tab T) 100000 := ⟨tb_law, fun n => cg_call agree closed n "_law_some_case" (by decide +kernel), fun n => cg_call agree closed n "_law_some_of" (by decide +kernel), fun n => cg_call agree closed n "_law_draw" (by decide +kernel), fun n => cg_call agree closed n "_law_price" (by decide +kernel), fun n => cg_call agree closed n "_law_all_acts" (by decide +kernel)⟩
end D
theorem PySem.Challenge.cw_sureprices_k18_whole_prices_holds : PySem.Challenge.rw_sureprices_k18_whole_prices.Holds :=
  D.endOf fun ns hn => D.c_law (wf := 100000) (n := 40) D.lawEnv hn (by decide)
