import PyProof.Rows.All
import HandS.ForMost
import HandS.ForExc
import HandS.Walk
import HandS.Defaults
import HandS.TupMul
import HandS.TupAny
import HandS.TupSets
import HandS.Wide
import HandS.WideBits
import HandS.Gcd
import HandS.IsInst
import HandS.Conv
import HandS.Zip
import KE.SortData
import KE.LtData
import KE.GoesEnum
import KE.GoesMore
import KE.GoesZip
import HandS.Style
import HandS.Ends
import HandS.Head0
import HandS.Head1
import HandS.Head2
import HandS.Head3
import HandS.HeadEnd
import HandS.HeadHook1
import HandS.HeadHook2
import PySem.Challenge.RW_stonespans_k81_whole_what_feet_bear
section
set_option Elab.async false
set_option linter.all false
set_option maxRecDepth 100000
/-! MP, first part: pure values, the store, the small language and what it denotes. -/
namespace MP
open PySem
/-- xs[lo:hi] -/
def cut {α : Type} (xs : List α) (lo hi : Option Int) : List α := (xs.drop (HT.sIx xs.length 0 lo)).take (HT.sIx xs.length xs.length hi - HT.sIx xs.length 0 lo)
open PySem

/-- a value: immutable ones are trees; a list (a dict) is a place of the store -/
inductive PV where
  | non | bl (b : Bool) | int (i : Int) | str (s : Str) | tup (xs : List PV) | ref (n : Nat)
instance : Inhabited PV := ⟨.non⟩
/-- what stands at a place: a list, a list that is never written (the script), a dict -/
inductive SO where
  | lst (xs : List PV) | fzl (xs : List PV) | dct (kvs : List (L2.Key × PV))
abbrev Sto := List SO
abbrev Sl := List (Option PV)

mutual
/-- all places in it are below k -/
def PV.lt (k : Nat) : PV → Bool
  | .tup xs => PV.ltA k xs
  | .ref n => decide (n < k)
  | .non => true | .bl _ => true | .int _ => true | .str _ => true
def PV.ltA (k : Nat) : List PV → Bool
  | [] => true
  | x :: xs => PV.lt k x && PV.ltA k xs
end
def SO.lt (k : Nat) : SO → Bool
  | .lst xs => PV.ltA k xs
  | .fzl xs => PV.ltA k xs
  | .dct kvs => PV.ltA k (kvs.map (·.2))

/-- behind a region that began at k: its places are given up, if the result can do without -/
def fin (k : Nat) (v : PV) (st : Sto) : PV × Sto :=
  match v with
  | .ref n => if n < k then (.ref n, st.take k) else
      match st[n]? with
      | some o => if o.lt k then (.ref k, st.take k ++ [o]) else (v, st)
      | none => (v, st)
  | v => if v.lt k then (v, st.take k) else (v, st)

/-- as the library's data -/
def toD (st : Sto) : Nat → PV → Option PyData
  | 0, _ => none
  | _ + 1, .non => some .none
  | _ + 1, .bl b => some (.bool b)
  | _ + 1, .int i => some (.int i)
  | _ + 1, .str s => some (.str s)
  | k + 1, .tup xs => (xs.mapM (toD st k)).map .tuple
  | k + 1, .ref n => match st[n]? with
    | some (.lst xs) => (xs.mapM (toD st k)).map .list
    | some (.fzl xs) => (xs.mapM (toD st k)).map .list
    | some (.dct []) => some (.dict [])
    | _ => none

/-! ### operators -/
inductive Op where | add | sub | mul | fdiv | mod | pow
deriving DecidableEq
inductive Cm where | eq | ne | lt | le | gt | ge | isN | notN
deriving DecidableEq
inductive Ty where | int | bool | str | tup
deriving DecidableEq
inductive Bl where | len | abs | max2 | int1 | divmod | list1 | tuple1 | repr | gcd | all1 | any1 | sset
deriving DecidableEq
/-- calls of a form of their own: list(range(j)), list(range(i, j)), list(zip(a, b)) -/
inductive Spc where | lrng1 | lrng2 | lzip
deriving DecidableEq

/-- the bound of a result's number of items -/
def most : Nat := 1000000
open Classical in
noncomputable def binop (o : Op) (x y : PV) (st : Sto) : Option (PV × Sto) :=
  match o, x, y with
  | .add, .int i, .int j => some (.int (i + j), st)
  | .sub, .int i, .int j => some (.int (i - j), st)
  | .mul, .int i, .int j => if L2.CMulW i j then some (.int (i * j), st) else none
  | .fdiv, .int i, .int j => if L2.CDivW i j then some (.int (i / j), st) else none
  | .mod, .int i, .int j => if j ≠ 0 then some (.int (i.fmod j), st) else none
  | .pow, .int i, .int j => if L2.CPow i j then some (.int (i ^ j.toNat), st) else none
  | .add, .tup xs, .tup ys => if xs.length ≤ most ∧ ys.length ≤ most then some (.tup (xs ++ ys), st) else none
  | .mul, .tup xs, .int k => if xs ≠ [] ∧ 1 ≤ k ∧ k ≤ 1000 ∧ xs.length ≤ 1000 then some (.tup (List.replicate k.toNat xs).flatten, st) else none
  | .add, .ref a, .ref b => match st[a]?, st[b]? with
    | some (.lst xs), some (.lst ys) => if xs.length ≤ most ∧ ys.length ≤ most then some (.ref st.length, st ++ [.lst (xs ++ ys)]) else none
    | _, _ => none
  | .mul, .ref a, .int k => match st[a]? with
    | some (.lst xs) => if xs.length * k.toNat ≤ most ∧ -1000000 ≤ k ∧ k ≤ 1000000 then some (.ref st.length, st ++ [.lst (List.replicate k.toNat xs).flatten]) else none
    | _ => none
  | _, _, _ => none

/-- < of tuples of ints, by the library's own order of such lists -/
def ints? : List PV → Option (List Int)
  | [] => some []
  | .int i :: r => (ints? r).map (i :: ·)
  | _ :: _ => none
def isNon : PV → Bool
  | .non => true
  | _ => false
/-- how deep data may be -/
def deep : Nat := 12
def cmpop (o : Cm) (x y : PV) (st : Sto) : Option Bool :=
  match o with
  | .eq => match x, y with
    | .str a, .str b => some (decide (a = b))
    | x, y => match toD st deep x, toD st deep y with
      | some d, some e => if SeqAt.shaped d && SeqAt.shaped e then some (PyData.eqv d e) else none
      | _, _ => none
  | .ne => match x, y with
    | .str a, .str b => some (!decide (a = b))
    | x, y => match toD st deep x, toD st deep y with
      | some d, some e => if SeqAt.shaped d && SeqAt.shaped e then some (!PyData.eqv d e) else none
      | _, _ => none
  | .isN => match y with | .non => some (isNon x) | _ => none
  | .notN => match y with | .non => some (!isNon x) | _ => none
  | .lt => match x, y with
    | .int i, .int j => some (decide (i < j))
    | .tup [], .tup (_ :: _) => some true
    | .tup xs, .tup ys => match ints? xs, ints? ys with
      | some ns, some ms => some (HT.lexLt ns ms)
      | _, _ => none
    | _, _ => none
  | .le => match x, y with | .int i, .int j => some (decide (i ≤ j)) | _, _ => none
  | .gt => match x, y with | .int i, .int j => some (decide (j < i)) | _, _ => none
  | .ge => match x, y with | .int i, .int j => some (decide (j ≤ i)) | _, _ => none

/-! ### the language -/
mutual
inductive CE where
  | var (i : Nat) | non | bl (b : Bool) | int (i : Int) | str (s : Str)
  | glb (g : Nat)
  | bin (o : Op) (a b : CE)
  | neg (a : CE) | not (a : CE) | and (a b : CE) | or (a b : CE)
  | cmp (o : Cm) (a b : CE) | chain (o o' : Cm) (a b c : CE)
  | ite (c a b : CE)
  | tup (as : CA) | lst (as : CA) | edict
  | idx (a b : CE) | sl (a : CE) (lo hi : CO)
  | call (j : Nat) (as : CA) | callk (j : Nat) (as : CA) (perm : List Nat)
  | blt (f : Bl) (as : CA) | spc (f : Spc) (as : CA)
  | isi (a : CE) (t : Ty)
  | lc (e : CE) (t : CT) (it : CI) (ifs : CA) (own : List Nat)
  | lc2 (e : CE) (t : CT) (it : CI) (ifs : CA) (t1 : CT) (it1 : CI) (ifs1 : CA) (own : List Nat)
  | gc (e : CE)
inductive CA where
  | nil | cons (e : CE) (r : CA)
inductive CO where
  | no | yes (e : CE)
inductive CI where
  | seq (e : CE) | rng1 (a : CE) | rng2 (a b : CE) | enum (a : CE) | zip (a b : CE)
inductive CT where
  | name (i : Nat) | tup (ts : CTs) | sub (o i : CE)
inductive CTs where
  | nil | cons (t : CT) (r : CTs)
end
mutual
inductive CS where
  | asg (t : CT) (e : CE) | par (is : List Nat) (as : CA)
  | ret (e : CE) | retN | expr (e : CE)
  | app (o e : CE) | ext (o e : CE)
  | ite (c : CE) (a b : CB)
  | loop (t : CT) (it : CI) (body : CB)
  | whl (c : CE) (body : CB)
  | pass | brk | cnt | nev
inductive CB where
  | nil | cons (s : CS) (r : CB)
end
mutual
/-- the slots that a target fills -/
def CT.slots : CT → List Nat
  | .name i => [i]
  | .tup ts => CTs.slots ts
  | .sub _ _ => []
def CTs.slots : CTs → List Nat
  | .nil => []
  | .cons t r => CT.slots t ++ CTs.slots r
end
/-- how a statement ends -/
inductive Fl where
  | nx (σ : Sl) (st : Sto) | rt (v : PV) (st : Sto) | bk (σ : Sl) (st : Sto) | ct (σ : Sl) (st : Sto)

/-! ### what built-ins do -/
def wipeS (σ : Sl) : List Nat → Sl
  | [] => σ
  | v :: vs => (wipeS σ vs).set v none
/-- the items of what is walked: values, the places that must stay as they are -/
def items (v : PV) (st : Sto) : Option (List PV × List (Nat × SO)) :=
  match v with
  | .tup xs => some (xs, [])
  | .ref n => match st[n]? with
    | some (.lst xs) => some (xs, [(n, .lst xs)])
    | some (.fzl xs) => some (xs, [(n, .fzl xs)])
    | _ => none
  | _ => none
def isTupV : PV → Bool
  | .tup _ => true
  | _ => false
/-- the items of a list or tuple -/
def seqOf (v : PV) (st : Sto) : Option (List PV) := (items v st).map (·.1)
/-- the items of a list alone -/
def lstOf (v : PV) (st : Sto) : Option (List PV) :=
  match v with
  | .ref n => match st[n]? with
    | some (.lst xs) => some xs
    | _ => none
  | _ => none
def slOp (p : PV) (lo hi : Option Int) (st : Sto) : Option (PV × Sto) :=
  match p with
  | .tup xs => some (.tup (cut xs lo hi), st)
  | .ref n => match st[n]? with
    | some (.lst xs) => some (.ref st.length, st ++ [.lst (cut xs lo hi)])
    | _ => none
  | _ => none
def numbered (k : Nat) : List PV → List PV
  | [] => []
  | x :: xs => .tup [.int (k : Nat), x] :: numbered (k + 1) xs
def paired : List PV → List PV → List PV
  | x :: xs, y :: ys => .tup [x, y] :: paired xs ys
  | _, _ => []
def counted (lo : Int) : Nat → List PV
  | 0 => []
  | n + 1 => .int lo :: counted (lo + 1) n
def Watch (w : List (Nat × SO)) (st : Sto) : Prop := ∀ p ∈ w, st[p.1]? = some p.2
def bools? : List PV → Option (List Bool)
  | [] => some []
  | .bl b :: r => (bools? r).map (b :: ·)
  | _ :: _ => none
def sizeOk (d : PyData) : Bool := d.showable && decide (d.shown.length ≤ sizeLine) && decide (d.depth ≤ 20)
/-- rows of ints, sorted by their code to the base B, each once -/
def rows? : List PV → Option (List (List Int))
  | [] => some []
  | .tup ps :: r => (ints? ps).bind fun ns => (rows? r).bind fun rs => some (ns :: rs)
  | _ :: _ => none
def insC (B : Int) (x : List Int) : List (List Int) → List (List Int)
  | [] => [x]
  | y :: ys => if TS.code B x < TS.code B y then x :: y :: ys else if TS.code B x = TS.code B y then y :: ys else y :: insC B x ys
def sortC (B : Int) (rs : List (List Int)) : List (List Int) := rs.foldr (insC B) []
def setB : Int := 100000
open Classical in
noncomputable def blt (f : Bl) (vs : List PV) (st : Sto) : Option (PV × Sto) :=
  match f, vs with
  | .len, [v] => (seqOf v st).bind fun xs => some (.int xs.length, st)
  | .abs, [.int i] => some (.int (if i < 0 then -i else i), st)
  | .max2, [.int i, .int j] => some (.int (if j > i then j else i), st)
  | .int1, [.int i] => some (.int i, st)
  | .divmod, [.int i, .int j] => if L2.CDivW i j then some (.tup [.int (i / j), .int (i % j)], st) else none
  | .list1, [v] => (seqOf v st).bind fun xs => some (.ref st.length, st ++ [.lst xs])
  | .tuple1, [v] => (seqOf v st).bind fun xs => some (.tup xs, st)
  | .repr, [v] => match toD st deep v with
    | some d => if sizeOk d then some (.str d.shown, st) else none
    | none => none
  | .gcd, [.int i, .int j] => some (.int (Int.gcd i j), st)
  | .all1, [v] => ((lstOf v st).bind bools?).bind fun bs => some (.bl (bs.all id), st)
  | .sset, [v] => (lstOf v st).bind fun xs => (rows? xs).bind fun rs =>
      if rs.length < 64 ∧ ∀ r ∈ rs, r.length = 3 ∧ TS.Bd setB r then some (.ref st.length, st ++ [.lst ((sortC setB rs).map fun ns => .tup (ns.map .int))]) else none
  | .any1, [v] => ((lstOf v st).bind bools?).bind fun bs => some (.bl (bs.any id), st)
  | _, _ => none
open Classical in
noncomputable def spc (f : Spc) (vs : List PV) (st : Sto) : Option (PV × Sto) :=
  match f, vs with
  | .lrng1, [.int j] => if -(most : Int) ≤ j ∧ j ≤ most then some (.ref st.length, st ++ [.lst (counted 0 j.toNat)]) else none
  | .lrng2, [.int i, .int j] => if -(most : Int) ≤ i ∧ i ≤ most ∧ -(most : Int) ≤ j ∧ j ≤ most then some (.ref st.length, st ++ [.lst (counted i (j - i).toNat)]) else none
  | .lzip, [a, b] => (lstOf a st).bind fun xs => (lstOf b st).bind fun ys => some (.ref st.length, st ++ [.lst (paired xs ys)])
  | _, _ => none
def isi (v : PV) (t : Ty) (st : Sto) : Option Bool :=
  match v with
  | .non => some false
  | .bl _ => some (t == .int || t == .bool)
  | .int _ => some (t == .int)
  | .str _ => some (t == .str)
  | .tup _ => some (t == .tup)
  | .ref n => match st[n]? with
    | some _ => some false
    | none => none

/-! ### loops -/
open Classical in
noncomputable def forL (w : List (Nat × SO)) (step : PV → Sl → Sto → Option Fl) : List PV → Sl → Sto → Option Fl
  | [], σ, st => some (.nx σ st)
  | x :: xs, σ, st => (step x σ st).bind fun f => match f with
    | .nx σ' st' => if Watch w st' then forL w step xs σ' st' else none
    | .ct σ' st' => if Watch w st' then forL w step xs σ' st' else none
    | .bk σ' st' => some (.nx σ' st')
    | .rt v st' => some (.rt v st')
/-- a comprehension's loop: the new list stands at n -/
noncomputable def lcL (w : List (Nat × SO)) (step : PV → Sto → Option Sto) : List PV → Sto → Option Sto
  | [], st => some st
  | x :: xs, st => (step x st).bind fun st' => open Classical in if Watch w st' then lcL w step xs st' else none
def push (n : Nat) (v : PV) (st : Sto) : Option Sto :=
  match st[n]? with
  | some (.lst xs) => if xs.length < most then some (st.set n (.lst (xs ++ [v]))) else none
  | _ => none
/-- a while: so many turns -/
def whileN (test : Sl → Sto → Option (Bool × Sto)) (body : Sl → Sto → Option Fl) : Nat → Sl → Sto → Option Fl
  | 0, _, _ => none
  | k + 1, σ, st => (test σ st).bind fun p => if p.1 then (body σ p.2).bind fun f => match f with
      | .nx σ' st' => whileN test body k σ' st'
      | .ct σ' st' => whileN test body k σ' st'
      | .bk σ' st' => some (.nx σ' st')
      | .rt v st' => some (.rt v st')
    else some (.nx σ p.2)
open Classical in
noncomputable def whileD (test : Sl → Sto → Option (Bool × Sto)) (body : Sl → Sto → Option Fl) (σ : Sl) (st : Sto) : Option Fl :=
  if h : ∃ k f, whileN test body k σ st = some f then h.choose_spec.choose else none
/-- may v be written into the place n, in a region that began at b? -/
def mayPut (b n : Nat) (v : PV) : Bool := decide (b ≤ n) || v.lt 0

/-! ### the denotation -/
abbrev Tab := Nat → List PV → Sto → Option (PV × Sto)
def boolOf : PV → Option Bool
  | .bl b => some b
  | _ => none
def intOf : PV → Option Int
  | .int i => some i
  | _ => none
section
variable (Γ : Tab) (G : Nat → Option PV)
mutual
noncomputable def den : CE → Nat → Sl → Sto → Option (PV × Sto)
  | .var i, _, σ, st => match σ[i]? with
    | some (some v) => some (v, st)
    | _ => none
  | .non, _, _, st => some (.non, st)
  | .bl b, _, _, st => some (.bl b, st)
  | .int i, _, _, st => some (.int i, st)
  | .str s, _, _, st => some (.str s, st)
  | .glb g, _, _, st => (G g).bind fun v => some (v, st)
  | .bin o a c, b, σ, st => (den a b σ st).bind fun p => (den c b σ p.2).bind fun q => binop o p.1 q.1 q.2
  | .neg a, b, σ, st => (den a b σ st).bind fun p => (intOf p.1).bind fun i => some (.int (-i), p.2)
  | .not a, b, σ, st => (den a b σ st).bind fun p => (boolOf p.1).bind fun c => some (.bl (!c), p.2)
  | .and a c, b, σ, st => (den a b σ st).bind fun p => (boolOf p.1).bind fun t => if t then den c b σ p.2 else some (.bl false, p.2)
  | .or a c, b, σ, st => (den a b σ st).bind fun p => (boolOf p.1).bind fun t => if t then some (.bl true, p.2) else den c b σ p.2
  | .cmp o a c, b, σ, st => (den a b σ st).bind fun p => (den c b σ p.2).bind fun q => (cmpop o p.1 q.1 q.2).bind fun t => some (.bl t, q.2)
  | .chain o o' a c d, b, σ, st => (den a b σ st).bind fun p => (den c b σ p.2).bind fun q => (cmpop o p.1 q.1 q.2).bind fun t =>
      if t then (den d b σ q.2).bind fun r => (cmpop o' q.1 r.1 r.2).bind fun t' => some (.bl t', r.2) else some (.bl false, q.2)
  | .ite c x y, b, σ, st => (den c b σ st).bind fun p => (boolOf p.1).bind fun t => if t then den x b σ p.2 else den y b σ p.2
  | .tup as, b, σ, st => (denA as b σ st).bind fun p => if p.1.length ≤ most then some (.tup p.1, p.2) else none
  | .lst as, b, σ, st => (denA as b σ st).bind fun p => if p.1.length ≤ most then some (.ref p.2.length, p.2 ++ [.lst p.1]) else none
  | .edict, _, _, st => some (.ref st.length, st ++ [.dct []])
  | .idx a c, b, σ, st => (den a b σ st).bind fun p => (den c b σ p.2).bind fun q => (intOf q.1).bind fun i => (seqOf p.1 q.2).bind fun xs => (L2.atI xs i).bind fun v => some (v, q.2)
  | .sl a lo hi, b, σ, st => (den a b σ st).bind fun p => (denO lo b σ p.2).bind fun q => (denO hi b σ q.2).bind fun r => slOp p.1 q.1 r.1 r.2
  | .call j as, b, σ, st => (denA as b σ st).bind fun p => Γ j p.1 p.2
  | .callk j as perm, b, σ, st => (denA as b σ st).bind fun p => (perm.mapM fun i => p.1[i]?).bind fun vs => Γ j vs p.2
  | .blt f as, b, σ, st => (denA as b σ st).bind fun p => blt f p.1 p.2
  | .spc f as, b, σ, st => (denA as b σ st).bind fun p => spc f p.1 p.2
  | .isi a t, b, σ, st => (den a b σ st).bind fun p => (isi p.1 t p.2).bind fun c => some (.bl c, p.2)
  | .lc e t it ifs own, b, σ, st => (denI it b σ st).bind fun p =>
      (lcL p.2.1 (fun x s => (asg t b x (wipeS σ own) s).bind fun q => (denF ifs b q.1 q.2).bind fun r =>
        if r.1 then (den e b q.1 r.2).bind fun u => if mayPut b p.2.2.length u.1 then push p.2.2.length u.1 u.2 else none else some r.2) p.1 (p.2.2 ++ [.lst []])).bind fun st' => some (.ref p.2.2.length, st')
  | .lc2 e t it ifs t1 it1 ifs1 own, b, σ, st => (denI it b σ st).bind fun p =>
      (lcL p.2.1 (fun x s => (asg t b x (wipeS σ own) s).bind fun q => (denF ifs b q.1 q.2).bind fun r =>
        if r.1 then (denI it1 b q.1 r.2).bind fun p1 =>
          lcL (p1.2.1 ++ p.2.1) (fun x1 s1 => (asg t1 b x1 (wipeS q.1 t1.slots) s1).bind fun q1 => (denF ifs1 b q1.1 q1.2).bind fun r1 =>
            if r1.1 then (den e b q1.1 r1.2).bind fun u => if mayPut b p.2.2.length u.1 then push p.2.2.length u.1 u.2 else none else some r1.2) p1.1 p1.2.2
        else some r.2) p.1 (p.2.2 ++ [.lst []])).bind fun st' => some (.ref p.2.2.length, st')
  | .gc e, _, σ, st => (den e st.length σ st).bind fun p => some (fin st.length p.1 p.2)
noncomputable def denA : CA → Nat → Sl → Sto → Option (List PV × Sto)
  | .nil, _, _, st => some ([], st)
  | .cons e r, b, σ, st => (den e b σ st).bind fun p => (denA r b σ p.2).bind fun q => some (p.1 :: q.1, q.2)
/-- tests, one behind another -/
noncomputable def denF : CA → Nat → Sl → Sto → Option (Bool × Sto)
  | .nil, _, _, st => some (true, st)
  | .cons e r, b, σ, st => (den e b σ st).bind fun p => (boolOf p.1).bind fun t => if t then denF r b σ p.2 else some (false, p.2)
noncomputable def denO : CO → Nat → Sl → Sto → Option (Option Int × Sto)
  | .no, _, _, st => some (none, st)
  | .yes e, b, σ, st => (den e b σ st).bind fun p => (intOf p.1).bind fun i => some (some i, p.2)
/-- what is walked: the items, the places that must stay, the store -/
noncomputable def denI : CI → Nat → Sl → Sto → Option (List PV × List (Nat × SO) × Sto)
  | .seq e, b, σ, st => (den e b σ st).bind fun p => (items p.1 p.2).bind fun q => some (q.1, q.2, p.2)
  | .rng1 a, b, σ, st => (den a b σ st).bind fun p => (intOf p.1).bind fun n => if -(most : Int) ≤ n ∧ n ≤ most then some (counted 0 n.toNat, [], p.2) else none
  | .rng2 a c, b, σ, st => (den a b σ st).bind fun p => (den c b σ p.2).bind fun q => (intOf p.1).bind fun lo => (intOf q.1).bind fun hi =>
      if -(most : Int) ≤ lo ∧ lo ≤ most ∧ -(most : Int) ≤ hi ∧ hi ≤ most then some (counted lo (hi - lo).toNat, [], q.2) else none
  | .enum a, b, σ, st => (den a b σ st).bind fun p => (items p.1 p.2).bind fun q => some (numbered 0 q.1, q.2, p.2)
  | .zip a c, b, σ, st => (den a b σ st).bind fun p => (den c b σ p.2).bind fun q => (items p.1 q.2).bind fun x => (items q.1 q.2).bind fun y =>
      if !isTupV p.1 || isTupV q.1 then some (paired x.1 y.1, x.2 ++ y.2, q.2) else none
noncomputable def asg : CT → Nat → PV → Sl → Sto → Option (Sl × Sto)
  | .name i, _, v, σ, st => if i < σ.length then some (σ.set i (some v), st) else none
  | .tup ts, b, v, σ, st => match v with
    | .tup xs => asgs ts b xs σ st
    | .ref n => match st[n]? with
      | some (.lst xs) => asgs ts b xs σ st
      | _ => none
    | _ => none
  | .sub o i, b, v, σ, st => (den o b σ st).bind fun p => (den i b σ p.2).bind fun q => match p.1, q.1 with
    | .ref n, .int k => match q.2[n]? with
      | some (.lst xs) => (L2.ixN xs.length k).bind fun j => if mayPut b n v then some (σ, q.2.set n (.lst (xs.set j v))) else none
      | _ => none
    | _, _ => none
noncomputable def asgs : CTs → Nat → List PV → Sl → Sto → Option (Sl × Sto)
  | .nil, _, vs, σ, st => match vs with
    | [] => some (σ, st)
    | _ => none
  | .cons t r, b, vs, σ, st => match vs with
    | v :: vr => (asg t b v σ st).bind fun p => asgs r b vr p.1 p.2
    | [] => none
end
/-- several slots at once, from the last -/
def setAll : List Nat → List PV → Sl → Option Sl
  | [], [], σ => some σ
  | i :: is, v :: vs, σ => (setAll is vs σ).bind fun σ' => if i < σ'.length then some (σ'.set i (some v)) else none
  | _, _, _ => none
mutual
noncomputable def denS : CS → Nat → Sl → Sto → Option Fl
  | .asg t e, b, σ, st => (den Γ G e b σ st).bind fun p => (asg Γ G t b p.1 σ p.2).bind fun q => some (.nx q.1 q.2)
  | .par is as, b, σ, st => (denA Γ G as b σ st).bind fun p => (setAll is p.1 σ).bind fun σ' => some (.nx σ' p.2)
  | .ret e, b, σ, st => (den Γ G e b σ st).bind fun p => some (.rt p.1 p.2)
  | .retN, _, _, st => some (.rt .non st)
  | .expr e, b, σ, st => (den Γ G e b σ st).bind fun p => some (.nx σ p.2)
  | .app o e, b, σ, st => (den Γ G o b σ st).bind fun p => (lstOf p.1 p.2).bind fun _ => (den Γ G e b σ p.2).bind fun q => match p.1 with
    | .ref n => if mayPut b n q.1 then (push n q.1 q.2).bind fun st' => some (.nx σ st') else none
    | _ => none
  | .ext o e, b, σ, st => (den Γ G o b σ st).bind fun p => (lstOf p.1 p.2).bind fun _ => (den Γ G e b σ p.2).bind fun q => (lstOf q.1 q.2).bind fun ys => match p.1 with
    | .ref n => match q.2[n]? with
      | some (.lst xs) => if (b ≤ n || PV.ltA 0 ys) && decide (xs.length + ys.length ≤ most) then some (.nx σ (q.2.set n (.lst (xs ++ ys)))) else none
      | _ => none
    | _ => none
  | .ite c x y, b, σ, st => (den Γ G c b σ st).bind fun p => (boolOf p.1).bind fun t => if t then denB x b σ p.2 else denB y b σ p.2
  | .loop t it body, b, σ, st => (denI Γ G it b σ st).bind fun p =>
      forL p.2.1 (fun x σ1 s1 => (asg Γ G t b x σ1 s1).bind fun q => denB body b q.1 q.2) p.1 σ p.2.2
  | .whl c body, b, σ, st => whileD (fun σ1 s1 => (den Γ G c b σ1 s1).bind fun p => (boolOf p.1).bind fun t => some (t, p.2)) (fun σ1 s1 => denB body b σ1 s1) σ st
  | .pass, _, σ, st => some (.nx σ st)
  | .brk, _, σ, st => some (.bk σ st)
  | .cnt, _, σ, st => some (.ct σ st)
  | .nev, _, _, _ => none
noncomputable def denB : CB → Nat → Sl → Sto → Option Fl
  | .nil, _, σ, st => some (.nx σ st)
  | .cons s r, b, σ, st => (denS s b σ st).bind fun f => match f with
    | .nx σ' st' => denB r b σ' st'
    | f => some f
end
end
/-- a def: how many parameters, how many slots, its body -/
structure CD where
  pars : Nat
  slots : Nat
  body : CB
noncomputable def runD (Γ : Tab) (G : Nat → Option PV) (d : CD) (args : List PV) (st : Sto) : Option (PV × Sto) :=
  if args.length = d.pars then
    (denB Γ G d.body st.length (args.map some ++ List.replicate (d.slots - d.pars) none) st).bind fun f => match f with
    | .rt v st' => some (fin st.length v st')
    | .nx _ st' => some (fin st.length .non st')
    | _ => none
  else none
end MP

end
section
set_option Elab.async false
set_option linter.all false
set_option maxRecDepth 100000
/-! MP, second part: how values and the store stand in the layer's heap. -/
namespace MP
open PySem L2

mutual
def RV (K : PySem.W.Frag) (φ : List Addr) (H : Hp) : PV → V → Prop
  | .non, v => v = .non
  | .bl b, v => v = .bl b
  | .int i, v => v = .int i
  | .str s, v => v = .str s
  | .tup xs, v => ∃ a vs, v = .ref a ∧ SqT K H a vs ∧ RVs K φ H xs vs
  | .ref n, v => ∃ a, φ[n]? = some a ∧ v = .ref a
def RVs (K : PySem.W.Frag) (φ : List Addr) (H : Hp) : List PV → List V → Prop
  | [], vs => vs = []
  | x :: xs, vs => ∃ y ys, vs = y :: ys ∧ RV K φ H x y ∧ RVs K φ H xs ys
end
/-- tuples stay -/
def Tp (K : PySem.W.Frag) (H H' : Hp) : Prop := ∀ a vs, SqT K H a vs → SqT K H' a vs
theorem Tp.refl {K : PySem.W.Frag} (H : Hp) : Tp K H H := fun _ _ h => h
theorem Tp.trans {K : PySem.W.Frag} {H H1 H2 : Hp} (a : Tp K H H1) (b : Tp K H1 H2) : Tp K H H2 := fun x v h => b x v (a x v h)
theorem Tp.new {K : PySem.W.Frag} {H : Hp} {p : Addr} {o : HO} (h : H p = none) : Tp K H (upd H p o) := fun a vs e => by
  rcases e with e | e
  · refine .inl ?_
    rcases e with e | ⟨u, e⟩
    · exact .inl (by rw [upd_ne (ne_of_none e h)]; exact e)
    · exact .inr ⟨u, by rw [upd_ne (ne_of_none e h)]; exact e⟩
  · exact .inr e
theorem Tp.put {K : PySem.W.Frag} {H : Hp} {p : Addr} {o : HO} {xs : List V} (h : H p = some (.lst xs)) : Tp K H (upd H p o) := fun a vs e => by
  rcases e with e | e
  · refine .inl ?_
    rcases e with e | ⟨u, e⟩
    · exact .inl (by rw [upd_ne (ne_of e h (by intro z; cases z))]; exact e)
    · exact .inr ⟨u, by rw [upd_ne (ne_of e h (by intro z; cases z))]; exact e⟩
  · exact .inr e
section
variable {K : PySem.W.Frag} {φ φ' : List Addr} {H H' : Hp}
theorem pre_get {α : Type} {φ φ' : List α} {n : Nat} {a : α} (h : φ <+: φ') (e : φ[n]? = some a) : φ'[n]? = some a := by
  obtain ⟨r, rfl⟩ := h
  have hl : n < φ.length := by
    rcases Nat.lt_or_ge n φ.length with h | h
    · exact h
    · rw [List.getElem?_eq_none h] at e; cases e
  rw [List.getElem?_append_left hl]; exact e
mutual
theorem RV.mono (hp : φ <+: φ') (ht : Tp K H H') : ∀ {x : PV} {v : V}, RV K φ H x v → RV K φ' H' x v
  | .non, _, h => by unfold RV at h ⊢; exact h
  | .bl _, _, h => by unfold RV at h ⊢; exact h
  | .int _, _, h => by unfold RV at h ⊢; exact h
  | .str _, _, h => by unfold RV at h ⊢; exact h
  | .tup xs, v, h => by
    unfold RV at h ⊢
    obtain ⟨a, vs, e, q, r⟩ := h
    exact ⟨a, vs, e, ht _ _ q, RVs.mono hp ht r⟩
  | .ref n, v, h => by
    unfold RV at h ⊢
    obtain ⟨a, e, q⟩ := h
    exact ⟨a, pre_get hp e, q⟩
theorem RVs.mono (hp : φ <+: φ') (ht : Tp K H H') : ∀ {xs : List PV} {vs : List V}, RVs K φ H xs vs → RVs K φ' H' xs vs
  | [], _, h => by unfold RVs at h ⊢; exact h
  | x :: xs, vs, h => by
    unfold RVs at h ⊢
    obtain ⟨y, ys, e, a, b⟩ := h
    exact ⟨y, ys, e, RV.mono hp ht a, RVs.mono hp ht b⟩
end
theorem RVs.nil : RVs K φ H [] [] := by unfold RVs; rfl
theorem RVs.cons {x : PV} {v : V} {xs : List PV} {vs : List V} (a : RV K φ H x v) (b : RVs K φ H xs vs) : RVs K φ H (x :: xs) (v :: vs) := by
  unfold RVs; exact ⟨v, vs, rfl, a, b⟩
theorem RVs.cons_inv {x : PV} {xs : List PV} {vs : List V} (h : RVs K φ H (x :: xs) vs) : ∃ v ws, vs = v :: ws ∧ RV K φ H x v ∧ RVs K φ H xs ws := by
  unfold RVs at h; exact h
theorem RVs.nil_inv {vs : List V} (h : RVs K φ H [] vs) : vs = [] := by unfold RVs at h; exact h
theorem RVs.length : ∀ {xs : List PV} {vs : List V}, RVs K φ H xs vs → vs.length = xs.length
  | [], _, h => by rw [h.nil_inv]; rfl
  | x :: xs, _, h => by
    obtain ⟨v, ws, rfl, _, b⟩ := h.cons_inv
    rw [List.length_cons, List.length_cons, RVs.length b]
theorem RVs.get : ∀ {xs : List PV} {vs : List V} {i : Nat} {x : PV}, RVs K φ H xs vs → xs[i]? = some x → ∃ v, vs[i]? = some v ∧ RV K φ H x v
  | [], _, _, _, _, e => by simp at e
  | y :: ys, _, 0, x, h, e => by
    obtain ⟨v, ws, rfl, a, _⟩ := h.cons_inv
    simp at e; subst e
    exact ⟨v, rfl, a⟩
  | y :: ys, _, i + 1, x, h, e => by
    obtain ⟨v, ws, rfl, _, b⟩ := h.cons_inv
    obtain ⟨u, h1, h2⟩ := RVs.get (i := i) (x := x) b (by simpa using e)
    exact ⟨u, by simpa using h1, h2⟩
theorem RVs.getV : ∀ {xs : List PV} {vs : List V} {i : Nat} {v : V}, RVs K φ H xs vs → vs[i]? = some v → ∃ x, xs[i]? = some x ∧ RV K φ H x v
  | [], _, _, _, h, e => by rw [h.nil_inv] at e; simp at e
  | y :: ys, _, 0, v, h, e => by
    obtain ⟨w, ws, rfl, a, _⟩ := h.cons_inv
    simp at e; subst e
    exact ⟨y, rfl, a⟩
  | y :: ys, _, i + 1, v, h, e => by
    obtain ⟨w, ws, rfl, _, b⟩ := h.cons_inv
    obtain ⟨u, h1, h2⟩ := RVs.getV (i := i) (v := v) b (by simpa using e)
    exact ⟨u, by simpa using h1, h2⟩
theorem RVs.append : ∀ {xs ys : List PV} {vs ws : List V}, RVs K φ H xs vs → RVs K φ H ys ws → RVs K φ H (xs ++ ys) (vs ++ ws)
  | [], _, _, _, h, g => by rw [h.nil_inv]; exact g
  | x :: xs, _, _, _, h, g => by
    obtain ⟨v, us, rfl, a, b⟩ := h.cons_inv
    exact .cons a (RVs.append b g)
theorem RVs.take : ∀ (n : Nat) {xs : List PV} {vs : List V}, RVs K φ H xs vs → RVs K φ H (xs.take n) (vs.take n)
  | 0, _, _, _ => .nil
  | _ + 1, [], _, h => by rw [h.nil_inv]; exact .nil
  | n + 1, x :: xs, _, h => by
    obtain ⟨v, us, rfl, a, b⟩ := h.cons_inv
    exact .cons a (RVs.take n b)
theorem RVs.drop : ∀ (n : Nat) {xs : List PV} {vs : List V}, RVs K φ H xs vs → RVs K φ H (xs.drop n) (vs.drop n)
  | 0, _, _, h => h
  | _ + 1, [], _, h => by rw [h.nil_inv]; exact .nil
  | n + 1, x :: xs, _, h => by
    obtain ⟨v, us, rfl, a, b⟩ := h.cons_inv
    exact RVs.drop n b
theorem RVs.set {x : PV} {v : V} (a : RV K φ H x v) : ∀ (n : Nat) {xs : List PV} {vs : List V}, RVs K φ H xs vs → RVs K φ H (xs.set n x) (vs.set n v)
  | _, [], _, h => by rw [h.nil_inv]; exact .nil
  | 0, y :: ys, _, h => by
    obtain ⟨w, us, rfl, _, b⟩ := h.cons_inv
    exact .cons a b
  | n + 1, y :: ys, _, h => by
    obtain ⟨w, us, rfl, c, b⟩ := h.cons_inv
    exact .cons c (RVs.set a n b)
theorem RVs.flat {xs : List PV} {vs : List V} (h : RVs K φ H xs vs) : ∀ n : Nat, RVs K φ H (List.replicate n xs).flatten (List.replicate n vs).flatten
  | 0 => .nil
  | n + 1 => by
    rw [List.replicate_succ, List.replicate_succ, List.flatten_cons, List.flatten_cons]
    exact RVs.append h (RVs.flat h n)
theorem RVs.cut {xs : List PV} {vs : List V} (h : RVs K φ H xs vs) (lo hi : Option Int) : RVs K φ H (cut xs lo hi) (cutV vs lo hi) := by
  unfold MP.cut cutV
  rw [h.length]
  exact (h.drop _).take _
mutual
/-- places below k: the first k addresses are enough -/
theorem RV.low {k : Nat} : ∀ {x : PV} {v : V}, x.lt k = true → RV K φ H x v → RV K (φ.take k) H x v
  | .non, _, _, h => by unfold RV at h ⊢; exact h
  | .bl _, _, _, h => by unfold RV at h ⊢; exact h
  | .int _, _, _, h => by unfold RV at h ⊢; exact h
  | .str _, _, _, h => by unfold RV at h ⊢; exact h
  | .tup xs, v, l, h => by
    unfold RV at h ⊢
    unfold PV.lt at l
    obtain ⟨a, vs, e, q, r⟩ := h
    exact ⟨a, vs, e, q, RVs.low l r⟩
  | .ref n, v, l, h => by
    unfold RV at h ⊢
    unfold PV.lt at l
    obtain ⟨a, e, q⟩ := h
    exact ⟨a, by rw [List.getElem?_take_of_lt (of_decide_eq_true l)]; exact e, q⟩
theorem RVs.low {k : Nat} : ∀ {xs : List PV} {vs : List V}, PV.ltA k xs = true → RVs K φ H xs vs → RVs K (φ.take k) H xs vs
  | [], _, _, h => by unfold RVs at h ⊢; exact h
  | x :: xs, vs, l, h => by
    unfold RVs at h ⊢
    unfold PV.ltA at l
    rw [Bool.and_eq_true] at l
    obtain ⟨y, ys, e, a, b⟩ := h
    exact ⟨y, ys, e, RV.low l.1 a, RVs.low l.2 b⟩
end
mutual
theorem RV.below : ∀ {x : PV} {v : V}, RV K φ H x v → x.lt φ.length = true
  | .non, _, h => by unfold PV.lt; rfl
  | .bl _, _, h => by unfold PV.lt; rfl
  | .int _, _, h => by unfold PV.lt; rfl
  | .str _, _, h => by unfold PV.lt; rfl
  | .tup xs, v, h => by
    unfold RV at h
    unfold PV.lt
    obtain ⟨a, vs, e, q, r⟩ := h
    exact RVs.below r
  | .ref n, v, h => by
    unfold RV at h
    unfold PV.lt
    obtain ⟨a, e, q⟩ := h
    refine decide_eq_true ?_
    rcases Nat.lt_or_ge n φ.length with h | h
    · exact h
    · rw [List.getElem?_eq_none h] at e; cases e
theorem RVs.below : ∀ {xs : List PV} {vs : List V}, RVs K φ H xs vs → PV.ltA φ.length xs = true
  | [], _, h => by unfold PV.ltA; rfl
  | x :: xs, vs, h => by
    unfold RVs at h
    unfold PV.ltA
    obtain ⟨y, ys, e, a, b⟩ := h
    rw [Bool.and_eq_true]
    exact ⟨RV.below a, RVs.below b⟩
end
end
mutual
theorem PV.lt_mono {j k : Nat} (h : j ≤ k) : ∀ {x : PV}, x.lt j = true → x.lt k = true
  | .non, _ => by unfold PV.lt; rfl
  | .bl _, _ => by unfold PV.lt; rfl
  | .int _, _ => by unfold PV.lt; rfl
  | .str _, _ => by unfold PV.lt; rfl
  | .tup xs, l => by unfold PV.lt at l ⊢; exact PV.ltA_mono h l
  | .ref n, l => by unfold PV.lt at l ⊢; exact decide_eq_true (Nat.lt_of_lt_of_le (of_decide_eq_true l) h)
theorem PV.ltA_mono {j k : Nat} (h : j ≤ k) : ∀ {xs : List PV}, PV.ltA j xs = true → PV.ltA k xs = true
  | [], _ => by unfold PV.ltA; rfl
  | x :: xs, l => by
    unfold PV.ltA at l ⊢
    rw [Bool.and_eq_true] at l ⊢
    exact ⟨PV.lt_mono h l.1, PV.ltA_mono h l.2⟩
end
theorem SO.lt_mono {j k : Nat} (h : j ≤ k) : ∀ {o : SO}, o.lt j = true → o.lt k = true
  | .lst _, l => PV.ltA_mono h l
  | .fzl _, l => PV.ltA_mono h l
  | .dct _, l => PV.ltA_mono h l
theorem PV.ltA_append {k : Nat} : ∀ {xs ys : List PV}, PV.ltA k xs = true → PV.ltA k ys = true → PV.ltA k (xs ++ ys) = true
  | [], _, _, h => h
  | x :: xs, ys, a, b => by
    rw [List.cons_append]
    unfold PV.ltA at a ⊢
    rw [Bool.and_eq_true] at a ⊢
    exact ⟨a.1, PV.ltA_append a.2 b⟩
theorem PV.ltA_set {k : Nat} {v : PV} (hv : v.lt k = true) : ∀ {xs : List PV} (n : Nat), PV.ltA k xs = true → PV.ltA k (xs.set n v) = true
  | [], _, h => h
  | x :: xs, 0, a => by
    rw [List.set_cons_zero]
    unfold PV.ltA at a ⊢
    rw [Bool.and_eq_true] at a ⊢
    exact ⟨hv, a.2⟩
  | x :: xs, n + 1, a => by
    rw [List.set_cons_succ]
    unfold PV.ltA at a ⊢
    rw [Bool.and_eq_true] at a ⊢
    exact ⟨a.1, PV.ltA_set hv n a.2⟩

/-! ### the store -/
def RK (K : PySem.W.Frag) (φ : List Addr) (H : Hp) : List (Key × PV) → List (Key × V) → Prop
  | [], vs => vs = []
  | x :: xs, vs => ∃ y ys, vs = (x.1, y) :: ys ∧ RV K φ H x.2 y ∧ RK K φ H xs ys
def SOk (K : PySem.W.Frag) (φ : List Addr) (H : Hp) (a : Addr) : SO → Prop
  | .lst xs => ∃ vs, H a = some (.lst vs) ∧ RVs K φ H xs vs
  | .fzl xs => ∃ vs, ((∃ o, H a = some (.frz o (.lst vs))) ∨ (∀ H', SqL K H' a vs)) ∧ RVs K φ H xs vs
  | .dct kvs => ∃ vs, H a = some (.dK vs) ∧ RK K φ H kvs vs
structure HR (K : PySem.W.Frag) (φ : List Addr) (st : Sto) (H : Hp) : Prop where
  len : φ.length = st.length
  inj : ∀ (i j : Nat) (a : Addr), φ[i]? = some a → φ[j]? = some a → (∃ xs, st[i]? = some (.fzl xs)) ∨ (∃ xs, st[j]? = some (.fzl xs)) ∨ i = j
  ok : ∀ (n : Nat) (a : Addr) (o : SO), φ[n]? = some a → st[n]? = some o → SOk K φ H a o
/-- the slots -/
structure ES (K : PySem.W.Frag) (φ : List Addr) (H : Hp) (σ : Sl) (σv : St) : Prop where
  len : σ.length = σv.length
  get : ∀ (i : Nat) (v : PV), σ[i]? = some (some v) → ∃ u, σv[i]? = some (some u) ∧ RV K φ H v u
/-- the first m places hold no places from m on -/
def Cl (m : Nat) (st : Sto) : Prop := ∀ n o, n < m → st[n]? = some o → o.lt m = true
/-- how the store goes on, in a region that began at b -/
structure Gr (b : Nat) (st st' : Sto) : Prop where
  len : st.length ≤ st'.length
  cl : ∀ m, m ≤ b → Cl m st → Cl m st'
theorem Gr.refl (b : Nat) (st : Sto) : Gr b st st := ⟨Nat.le_refl _, fun _ _ h => h⟩
theorem Gr.trans {b : Nat} {s t u : Sto} (a : Gr b s t) (c : Gr b t u) : Gr b s u := ⟨Nat.le_trans a.len c.len, fun m h z => c.cl m h (a.cl m h z)⟩
theorem Gr.low {b c : Nat} {s t : Sto} (h : b ≤ c) (g : Gr c s t) : Gr b s t := ⟨g.len, fun m hm => g.cl m (Nat.le_trans hm h)⟩
theorem Gr.new {b : Nat} {st : Sto} {o : SO} (h : b ≤ st.length) : Gr b st (st ++ [o]) := by
  refine ⟨by rw [List.length_append]; omega, fun m hm c n o' hn e => ?_⟩
  rw [List.getElem?_append_left (by omega)] at e
  exact c n o' hn e
theorem Gr.put {b n : Nat} {st : Sto} {o : SO} (h : b ≤ n ∨ ∀ m, (∀ o', st[n]? = some o' → o'.lt m = true) → o.lt m = true) : Gr b st (st.set n o) := by
  refine ⟨by rw [List.length_set]; exact Nat.le_refl _, fun m hm c i o' hi e => ?_⟩
  by_cases hin : n = i
  · subst hin
    have hl : n < st.length := by
      rcases Nat.lt_or_ge n st.length with h | h
      · exact h
      · rw [List.getElem?_eq_none (by rw [List.length_set]; exact h)] at e; cases e
    rw [List.getElem?_set_self hl] at e
    cases e
    rcases h with h | h
    · omega
    · exact h m fun o' e' => c n o' hi e'
  · rw [List.getElem?_set_ne hin] at e
    exact c i o' hi e
section
variable {K : PySem.W.Frag} {φ φ' : List Addr} {H H' : Hp} {st : Sto} {σ : Sl} {σv : St}
theorem RK.mono (hp : φ <+: φ') (ht : Tp K H H') : ∀ {xs : List (Key × PV)} {vs : List (Key × V)}, RK K φ H xs vs → RK K φ' H' xs vs
  | [], _, h => h
  | x :: xs, vs, h => by
    obtain ⟨y, ys, e, a, b⟩ := h
    exact ⟨y, ys, e, a.mono hp ht, RK.mono hp ht b⟩
theorem RK.low {k : Nat} : ∀ {xs : List (Key × PV)} {vs : List (Key × V)}, PV.ltA k (xs.map (·.2)) = true → RK K φ H xs vs → RK K (φ.take k) H xs vs
  | [], _, _, h => h
  | x :: xs, vs, l, h => by
    obtain ⟨y, ys, e, a, b⟩ := h
    rw [List.map_cons] at l
    unfold PV.ltA at l
    rw [Bool.and_eq_true] at l
    exact ⟨y, ys, e, a.low l.1, RK.low l.2 b⟩
theorem RK.below : ∀ {xs : List (Key × PV)} {vs : List (Key × V)}, RK K φ H xs vs → PV.ltA φ.length (xs.map (·.2)) = true
  | [], _, h => by unfold List.map PV.ltA; rfl
  | x :: xs, vs, h => by
    obtain ⟨y, ys, e, a, b⟩ := h
    rw [List.map_cons]
    unfold PV.ltA
    rw [Bool.and_eq_true]
    exact ⟨a.below, RK.below b⟩
theorem ES.mono (hp : φ <+: φ') (ht : Tp K H H') (h : ES K φ H σ σv) : ES K φ' H' σ σv := ⟨h.len, fun i v e => by
  obtain ⟨u, a, b⟩ := h.get i v e
  exact ⟨u, a, b.mono hp ht⟩⟩
theorem ES.set (h : ES K φ H σ σv) {i : Nat} {x : PV} {v : V} (r : RV K φ H x v) : ES K φ H (σ.set i (some x)) (σv.set i (some v)) := by
  refine ⟨by rw [List.length_set, List.length_set]; exact h.len, fun j w e => ?_⟩
  by_cases hij : i = j
  · subst hij
    by_cases hl : i < σ.length
    · rw [List.getElem?_set_self hl] at e
      cases e
      exact ⟨v, List.getElem?_set_self (h.len ▸ hl), r⟩
    · rw [List.getElem?_eq_none (by rw [List.length_set]; omega)] at e; cases e
  · rw [List.getElem?_set_ne hij] at e
    obtain ⟨u, a, b⟩ := h.get j w e
    exact ⟨u, by rw [List.getElem?_set_ne hij]; exact a, b⟩
theorem wipe_get {i : Nat} : ∀ {own : List Nat}, i ∉ own → ∀ (σv : St), (wipe σv own)[i]? = σv[i]?
  | [], _, _ => rfl
  | v :: vs, h, σv => by
    simp only [List.mem_cons, not_or] at h
    unfold wipe
    rw [List.getElem?_set_ne (fun e => h.1 e.symm)]
    exact wipe_get h.2 σv
theorem wipeS_len : ∀ (own : List Nat) (σ : Sl), (wipeS σ own).length = σ.length
  | [], _ => rfl
  | v :: vs, σ => by unfold wipeS; rw [List.length_set]; exact wipeS_len vs σ
theorem wipeS_get {i : Nat} {x : PV} : ∀ {own : List Nat} {σ : Sl}, (wipeS σ own)[i]? = some (some x) → i ∉ own ∧ σ[i]? = some (some x)
  | [], _, h => ⟨by simp, h⟩
  | v :: vs, σ, h => by
    unfold wipeS at h
    by_cases hi : v = i
    · subst hi
      by_cases hv : v < (wipeS σ vs).length
      · rw [List.getElem?_set_self hv] at h; cases h
      · rw [List.getElem?_eq_none (by rw [List.length_set]; omega)] at h; cases h
    · rw [List.getElem?_set_ne hi] at h
      obtain ⟨a, b⟩ := wipeS_get h
      exact ⟨by simp only [List.mem_cons, not_or]; exact ⟨fun e => hi e.symm, a⟩, b⟩
theorem ES.wipe (h : ES K φ H σ σv) (own : List Nat) : ES K φ H (wipeS σ own) (L2.wipe σv own) := by
  refine ⟨by rw [wipeS_len, wipe_length]; exact h.len, fun i v e => ?_⟩
  obtain ⟨a, b⟩ := wipeS_get e
  obtain ⟨u, c, d⟩ := h.get i v b
  exact ⟨u, by rw [wipe_get a]; exact c, d⟩
theorem HR.at_ (h : HR K φ st H) {n : Nat} {o : SO} (e : st[n]? = some o) : ∃ a, φ[n]? = some a ∧ SOk K φ H a o := by
  have hl : n < st.length := by
    rcases Nat.lt_or_ge n st.length with h | h
    · exact h
    · rw [List.getElem?_eq_none h] at e; cases e
  have hl' : n < φ.length := by rw [h.len]; exact hl
  exact ⟨φ[n], List.getElem?_eq_getElem hl', h.ok n _ o (List.getElem?_eq_getElem hl') e⟩
theorem SOk.mono {a : Addr} {o : SO} (hp : φ <+: φ') (ht : Tp K H H') (ha : ∀ u, H a = some u → H' a = some u) : SOk K φ H a o → SOk K φ' H' a o := fun h => by
  cases o with
  | lst xs => obtain ⟨vs, e, r⟩ := h; exact ⟨vs, ha _ e, r.mono hp ht⟩
  | fzl xs =>
    obtain ⟨vs, e, r⟩ := h
    refine ⟨vs, ?_, r.mono hp ht⟩
    rcases e with ⟨o, e⟩ | e
    · exact .inl ⟨o, ha _ e⟩
    · exact .inr e
  | dct kvs => obtain ⟨vs, e, r⟩ := h; exact ⟨vs, ha _ e, r.mono hp ht⟩
theorem SOk.some {a : Addr} {o : SO} (h : SOk K φ H a o) (hf : ∀ xs, o ≠ .fzl xs) : ∃ u, H a = some u := by
  cases o with
  | lst xs => obtain ⟨vs, e, r⟩ := h; exact ⟨_, e⟩
  | fzl xs => exact absurd rfl (hf xs)
  | dct kvs => obtain ⟨vs, e, r⟩ := h; exact ⟨_, e⟩
theorem len_pos {α : Type} {l : List α} {n : Nat} {a : α} (e : l[n]? = some a) : n < l.length := by
  rcases Nat.lt_or_ge n l.length with h | h
  · exact h
  · rw [List.getElem?_eq_none h] at e; cases e
theorem pre_one {φ : List Addr} {p : Addr} : φ <+: φ ++ [p] := List.prefix_append _ _
theorem HR.below (h : HR K φ st H) : Cl st.length st := fun n o hn e => by
  obtain ⟨a, e1, k⟩ := h.at_ e
  rw [← h.len]
  cases o with
  | lst xs => obtain ⟨vs, _, r⟩ := k; exact r.below
  | fzl xs => obtain ⟨vs, _, r⟩ := k; exact r.below
  | dct kvs => obtain ⟨vs, _, r⟩ := k; exact RK.below r
/-- the heap goes on where our places are not -/
theorem HR.same (h : HR K φ st H) (ht : Tp K H H') (hs : ∀ (a : Addr) (u : HO), H a = some u → H' a = some u) : HR K φ st H' :=
  ⟨h.len, h.inj, fun n a o e1 e2 => (h.ok n a o e1 e2).mono (List.prefix_refl φ) ht (hs a)⟩
theorem snoc_get {α : Type} {l : List α} {x a : α} {i : Nat} (e : (l ++ [x])[i]? = some a) : (i < l.length ∧ l[i]? = some a) ∨ (i = l.length ∧ a = x) := by
  rcases Nat.lt_or_ge i l.length with hl | hl
  · rw [List.getElem?_append_left hl] at e
    exact .inl ⟨hl, e⟩
  · rw [List.getElem?_append_right hl] at e
    have h0 : i - l.length = 0 := by
      have := len_pos e
      simp at this; omega
    rw [h0] at e
    simp at e
    exact .inr ⟨by omega, e.symm⟩
theorem upd_new {H : Hp} {p : Addr} {u : HO} (hp : H p = none) : ∀ (a : Addr) (x : HO), H a = some x → upd H p u a = some x := fun a x e => by
  rw [upd_ne (ne_of_none e hp)]; exact e
/-- a new object comes in -/
theorem HR.add (h : HR K φ st H) {p : Addr} {u : HO} {o : SO} (hp : H p = none) (ho : SOk K (φ ++ [p]) (upd H p u) p o) : HR K (φ ++ [p]) (st ++ [o]) (upd H p u) := by
  have lift : ∀ {i : Nat} {x : SO}, st[i]? = some x → (st ++ [o])[i]? = some x := fun e => by rw [List.getElem?_append_left (len_pos e)]; exact e
  have old : ∀ {i : Nat} {a : Addr}, φ[i]? = some a → a = p → ∃ xs, (st ++ [o])[i]? = some (.fzl xs) := fun {i a} e q => by
    subst q
    have hl : i < List.length st := by rw [← h.len]; exact len_pos e
    obtain ⟨x, hs⟩ : ∃ x, st[i]? = some x := ⟨_, List.getElem?_eq_getElem hl⟩
    have k := h.ok i a _ e hs
    cases x with
    | lst xs => obtain ⟨vs, z, _⟩ := k; rw [hp] at z; cases z
    | dct xs => obtain ⟨vs, z, _⟩ := k; rw [hp] at z; cases z
    | fzl xs => exact ⟨xs, lift hs⟩
  refine ⟨by rw [List.length_append, List.length_append, h.len]; rfl, fun i j a e1 e2 => ?_, fun n a o' e1 e2 => ?_⟩
  · rcases snoc_get e1 with ⟨h1, h2⟩ | ⟨h1, h2⟩ <;> rcases snoc_get e2 with ⟨h3, h4⟩ | ⟨h3, h4⟩
    · rcases h.inj i j a h2 h4 with ⟨xs, z⟩ | ⟨xs, z⟩ | z
      · exact .inl ⟨xs, lift z⟩
      · exact .inr (.inl ⟨xs, lift z⟩)
      · exact .inr (.inr z)
    · exact .inl (old h2 h4)
    · exact .inr (.inl (old h4 h2))
    · exact .inr (.inr (by omega))
  · rcases snoc_get e1 with ⟨h1, h2⟩ | ⟨h1, h2⟩
    · rw [List.getElem?_append_left (by rw [← h.len]; exact h1)] at e2
      exact (h.ok n a o' h2 e2).mono pre_one (Tp.new hp) (upd_new hp a)
    · rcases snoc_get e2 with ⟨h3, h4⟩ | ⟨h3, h4⟩
      · rw [h.len] at h1; omega
      · subst h2; subst h4; exact ho
/-- a list of ours is written -/
theorem HR.put (h : HR K φ st H) {n : Nat} {a : Addr} {xs ys : List PV} {us vs : List V} (ea : φ[n]? = some a) (en : st[n]? = some (.lst xs)) (eh : H a = some (.lst us)) (r : RVs K φ H ys vs) :
    HR K φ (st.set n (.lst ys)) (upd H a (.lst vs)) := by
  have ht : Tp K H (upd H a (.lst vs)) := Tp.put eh
  have keepF : ∀ {i : Nat} {zs : List PV}, st[i]? = some (.fzl zs) → (st.set n (.lst ys))[i]? = some (.fzl zs) := fun {i zs} e => by
    by_cases hi : n = i
    · subst hi; rw [en] at e; cases e
    · rw [List.getElem?_set_ne hi]; exact e
  refine ⟨by rw [List.length_set]; exact h.len, fun i j b e1 e2 => ?_, fun m b o e1 e2 => ?_⟩
  · rcases h.inj i j b e1 e2 with ⟨zs, z⟩ | ⟨zs, z⟩ | z
    · exact .inl ⟨zs, keepF z⟩
    · exact .inr (.inl ⟨zs, keepF z⟩)
    · exact .inr (.inr z)
  by_cases hm : n = m
  · subst hm
    rw [List.getElem?_set_self (len_pos en)] at e2
    cases e2
    rw [ea] at e1; cases e1
    exact ⟨vs, upd_same, r.mono (List.prefix_refl φ) ht⟩
  · rw [List.getElem?_set_ne hm] at e2
    have k := h.ok m b o e1 e2
    by_cases hb : b = a
    · subst hb
      rcases h.inj n m b ea e1 with ⟨zs, z⟩ | ⟨zs, z⟩ | z
      · rw [en] at z; cases z
      · rw [e2] at z; cases z
        obtain ⟨ws, q, r'⟩ := k
        rcases q with ⟨o, q⟩ | q
        · rw [eh] at q; cases q
        · exact ⟨ws, .inr q, r'.mono (List.prefix_refl φ) ht⟩
      · exact absurd z hm
    · exact k.mono (List.prefix_refl φ) ht fun u e => by rw [upd_ne hb]; exact e
/-- what fin gives stands -/
theorem HR.cutTo (h : HR K φ st H) {k : Nat} (hk : k ≤ st.length) (c : Cl k st) : HR K (φ.take k) (st.take k) H := by
  refine ⟨by rw [List.length_take, List.length_take, h.len], fun i j a e1 e2 => ?_, fun n a o e1 e2 => ?_⟩
  · have t : ∀ {i : Nat}, (φ.take k)[i]? = some a → i < k ∧ φ[i]? = some a := fun {i} e => by
      have := len_pos e
      rw [List.length_take] at this
      rw [List.getElem?_take_of_lt (by omega)] at e; exact ⟨by omega, e⟩
    rcases h.inj i j a (t e1).2 (t e2).2 with ⟨xs, z⟩ | ⟨xs, z⟩ | z
    · exact .inl ⟨xs, by rw [List.getElem?_take_of_lt (t e1).1]; exact z⟩
    · exact .inr (.inl ⟨xs, by rw [List.getElem?_take_of_lt (t e2).1]; exact z⟩)
    · exact .inr (.inr z)
  · have hn : n < k := by
      have := len_pos e1
      rw [List.length_take] at this
      omega
    rw [List.getElem?_take_of_lt hn] at e1 e2
    have q := h.ok n a o e1 e2
    have l := c n o hn e2
    cases o with
    | lst xs => obtain ⟨vs, e, r⟩ := q; exact ⟨vs, e, r.low l⟩
    | fzl xs => obtain ⟨vs, e, r⟩ := q; exact ⟨vs, e, r.low l⟩
    | dct kvs => obtain ⟨vs, e, r⟩ := q; exact ⟨vs, e, r.low l⟩
end
end MP

end
section
set_option Elab.async false
set_option linter.all false
set_option maxRecDepth 100000
set_option maxHeartbeats 4000000
/-! MP: tuple * int, also once (turned from the library's own rule for two and more). -/
namespace MP
open PySem PySem.Spec PyProof.Rows L2
theorem tuple_mul1 (l : Addr) (items : Array Value) (n : Nat) (dd : Option Addr) (sl : Array (Option Value)) (u : Tok) :
    Meets (Builtin.«tuple.__mul__» ⟨[.ref l, .int 1 u], []⟩) (fun _ R s => s.heap.get? l = some { cls := .type "tuple", dict := dd, data := .seq items n, slots := sl } ∧
      R (.ok (.ret (Value.ref l))) s) :=
  .of_wp fun prog w A R s h => by
    obtain ⟨hp, g, d, tk, os⟩ := s
    obtain ⟨hl, h⟩ := h
    have f1 := AutoSeq1.idx_int
    have c1 : (items.isEmpty || (1 : Int) == 1) = true := by simp
    wp_walk using wpAny_loadPart' hl
    exact ⟨_, rfl, h⟩
def rRepT1 (K : PySem.W.Frag) : R2 := fun x y H Q => ∃ l xs, x = .ref l ∧ y = .int 1 ∧ SqT K H l xs ∧ Q (.ref l) H
theorem op_repT1 {X : Cx} : OpR X (binaryOp .Mult) (rRepT1 X.K) := by
  intro pins s σ H x y v u Q I rx ry h
  obtain ⟨l, xs, rfl, rfl, hT, q⟩ := h
  cases rx
  obtain ⟨t, rfl⟩ := ry
  obtain ⟨its, r, ⟨⟨cls, dd, data, sl⟩, ho, hc, n, hd⟩, hs⟩ := I.tuple hT
  simp only at hc hd
  subst hc hd
  refine wpAny_binaryOp_repeat_ref (T := "tuple") (U := "int") (by decide) ⟨_, ho, rfl⟩ (fun s' => typeIs_int s' 1 t) noFill_tuple_mul PySem.F.fills_int_mul PySem.F.slot_int_rmul repeat_tuple PySem.F.slot_int_index.lookup
    (call_meets PySem.F.slot_int_rmul (typeIs_int s 1 t) PySem.F.entry_int_rmul (PySem.F.args_int_rmul_2 _ _) (int_rmul_tuple 1 t l its.toArray n dd sl)
      ⟨ho, rfl, ⟨_, ho, rfl⟩, call_meets PySem.F.slot_tuple_mul ⟨_, ho, rfl⟩ PySem.F.entry_tuple_mul (PySem.F.args_tuple_mul_2 _ _) (tuple_mul1 l its.toArray n dd sl t) ⟨ho, ?_⟩⟩)
  exact ⟨.ref l, _, I, rfl, q⟩
end MP

end
section
set_option Elab.async false
set_option linter.all false
set_option maxRecDepth 100000
set_option maxHeartbeats 1000000
/-! MP, third part: operators and built-ins over represented values. -/
namespace MP
open PySem PySem.Spec L2
theorem PEimp {X : Cx} {e : Expr} {t t' : TE} (h : PE X e t) (f : ∀ σ H Q, t' σ H Q → t σ H Q) : PE X e t' := ⟨fun pins s σ H Q I q => h.run pins s σ H Q I (f _ _ _ q)⟩
theorem PTimp {X : Cx} {e : Expr} {t t' : TT} (h : PT X e t) (f : ∀ σ H Q, t' σ H Q → t σ H Q) : PT X e t' := ⟨fun pins s σ H Q I q => h.run pins s σ H Q I (f _ _ _ q)⟩
theorem PAimp {X : Cx} {es : List Expr} {t t' : TA} (h : PA X es t) (f : ∀ σ H Q, t' σ H Q → t σ H Q) : PA X es t' := ⟨fun pos pins s σ H Q I q => h.run pos pins s σ H Q I (f _ _ _ q)⟩
theorem PKimp {X : Cx} {es : List Keyword} {t t' : TA} (h : PK X es t) (f : ∀ σ H Q, t' σ H Q → t σ H Q) : PK X es t' := ⟨fun pos pins s σ H Q I q => h.run pos pins s σ H Q I (f _ _ _ q)⟩
theorem PGimp {X : Cx} {e : Expr} {t t' : TG} (h : PG X e t) (f : ∀ v σ H Q, t' v σ H Q → t v σ H Q) : PG X e t' := ⟨fun pins s σ H v u Q I r q => h.run pins s σ H v u Q I r (f _ _ _ _ q)⟩
theorem PGsimp {X : Cx} {e : List Expr} {t t' : TGs} (h : PGs X e t) (f : ∀ v σ H Q, t' v σ H Q → t v σ H Q) : PGs X e t' := ⟨fun pins s σ H v u Q I r q => h.run pins s σ H v u Q I r (f _ _ _ _ q)⟩
theorem PIimp {X : Cx} {tg e : Expr} {t t' : TI} (h : PI X tg e t) (f : ∀ σ H R, t' σ H R → t σ H R) : PI X tg e t' := ⟨fun pins s σ H R I q => h.run pins s σ H R I (f _ _ _ q)⟩
theorem PSimp {X : Cx} {e : Stmt} {t t' : TS} (h : PS X e t) (f : ∀ D σ H, t' D σ H → t D σ H) : PS X e t' := ⟨fun pins s σ H D I q => h.run pins s σ H D I (f _ _ _ q)⟩
theorem PSsimp {X : Cx} {e : List Stmt} {t t' : TS} (h : PSs X e t) (f : ∀ D σ H, t' D σ H → t D σ H) : PSs X e t' := ⟨fun pins s σ H D I q => h.run pins s σ H D I (f _ _ _ q)⟩
theorem PTsimp {X : Cx} {e : List Expr} {t t' : TT} (h : PTs X e t) (f : ∀ σ H Q, t' σ H Q → t σ H Q) : PTs X e t' := ⟨fun pins s σ H Q I q => h.run pins s σ H Q I (f _ _ _ q)⟩
theorem POimp {X : Cx} {e : Option Expr} {t t' : TO} (h : PO X e t) (f : ∀ σ H Q, t' σ H Q → t σ H Q) : PO X e t' := ⟨fun pins s σ H Q I q => h.run pins s σ H Q I (f _ _ _ q)⟩

/-- what stands when something has been reckoned, in a region that began at b -/
structure After (K : PySem.W.Frag) (φ φ' : List Addr) (H H' : Hp) (st st' : Sto) (b : Nat) : Prop where
  pre : φ <+: φ'
  tp : Tp K H H'
  hr : HR K φ' st' H'
  gr : Gr b st st'
/-- what stands ahead -/
structure At (K : PySem.W.Frag) (b : Nat) (φ : List Addr) (σ : Sl) (st : Sto) (H : Hp) (σv : St) : Prop where
  hr : HR K φ st H
  es : ES K φ H σ σv
  hb : b ≤ st.length
section
variable {K : PySem.W.Frag} {φ φ1 φ2 : List Addr} {H H1 H2 : Hp} {st st1 st2 : Sto} {b : Nat} {σ : Sl} {σv : St}
theorem After.refl (h : HR K φ st H) : After K φ φ H H st st b := ⟨List.prefix_refl _, Tp.refl _, h, Gr.refl _ _⟩
theorem After.trans (x : After K φ φ1 H H1 st st1 b) (y : After K φ1 φ2 H1 H2 st1 st2 b) : After K φ φ2 H H2 st st2 b :=
  ⟨x.pre.trans y.pre, x.tp.trans y.tp, y.hr, x.gr.trans y.gr⟩
theorem After.at_ (a : At K b φ σ st H σv) (x : After K φ φ1 H H1 st st1 b) : At K b φ1 σ st1 H1 σv := ⟨x.hr, a.es.mono x.pre x.tp, Nat.le_trans a.hb x.gr.len⟩
theorem After.rv {x : PV} {v : V} (a : After K φ φ1 H H1 st st1 b) (r : RV K φ H x v) : RV K φ1 H1 x v := r.mono a.pre a.tp
theorem After.rvs {x : List PV} {v : List V} (a : After K φ φ1 H H1 st st1 b) (r : RVs K φ H x v) : RVs K φ1 H1 x v := r.mono a.pre a.tp
theorem rv_ref {n : Nat} {a : Addr} (e : φ[n]? = some a) : RV K φ H (.ref n) (.ref a) := by unfold RV; exact ⟨a, e, rfl⟩
theorem rv_tup {xs : List PV} {vs : List V} {a : Addr} (q : SqT K H a vs) (r : RVs K φ H xs vs) : RV K φ H (.tup xs) (.ref a) := by unfold RV; exact ⟨a, vs, rfl, q, r⟩
theorem rv_int (i : Int) : RV K φ H (.int i) (.int i) := by unfold RV; rfl
theorem rv_bl (i : Bool) : RV K φ H (.bl i) (.bl i) := by unfold RV; rfl
theorem rv_non : RV K φ H .non .non := by unfold RV; rfl
theorem rv_str (i : Str) : RV K φ H (.str i) (.str i) := by unfold RV; rfl
theorem RV.int {i : Int} {v : V} (h : RV K φ H (.int i) v) : v = .int i := by unfold RV at h; exact h
theorem RV.bl {i : Bool} {v : V} (h : RV K φ H (.bl i) v) : v = .bl i := by unfold RV at h; exact h
theorem RV.str {i : Str} {v : V} (h : RV K φ H (.str i) v) : v = .str i := by unfold RV at h; exact h
theorem RV.non {v : V} (h : RV K φ H .non v) : v = .non := by unfold RV at h; exact h
theorem RV.tup {xs : List PV} {v : V} (h : RV K φ H (.tup xs) v) : ∃ a vs, v = .ref a ∧ SqT K H a vs ∧ RVs K φ H xs vs := by unfold RV at h; exact h
theorem RV.ref {n : Nat} {v : V} (h : RV K φ H (.ref n) v) : ∃ a, φ[n]? = some a ∧ v = .ref a := by unfold RV at h; exact h
/-- a new object -/
theorem After.add {p : Addr} {u : HO} {o : SO} (h : HR K φ st H) (hb : b ≤ st.length) (hp : H p = none) (ho : SOk K (φ ++ [p]) (upd H p u) p o) :
    After K φ (φ ++ [p]) H (upd H p u) st (st ++ [o]) b ∧ RV K (φ ++ [p]) (upd H p u) (.ref st.length) (.ref p) :=
  ⟨⟨pre_one, Tp.new hp, h.add hp ho, Gr.new hb⟩, rv_ref (by rw [← h.len, List.getElem?_append_right (Nat.le_refl _), Nat.sub_self]; rfl)⟩
theorem After.lst {p : Addr} {xs : List PV} {vs : List V} (h : HR K φ st H) (hb : b ≤ st.length) (hp : H p = none) (r : RVs K φ H xs vs) :
    After K φ (φ ++ [p]) H (upd H p (.lst vs)) st (st ++ [.lst xs]) b ∧ RV K (φ ++ [p]) (upd H p (.lst vs)) (.ref st.length) (.ref p) :=
  After.add h hb hp ⟨vs, upd_same, r.mono pre_one (Tp.new hp)⟩
theorem After.tup {p : Addr} {xs : List PV} {vs : List V} (h : HR K φ st H) (hp : H p = none) (r : RVs K φ H xs vs) :
    After K φ φ H (upd H p (.tup vs)) st st b ∧ RV K φ (upd H p (.tup vs)) (.tup xs) (.ref p) :=
  ⟨⟨List.prefix_refl _, Tp.new hp, h.same (Tp.new hp) (upd_new hp), Gr.refl _ _⟩, rv_tup (.inl (.inl upd_same)) (r.mono (List.prefix_refl _) (Tp.new hp))⟩
/-- a list of ours is written -/
theorem After.put {n : Nat} {a : Addr} {xs ys : List PV} {us vs : List V} (h : HR K φ st H) (ea : φ[n]? = some a) (en : st[n]? = some (.lst xs)) (eh : H a = some (.lst us)) (r : RVs K φ H ys vs)
    (hg : b ≤ n ∨ ∀ m, PV.ltA m xs = true → PV.ltA m ys = true) : After K φ φ H (upd H a (.lst vs)) st (st.set n (.lst ys)) b :=
  ⟨List.prefix_refl _, Tp.put eh, h.put ea en eh r, Gr.put (hg.imp id fun q m c => q m (c _ en))⟩
/-- what a place holds -/
theorem HR.lst (h : HR K φ st H) {n : Nat} {xs : List PV} {v : V} (e : st[n]? = some (.lst xs)) (r : RV K φ H (.ref n) v) : ∃ a vs, v = .ref a ∧ φ[n]? = some a ∧ H a = some (.lst vs) ∧ RVs K φ H xs vs := by
  obtain ⟨a, ea, rfl⟩ := r.ref
  obtain ⟨vs, eh, rr⟩ := h.ok n a _ ea e
  exact ⟨a, vs, rfl, ea, eh, rr⟩
theorem HR.fzl (h : HR K φ st H) {n : Nat} {xs : List PV} {v : V} (e : st[n]? = some (.fzl xs)) (r : RV K φ H (.ref n) v) : ∃ a vs, v = .ref a ∧ φ[n]? = some a ∧ ((∃ o, H a = some (.frz o (.lst vs))) ∨ ∀ H', SqL K H' a vs) ∧ RVs K φ H xs vs := by
  obtain ⟨a, ea, rfl⟩ := r.ref
  obtain ⟨vs, eh, rr⟩ := h.ok n a _ ea e
  exact ⟨a, vs, rfl, ea, eh, rr⟩
/-- what is walked, indexed, counted: a list or a tuple to be read -/
theorem HR.seq (h : HR K φ st H) {x : PV} {xs : List PV} {v : V} (e : seqOf x st = some xs) (r : RV K φ H x v) : ∃ a vs, v = .ref a ∧ (SqL K H a vs ∨ SqT K H a vs) ∧ RVs K φ H xs vs := by
  unfold seqOf items at e
  cases x with
  | tup ys =>
    cases e
    obtain ⟨a, vs, rfl, q, rr⟩ := r.tup
    exact ⟨a, vs, rfl, .inr q, rr⟩
  | ref n =>
    cases q : st[n]? with
    | none => simp [q] at e
    | some o =>
      cases o with
      | lst ys =>
        simp [q] at e; subst e
        obtain ⟨a, vs, rfl, _, eh, rr⟩ := h.lst q r
        exact ⟨a, vs, rfl, .inl (.inl (.inl eh)), rr⟩
      | fzl ys =>
        simp [q] at e; subst e
        obtain ⟨a, vs, rfl, _, eh, rr⟩ := h.fzl q r
        refine ⟨a, vs, rfl, .inl ?_, rr⟩
        rcases eh with ⟨o, eh⟩ | eh
        · exact .inl (.inr ⟨o, eh⟩)
        · exact eh H
      | dct ys => simp [q] at e
  | non => simp at e
  | bl _ => simp at e
  | int _ => simp at e
  | str _ => simp at e
end
theorem most_le {n : Nat} (h : n ≤ most) : n ≤ sizeLine := Nat.le_trans h (by decide)
theorem most_lt {n : Nat} (h : n < most) : n < sizeLine := Nat.lt_of_lt_of_le h (by decide)

/-! ### two-place operators -/
def rBin (K : PySem.W.Frag) (o : Op) : R2 := fun x y H Q => ∃ b φ st p q r st', HR K φ st H ∧ b ≤ st.length ∧ RV K φ H p x ∧ RV K φ H q y ∧ binop o p q st = some (r, st') ∧
  ∀ φ' v H', After K φ φ' H H' st st' b → RV K φ' H' r v → Q v H'
def opOf : Op → Operator
  | .add => .Add | .sub => .Sub | .mul => .Mult | .fdiv => .FloorDiv | .mod => .Mod | .pow => .Pow
theorem OpR.imp {X : Cx} {f : Value → Value → Sem Value} {r r' : R2} (h : OpR X f r) (i : ∀ x y H Q, r' x y H Q → r x y H Q) : OpR X f r' :=
  fun pins s σ H x y v u Q I rx ry q => h pins s σ H x y v u Q I rx ry (i _ _ _ _ q)
/-- by cases on the left and right value -/
theorem OpR.by {X : Cx} {f : Value → Value → Sem Value} {r' : R2} (h : ∀ x y H Q, r' x y H Q → ∃ r, OpR X f r ∧ r x y H Q) : OpR X f r' :=
  fun pins s σ H x y v u Q I rx ry q => let ⟨r, a, c⟩ := h x y H Q q; a pins s σ H x y v u Q I rx ry c
theorem op_bin {X : Cx} (o : Op) : OpR X (binaryOp (opOf o)) (rBin X.K o) := by
  refine OpR.by fun x y H Q ⟨b, φ, st, p, q, r, st', h, hb, rp, rq, e, k⟩ => ?_
  have done : ∀ {z : PV} {v : V}, some (z, st) = some (r, st') → RV X.K φ H z v → Q v H := fun e r' => by
    cases e; exact k φ _ H (After.refl h) r'
  cases p <;> cases q <;> cases o <;> try (simp [binop] at e; done)
  case int.int.add i j _ => rw [rp.int, rq.int]; exact ⟨_, op_add, _, _, rfl, rfl, done e (rv_int _)⟩
  case int.int.sub i j _ => rw [rp.int, rq.int]; exact ⟨_, op_sub, _, _, rfl, rfl, done e (rv_int _)⟩
  case int.int.mul i j _ =>
    rw [rp.int, rq.int]
    simp only [binop] at e
    split at e
    · rename_i c; exact ⟨_, op_mulW, _, _, rfl, rfl, c, done e (rv_int _)⟩
    · cases e
  case int.int.fdiv i j _ =>
    rw [rp.int, rq.int]
    simp only [binop] at e
    split at e
    · rename_i c; exact ⟨_, op_fdivW, _, _, rfl, rfl, c, done e (rv_int _)⟩
    · cases e
  case int.int.mod i j _ =>
    rw [rp.int, rq.int]
    simp only [binop] at e
    split at e
    · rename_i c; exact ⟨_, op_modN, _, _, rfl, rfl, c, done e (rv_int _)⟩
    · cases e
  case int.int.pow i j _ =>
    rw [rp.int, rq.int]
    simp only [binop] at e
    split at e
    · rename_i c; exact ⟨_, op_pow, _, _, rfl, rfl, c, done e (rv_int _)⟩
    · cases e
  case tup.tup.add xs ys _ =>
    simp only [binop] at e
    split at e
    · rename_i c
      cases e
      obtain ⟨a, vs, rfl, q1, r1⟩ := rp.tup
      obtain ⟨a2, us, rfl, q2, r2⟩ := rq.tup
      refine ⟨_, op_catA, a, a2, vs, us, rfl, rfl, q1, q2, ?_, fun z => ?_, fun _ z => ?_, fun _ _ l hl => ?_⟩
      · rw [r1.length, r2.length]; have := c.1; have := c.2; have : most + most ≤ sizeLine := by decide
        omega
      · have : xs = [] := by have := r1.length; rw [z] at this; exact List.eq_nil_of_length_eq_zero this.symm
        subst this
        exact k φ _ H (After.refl h) (rv_tup q2 r2)
      · have : ys = [] := by have := r2.length; rw [z] at this; exact List.eq_nil_of_length_eq_zero this.symm
        subst this
        rw [List.append_nil] at k
        exact k φ _ H (After.refl h) (rv_tup q1 r1)
      · obtain ⟨a, c⟩ := After.tup (b := b) h hl (r1.append r2)
        exact k _ _ _ a c
    · cases e
  case tup.int.mul xs i _ =>
    simp only [binop] at e
    split at e
    · rename_i c
      cases e
      rw [rq.int]
      obtain ⟨a, vs, rfl, q1, r1⟩ := rp.tup
      by_cases k1 : i = 1
      · subst k1
        refine ⟨_, op_repT1, a, vs, rfl, rfl, q1, ?_⟩
        have e1 : (List.replicate (1 : Int).toNat xs).flatten = xs := by simp
        rw [e1] at k
        exact k φ _ H (After.refl h) (rv_tup q1 r1)
      refine ⟨_, op_repT, a, i, vs, rfl, rfl, q1, fun z => c.1 ?_, by have := c.2.1; omega, c.2.2.1, by rw [r1.length]; exact c.2.2.2, fun l hl => ?_⟩
      · have := r1.length; rw [z] at this; exact List.eq_nil_of_length_eq_zero this.symm
      · obtain ⟨a, c⟩ := After.tup (b := b) h hl (r1.flat i.toNat)
        exact k _ _ _ a c
    · cases e
  case ref.ref.add n m _ =>
    simp only [binop] at e
    split at e
    · rename_i xs ys e1 e2
      split at e
      · rename_i c
        cases e
        obtain ⟨a, vs, rfl, _, q1, r1⟩ := h.lst e1 rp
        obtain ⟨a2, us, rfl, _, q2, r2⟩ := h.lst e2 rq
        refine ⟨_, op_cat, a, a2, vs, us, rfl, rfl, q1, q2, ?_, fun l hl => ?_⟩
        · rw [r1.length, r2.length]; have := c.1; have := c.2; have : most + most ≤ sizeLine := by decide
          omega
        · obtain ⟨a, c⟩ := After.lst (b := b) h hb hl (r1.append r2)
          exact k _ _ _ a c
      · cases e
    · cases e
  case ref.int.mul n i _ =>
    simp only [binop] at e
    split at e
    · rename_i xs e1
      split at e
      · rename_i c
        cases e
        rw [rq.int]
        obtain ⟨a, vs, rfl, _, q1, r1⟩ := h.lst e1 rp
        refine ⟨_, op_rep, a, i, vs, rfl, rfl, q1, by omega, by omega, ?_, fun l hl => ?_⟩
        · rw [r1.length]; exact most_le c.1
        · obtain ⟨a, c⟩ := After.lst (b := b) h hb hl (r1.flat i.toNat)
          exact k _ _ _ a c
      · cases e
    · cases e

/-! ### comparisons -/
def cmOf : Cm → CmpOp
  | .eq => .Eq | .ne => .NotEq | .lt => .Lt | .le => .LtE | .gt => .Gt | .ge => .GtE | .isN => .Is | .notN => .IsNot
def rCmp (K : PySem.W.Frag) (o : Cm) : R2 := fun x y H Q => ∃ φ st p q c, HR K φ st H ∧ RV K φ H p x ∧ RV K φ H q y ∧ cmpop o p q st = some c ∧ Q (.bl c) H
mutual
theorem toD_dp {K : PySem.W.Frag} {φ : List Addr} {st : Sto} {H : Hp} (h : HR K φ st H) : ∀ {k : Nat} {x : PV} {v : V} {d : PyData}, toD st k x = some d → d.canLay0 = true → RV K φ H x v → Dp K H v d
  | 0, _, _, _, e, _, _ => by simp [toD] at e
  | k + 1, .non, v, d, e, _, r => by simp only [toD] at e; cases e; rw [r.non]; exact .non
  | k + 1, .bl b, v, d, e, _, r => by simp only [toD] at e; cases e; rw [r.bl]; exact .bl b
  | k + 1, .int i, v, d, e, _, r => by simp only [toD] at e; cases e; rw [r.int]; exact .int i
  | k + 1, .str s, v, d, e, _, r => by simp only [toD] at e; cases e; rw [r.str]; exact .str s
  | k + 1, .tup xs, v, d, e, l, r => by
    simp only [toD, Option.map_eq_some_iff] at e
    obtain ⟨ds, e, rfl⟩ := e
    obtain ⟨a, vs, rfl, q, rr⟩ := r.tup
    simp only [PyData.canLay0] at l
    exact .tup q (toD_dpA h e l rr)
  | k + 1, .ref n, v, d, e, l, r => by
    simp only [toD] at e
    split at e
    · rename_i xs e1
      rw [Option.map_eq_some_iff] at e
      obtain ⟨ds, e, rfl⟩ := e
      obtain ⟨a, vs, rfl, _, q, rr⟩ := h.lst e1 r
      simp only [PyData.canLay0] at l
      exact .lst (.inl (.inl q)) (toD_dpA h e l rr)
    · rename_i xs e1
      rw [Option.map_eq_some_iff] at e
      obtain ⟨ds, e, rfl⟩ := e
      obtain ⟨a, vs, rfl, _, q, rr⟩ := h.fzl e1 r
      simp only [PyData.canLay0] at l
      refine .lst ?_ (toD_dpA h e l rr)
      rcases q with ⟨o, q⟩ | q
      · exact .inl (.inr ⟨o, q⟩)
      · exact q H
    · cases e; simp [PyData.canLay0] at l
    · cases e
theorem toD_dpA {K : PySem.W.Frag} {φ : List Addr} {st : Sto} {H : Hp} (h : HR K φ st H) : ∀ {k : Nat} {xs : List PV} {vs : List V} {ds : List PyData}, xs.mapM (toD st k) = some ds → PyData.canLayAll0 ds = true → RVs K φ H xs vs → DpAll K H vs ds
  | k, [], vs, ds, e, _, r => by
    rw [List.mapM_nil] at e
    cases e
    rw [r.nil_inv]; exact .nil
  | k, x :: xs, vs, ds, e, l, r => by
    rw [List.mapM_cons] at e
    obtain ⟨v, ws, rfl, rx, rr⟩ := r.cons_inv
    cases e1 : toD st k x with
    | none => rw [e1] at e; cases e
    | some d =>
      rw [e1] at e
      cases e2 : xs.mapM (toD st k) with
      | none => rw [e2] at e; cases e
      | some ds' =>
        rw [e2] at e
        cases e
        simp only [PyData.canLayAll0, Bool.and_eq_true] at l
        exact .cons (toD_dp h e1 l.1 rx) (toD_dpA h e2 l.2 rr)
end

theorem ints_vs {K : PySem.W.Frag} {φ : List Addr} {H : Hp} : ∀ {xs : List PV} {ns : List Int} {vs : List V}, ints? xs = some ns → RVs K φ H xs vs → vs = ns.map V.int
  | [], ns, vs, e, r => by cases e; exact r.nil_inv
  | x :: xs, ns, vs, e, r => by
    obtain ⟨v, ws, rfl, rx, rr⟩ := r.cons_inv
    cases x with
    | int i =>
      simp only [ints?, Option.map_eq_some_iff] at e
      obtain ⟨ms, e, rfl⟩ := e
      rw [rx.int, ints_vs e rr]; rfl
    | non => simp [ints?] at e
    | bl _ => simp [ints?] at e
    | str _ => simp [ints?] at e
    | tup _ => simp [ints?] at e
    | ref _ => simp [ints?] at e
theorem isNon_of {K : PySem.W.Frag} {φ : List Addr} {H : Hp} {x : PV} {v : V} (r : RV K φ H x v) : decide (v = V.non) = isNon x := by
  cases x with
  | non => rw [r.non]; rfl
  | bl b => rw [r.bl]; rfl
  | int b => rw [r.int]; rfl
  | str b => rw [r.str]; rfl
  | tup xs => obtain ⟨a, vs, rfl, _⟩ := r.tup; rfl
  | ref n => obtain ⟨a, _, rfl⟩ := r.ref; rfl
/-- () < t, t not empty -/
theorem op_lt0 {X : Cx} (hu : X.A.units < cLine) : OpR X (compareOp .Lt) (fun x y H Q => ∃ a b z zs, x = .ref a ∧ y = .ref b ∧ SqT X.K H a [] ∧ SqT X.K H b (z :: zs) ∧ Q (.bl true) H) := by
  intro pins s σ H x y v u Q I rx ry h
  obtain ⟨a, b, z, zs, rfl, rfl, ha, hb, q⟩ := h
  cases rx
  cases ry
  obtain ⟨its, r1, p1, _⟩ := I.tuple ha
  obtain ⟨its2, r2, p2, _⟩ := I.tuple hb
  have e1 : its = [] := by have := r1.length; exact List.eq_nil_of_length_eq_zero this.symm
  subst e1
  have key := PySem.SeqAt.RcLt.tuples (A := X.A) (s := s) (items := (#[] : Array Value)) (items2 := its2.toArray) (e := fun _ => true) (r := fun _ => true) p1 p2 hu (fun j h1 _ => absurd h1 (Nat.not_lt_zero _)) (fun j h1 _ => absurd h1 (Nat.not_lt_zero _))
  have e2 : PySem.SeqAt.firstLt (fun _ => true) (fun _ => true) (decide ((#[] : Array Value).size < its2.toArray.size)) (List.range (min (#[] : Array Value).size its2.toArray.size)) = true := by
    have l2 := r2.length
    have : min (#[] : Array Value).size its2.toArray.size = 0 := by simp
    rw [this]
    show decide _ = true
    refine decide_eq_true ?_
    simp only [List.size_toArray, List.length_nil]
    rw [← l2]; exact Nat.succ_pos _
  rw [e2] at key
  exact key X.prog X.w X.xe _ ⟨.bl true, H, I, rfl, q⟩
theorem op_cmp {X : Cx} (hu : X.A.units + 64 < cLine) (o : Cm) : OpR X (compareOp (cmOf o)) (rCmp X.K o) := by
  refine OpR.by fun x y H Q ⟨φ, st, p, q, c, h, rp, rq, e, k⟩ => ?_
  have lt1 : X.A.units < cLine := by omega
  have eqD : ∀ {d d' : PyData}, (SeqAt.shaped d && SeqAt.shaped d') = true → toD st deep p = some d → toD st deep q = some d' → Dp X.K H x d ∧ Dp X.K H y d' ∧ SeqAt.shaped d = true ∧ SeqAt.shaped d' = true := fun c e1 e2 => by
    rw [Bool.and_eq_true] at c
    exact ⟨toD_dp h e1 (SeqAt.canLay_of_shaped c.1) rp, toD_dp h e2 (SeqAt.canLay_of_shaped c.2) rq, c.1, c.2⟩
  cases o with
  | eq =>
    simp only [cmpop] at e
    split at e
    · rename_i a a'
      cases e
      unfold RV at rp rq
      subst rp; subst rq
      refine ⟨_, op_eq, rfl, ?_⟩
      have de : decide (V.str a = V.str a') = decide (a = a') := by simp
      rw [de]
      exact k
    · split at e
      · rename_i d d' e1 e2
        split at e
        · rename_i cc
          cases e
          obtain ⟨a1, a2, a3, a4⟩ := eqD cc e1 e2
          exact ⟨_, op_eqD hu, d, d', a1, a2, a3, a4, k⟩
        · cases e
      · cases e
  | ne =>
    simp only [cmpop] at e
    split at e
    · rename_i a a'
      cases e
      unfold RV at rp rq
      subst rp; subst rq
      refine ⟨_, op_ne, rfl, ?_⟩
      have de : decide (V.str a = V.str a') = decide (a = a') := by simp
      rw [de]
      exact k
    · split at e
      · rename_i d d' e1 e2
        split at e
        · rename_i cc
          cases e
          obtain ⟨a1, a2, a3, a4⟩ := eqD cc e1 e2
          exact ⟨_, op_neD hu, d, d', a1, a2, a3, a4, k⟩
        · cases e
      · cases e
  | isN =>
    cases q <;> simp [cmpop] at e
    subst e
    exact ⟨_, op_isN, rq.non, by rw [isNon_of rp]; exact k⟩
  | notN =>
    have e' : c = !isNon p := by
      cases q <;> simp only [cmpop] at e <;> cases e
      rfl
    have rq' : y = V.non := by
      cases q <;> simp only [cmpop] at e <;> first | exact rq.non | cases e
    subst e'
    exact ⟨_, op_notN, rq', by rw [isNon_of rp]; exact k⟩
  | le =>
    cases p <;> cases q <;> simp [cmpop] at e
    subst e
    rw [rp.int, rq.int]
    exact ⟨_, op_le, _, _, rfl, rfl, k⟩
  | gt =>
    cases p <;> cases q <;> simp [cmpop] at e
    subst e
    rw [rp.int, rq.int]
    exact ⟨_, op_gt, _, _, rfl, rfl, k⟩
  | ge =>
    cases p <;> cases q <;> simp [cmpop] at e
    subst e
    rw [rp.int, rq.int]
    exact ⟨_, op_ge, _, _, rfl, rfl, k⟩
  | lt =>
    simp only [cmpop] at e
    split at e
    · cases e
      rw [rp.int, rq.int]
      exact ⟨_, op_lt, _, _, rfl, rfl, k⟩
    · rename_i z zs
      cases e
      obtain ⟨a, vs, rfl, q1, r1⟩ := rp.tup
      obtain ⟨a2, us, rfl, q2, r2⟩ := rq.tup
      rw [r1.nil_inv] at q1
      obtain ⟨u, ws, rfl, _, _⟩ := r2.cons_inv
      exact ⟨_, op_lt0 lt1, a, a2, u, ws, rfl, rfl, q1, q2, k⟩
    · split at e
      · rename_i ns ms e1 e2
        cases e
        obtain ⟨a, vs, rfl, q1, r1⟩ := rp.tup
        obtain ⟨a2, us, rfl, q2, r2⟩ := rq.tup
        rw [ints_vs e1 r1] at q1
        rw [ints_vs e2 r2] at q2
        exact ⟨_, op_ltT lt1, a, a2, ns, ms, rfl, rfl, q1, q2, k⟩
      · cases e
    · cases e

/-! ### an item, a slice -/
theorem atI_rvs {K : PySem.W.Frag} {φ : List Addr} {H : Hp} {xs : List PV} {vs : List V} {i : Int} {x : PV} (r : RVs K φ H xs vs) (e : atI xs i = some x) : ∃ v, atI vs i = some v ∧ RV K φ H x v := by
  unfold atI at e ⊢
  rw [r.length]
  cases h : ixN xs.length i with
  | none => rw [h] at e; cases e
  | some j =>
    rw [h] at e
    exact r.get e
def rIdx (K : PySem.W.Frag) : R2 := fun x y H Q => ∃ φ st p i xs r, HR K φ st H ∧ RV K φ H p x ∧ y = .int i ∧ seqOf p st = some xs ∧ atI xs i = some r ∧ ∀ v, RV K φ H r v → Q v H
theorem ix_idx {X : Cx} : IxR X (rIdx X.K) := by
  intro value slice pins s σ H x y v u Q I rx ry q hs
  obtain ⟨φ, st, p, i, xs, r, h, rp, rfl, e, e2, k⟩ := q
  obtain ⟨a, vs, rfl, w, rr⟩ := h.seq e rp
  obtain ⟨z, ez, rz⟩ := atI_rvs rr e2
  rcases w with w | w
  · exact ix_list value slice pins s σ H _ _ v u Q I rx ry ⟨a, vs, i, z, rfl, rfl, w, ez, k z rz⟩ hs
  · exact ix_tup value slice pins s σ H _ _ v u Q I rx ry ⟨a, vs, i, z, rfl, rfl, w, ez, k z rz⟩ hs
def rCut (K : PySem.W.Frag) : V → Option Int → Option Int → Hp → VK → Prop := fun x lo hi H Q => ∃ b φ st p r st', HR K φ st H ∧ b ≤ st.length ∧ RV K φ H p x ∧
  slOp p lo hi st = some (r, st') ∧ ∀ φ' v H', After K φ φ' H H' st st' b → RV K φ' H' r v → Q v H'
theorem sl_cut {X : Cx} : SlR X (rCut X.K) := by
  intro pins s σ H x v vl vu lo hi sl Q I rx hs pl pu ⟨b, φ, st, p, r, st', h, hb, rp, e, k⟩
  unfold slOp at e
  cases p with
  | tup xs =>
    cases e
    obtain ⟨a, vs, rfl, q, rr⟩ := rp.tup
    refine sl_tupA pins s σ H _ v vl vu lo hi sl Q I rx hs pl pu ⟨a, vs, rfl, q, fun w => ?_, fun _ l hl => ?_⟩
    · have e2 : cut xs lo hi = xs := by
        unfold cut
        rw [rr.length] at w
        rw [w.1, w.2, List.drop_zero, Nat.sub_zero, List.take_length]
      rw [e2] at k
      exact k φ _ H (After.refl h) (rv_tup q rr)
    · obtain ⟨a, c⟩ := After.tup (b := b) h hl (rr.cut lo hi)
      exact k _ _ _ a c
  | ref n =>
    simp only at e
    split at e
    · rename_i xs e1
      cases e
      obtain ⟨a, vs, rfl, _, q, rr⟩ := h.lst e1 rp
      refine sl_list pins s σ H _ v vl vu lo hi sl Q I rx hs pl pu ⟨a, vs, rfl, .inl (.inl q), fun l hl => ?_⟩
      obtain ⟨a, c⟩ := After.lst (b := b) h hb hl (rr.cut lo hi)
      exact k _ _ _ a c
    · cases e
  | non => cases e
  | bl _ => cases e
  | int _ => cases e
  | str _ => cases e

/-! ### built-ins -/
def rB (K : PySem.W.Frag) (f : Bl) : List V → Hp → VK → Prop := fun vs H Q => ∃ b φ st ps r st', HR K φ st H ∧ b ≤ st.length ∧ RVs K φ H ps vs ∧ blt f ps st = some (r, st') ∧
  ∀ φ' v H', After K φ φ' H H' st st' b → RV K φ' H' r v → Q v H'
theorem CallR.by {X : Cx} {f : Value} {r' : List V → Hp → VK → Prop} (h : ∀ xs H Q, r' xs H Q → ∃ r, CallR X f r ∧ r xs H Q) : CallR X f r' :=
  fun pins s σ H xs us Q I rx q => let ⟨r, a, c⟩ := h xs H Q q; a pins s σ H xs us Q I rx c
section
variable {K : PySem.W.Frag} {φ : List Addr} {H : Hp}
theorem one_arg {p : PV} {vs : List V} (r : RVs K φ H [p] vs) : ∃ v, vs = [v] ∧ RV K φ H p v := by
  obtain ⟨v, ws, rfl, a, c⟩ := r.cons_inv
  exact ⟨v, by rw [c.nil_inv], a⟩
theorem two_args {p q : PV} {vs : List V} (r : RVs K φ H [p, q] vs) : ∃ v u, vs = [v, u] ∧ RV K φ H p v ∧ RV K φ H q u := by
  obtain ⟨v, ws, rfl, a, c⟩ := r.cons_inv
  obtain ⟨u, rfl, d⟩ := one_arg c
  exact ⟨v, u, rfl, a, d⟩
theorem bools_vs : ∀ {xs : List PV} {bs : List Bool} {vs : List V}, bools? xs = some bs → RVs K φ H xs vs → vs = bs.map V.bl
  | [], ns, vs, e, r => by cases e; exact r.nil_inv
  | x :: xs, ns, vs, e, r => by
    obtain ⟨v, ws, rfl, rx, rr⟩ := r.cons_inv
    cases x with
    | bl i =>
      simp only [bools?, Option.map_eq_some_iff] at e
      obtain ⟨ms, e, rfl⟩ := e
      rw [rx.bl, bools_vs e rr]; rfl
    | non => simp [bools?] at e
    | int _ => simp [bools?] at e
    | str _ => simp [bools?] at e
    | tup _ => simp [bools?] at e
    | ref _ => simp [bools?] at e
end
theorem cb_len {X : Cx} : CallR X (.builtin "len") (rB X.K .len) := CallR.by fun xs H Q ⟨b, φ, st, ps, r, st', h, hb, rp, e, k⟩ => by
  match ps, e with
  | [p], e =>
    simp only [blt, Option.bind_eq_some_iff] at e
    obtain ⟨ys, e1, e2⟩ := e
    cases e2
    obtain ⟨v, rfl, rv⟩ := one_arg rp
    obtain ⟨a, vs, rfl, w, rr⟩ := h.seq e1 rv
    refine ⟨_, call_len, _, ys.length, rfl, ?_, k φ _ H (After.refl h) (rv_int _)⟩
    rcases w with w | w
    · exact .inl ⟨vs, w, rr.length.symm⟩
    · exact .inr ⟨vs, w, rr.length.symm⟩
theorem cb_abs {X : Cx} : CallR X (.builtin "abs") (rB X.K .abs) := CallR.by fun xs H Q ⟨b, φ, st, ps, r, st', h, hb, rp, e, k⟩ => by
  match ps, e with
  | [.int i], e =>
    simp only [blt] at e
    cases e
    obtain ⟨v, rfl, rv⟩ := one_arg rp
    rw [rv.int]
    exact ⟨_, call_abs, _, rfl, k φ _ H (After.refl h) (rv_int _)⟩
theorem cb_max {X : Cx} (hc : X.calm = true) : CallR X (.builtin "max") (rB X.K .max2) := CallR.by fun xs H Q ⟨b, φ, st, ps, r, st', h, hb, rp, e, k⟩ => by
  match ps, e with
  | [.int i, .int j], e =>
    simp only [blt] at e
    cases e
    obtain ⟨v, u, rfl, rv, ru⟩ := two_args rp
    rw [rv.int, ru.int]
    exact ⟨_, call_max2 hc, _, _, rfl, k φ _ H (After.refl h) (rv_int _)⟩
theorem cb_int {X : Cx} : CallR X (.type "int") (rB X.K .int1) := CallR.by fun xs H Q ⟨b, φ, st, ps, r, st', h, hb, rp, e, k⟩ => by
  match ps, e with
  | [.int i], e =>
    simp only [blt] at e
    cases e
    obtain ⟨v, rfl, rv⟩ := one_arg rp
    rw [rv.int]
    exact ⟨_, call_int1, .inl ⟨_, rfl, k φ _ H (After.refl h) (rv_int _)⟩⟩
theorem cb_divmod {X : Cx} : CallR X (.builtin "divmod") (rB X.K .divmod) := CallR.by fun xs H Q ⟨b, φ, st, ps, r, st', h, hb, rp, e, k⟩ => by
  match ps, e with
  | [.int i, .int j], e =>
    simp only [blt] at e
    split at e
    · rename_i c
      cases e
      obtain ⟨v, u, rfl, rv, ru⟩ := two_args rp
      rw [rv.int, ru.int]
      refine ⟨_, call_divmodW, i, j, rfl, ⟨c.1, PyProof.noPylong_of_log2 c.2⟩, fun l hl => ?_⟩
      obtain ⟨a, c⟩ := After.tup (b := b) h hl (RVs.cons (rv_int (i / j)) (RVs.cons (rv_int (i % j)) RVs.nil))
      exact k _ _ _ a c
    · cases e
theorem cb_list {X : Cx} : CallR X (.type "list") (rB X.K .list1) := CallR.by fun xs H Q ⟨b, φ, st, ps, r, st', h, hb, rp, e, k⟩ => by
  match ps, e with
  | [p], e =>
    simp only [blt, Option.bind_eq_some_iff] at e
    obtain ⟨ys, e1, e2⟩ := e
    cases e2
    obtain ⟨v, rfl, rv⟩ := one_arg rp
    obtain ⟨a, vs, rfl, w, rr⟩ := h.seq e1 rv
    refine ⟨_, call_list_of, a, vs, rfl, w, fun l hl => ?_⟩
    obtain ⟨a, c⟩ := After.lst (b := b) h hb hl rr
    exact k _ _ _ a c
theorem cb_tuple {X : Cx} : CallR X (.type "tuple") (rB X.K .tuple1) := CallR.by fun xs H Q ⟨b, φ, st, ps, r, st', h, hb, rp, e, k⟩ => by
  match ps, e with
  | [p], e =>
    simp only [blt, Option.bind_eq_some_iff] at e
    obtain ⟨ys, e1, e2⟩ := e
    cases e2
    obtain ⟨v, rfl, rv⟩ := one_arg rp
    obtain ⟨a, vs, rfl, w, rr⟩ := h.seq e1 rv
    refine ⟨_, call_tuple_of, a, vs, rfl, ?_⟩
    rcases w with w | w
    · refine .inl ⟨w, fun l hl => ?_⟩
      obtain ⟨a, c⟩ := After.tup (b := b) h hl rr
      exact k _ _ _ a c
    · exact .inr ⟨w, k φ _ H (After.refl h) (rv_tup w rr)⟩
theorem cb_gcd {X : Cx} : CallR X (.builtin "math.gcd") (rB X.K .gcd) := CallR.by fun xs H Q ⟨b, φ, st, ps, r, st', h, hb, rp, e, k⟩ => by
  match ps, e with
  | [.int i, .int j], e =>
    simp only [blt] at e
    cases e
    obtain ⟨v, u, rfl, rv, ru⟩ := two_args rp
    rw [rv.int, ru.int]
    exact ⟨_, cr_gcd, _, _, rfl, k φ _ H (After.refl h) (rv_int _)⟩
theorem HR.lstOf {K : PySem.W.Frag} {φ : List Addr} {H : Hp} {st : Sto} (h : HR K φ st H) {x : PV} {xs : List PV} {v : V} (e : MP.lstOf x st = some xs) (r : RV K φ H x v) : ∃ a vs, v = .ref a ∧ SqL K H a vs ∧ RVs K φ H xs vs := by
  unfold MP.lstOf at e
  cases x with
  | ref n =>
    simp only at e
    split at e
    · rename_i ys e1
      cases e
      obtain ⟨a, vs, rfl, _, q, rr⟩ := h.lst e1 r
      exact ⟨a, vs, rfl, .inl (.inl q), rr⟩
    · cases e
  | non => cases e
  | bl _ => cases e
  | int _ => cases e
  | str _ => cases e
  | tup _ => cases e
theorem cb_all {X : Cx} (hc : X.calm = true) : CallR X (.builtin "all") (rB X.K .all1) := CallR.by fun xs H Q ⟨b, φ, st, ps, r, st', h, hb, rp, e, k⟩ => by
  match ps, e with
  | [p], e =>
    simp only [blt, Option.bind_eq_some_iff] at e
    obtain ⟨bs, ⟨ys, e1, e2⟩, e3⟩ := e
    cases e3
    obtain ⟨v, rfl, rv⟩ := one_arg rp
    obtain ⟨a, vs, rfl, w, rr⟩ := h.lstOf e1 rv
    rw [bools_vs e2 rr] at w
    exact ⟨_, cr_all hc, a, bs, rfl, w, k φ _ H (After.refl h) (rv_bl _)⟩
theorem cb_any {X : Cx} (hc : X.calm = true) : CallR X (.builtin "any") (rB X.K .any1) := CallR.by fun xs H Q ⟨b, φ, st, ps, r, st', h, hb, rp, e, k⟩ => by
  match ps, e with
  | [p], e =>
    simp only [blt, Option.bind_eq_some_iff] at e
    obtain ⟨bs, ⟨ys, e1, e2⟩, e3⟩ := e
    cases e3
    obtain ⟨v, rfl, rv⟩ := one_arg rp
    obtain ⟨a, vs, rfl, w, rr⟩ := h.lstOf e1 rv
    rw [bools_vs e2 rr] at w
    exact ⟨_, cr_any hc, a, bs, rfl, w, k φ _ H (After.refl h) (rv_bl _)⟩
/-! ### isinstance -/
def tyName : Ty → String
  | .int => "int" | .bool => "bool" | .str => "str" | .tup => "tuple"
def rIs (K : PySem.W.Frag) (t : Ty) : List V → Hp → VK → Prop := fun vs H Q => ∃ φ st p c x, HR K φ st H ∧ vs = [x, .ty (tyName t)] ∧ RV K φ H p x ∧ isi p t st = some c ∧ Q (.bl c) H
theorem cb_isi {X : Cx} (t : Ty) : CallR X (.builtin "isinstance") (rIs X.K t) := CallR.by fun xs H Q ⟨φ, st, p, c, x, h, e, rp, ec, k⟩ => by
  subst e
  have go : ∀ {ty : String}, TyX X.K H x (.type ty) → kitB ty (tyName t) = some c → ∃ r, CallR X (.builtin "isinstance") r ∧ r [x, .ty (tyName t)] H Q := fun ty e =>
    ⟨_, call_isi, x, _, _, _, c, rfl, .ty _, ty, kit_ty e, k⟩
  have lst : ∀ {a : Addr} {vs : List V}, SqL X.K H a vs → TyX X.K H (.ref a) (.type "list") := fun q => by
    rcases q with (q | ⟨o, q⟩) | ⟨o, its, n, e, c, _⟩
    · exact .base (.lst q)
    · exact .base (.frz q)
    · exact .kList e c
  have tup : ∀ {a : Addr} {vs : List V}, SqT X.K H a vs → TyX X.K H (.ref a) (.type "tuple") := fun q => by
    rcases q with (q | ⟨o, q⟩) | ⟨o, its, n, e, c, _⟩
    · exact .base (.tup q)
    · exact .fTuple q
    · exact .kTuple e c
  have none_ : isi p t st = some false → c = false := fun q => by rw [q] at ec; cases ec; rfl
  cases p with
  | non =>
    rw [rp.non] at go ⊢
    simp only [isi] at ec; cases ec
    exact go (.base .non) (by cases t <;> decide +kernel)
  | bl z =>
    rw [rp.bl] at go ⊢
    simp only [isi] at ec; cases ec
    exact go (.base (.bl z)) (by cases t <;> decide +kernel)
  | int z =>
    rw [rp.int] at go ⊢
    simp only [isi] at ec; cases ec
    exact go (.base (.int z)) (by cases t <;> decide +kernel)
  | str z =>
    rw [rp.str] at go ⊢
    simp only [isi] at ec; cases ec
    exact go (.base (.str z)) (by cases t <;> decide +kernel)
  | tup z =>
    obtain ⟨a, vs, rfl, q, _⟩ := rp.tup
    simp only [isi] at ec; cases ec
    exact go (tup q) (by cases t <;> decide +kernel)
  | ref n =>
    simp only [isi] at ec
    split at ec
    · rename_i o e1
      cases ec
      cases o with
      | lst ys =>
        obtain ⟨a, vs, rfl, _, q, _⟩ := h.lst e1 rp
        exact go (lst (.inl (.inl q))) (by cases t <;> decide +kernel)
      | fzl ys =>
        obtain ⟨a, vs, rfl, _, q, _⟩ := h.fzl e1 rp
        refine go (lst (vs := vs) ?_) (by cases t <;> decide +kernel)
        rcases q with ⟨o, q⟩ | q
        · exact .inl (.inr ⟨o, q⟩)
        · exact q H
      | dct ys =>
        obtain ⟨a, ea, rfl⟩ := rp.ref
        obtain ⟨vs, q, _⟩ := h.ok n a _ ea e1
        exact go (.base (.dK q)) (by cases t <;> decide +kernel)
    · cases ec
/-! ### repr -/
/-- sys.modules is a dict of the written part -/
def SysOk (K : PySem.W.Frag) : Prop := ∃ o es n, K.lookup sysModules = some o ∧ o.data = .dict es n
section
variable {X : Cx} {pins : List (Addr × Obj)} {σ : St} {H : Hp} {s : Shared} {φ : List Addr} {st : Sto}
mutual
theorem toD_reads (hs : SysOk X.K) (I : Inv X pins σ H s) (h : HR X.K φ st H) : ∀ {k : Nat} {x : PV} {v : V} {u : Value} {d : PyData}, toD st k x = some d → RV X.K φ H x v → RelV v u → ∃ as, Reads s.heap u d as ∧ sysModules ∉ as
  | 0, _, _, _, _, e, _, _ => by simp [toD] at e
  | k + 1, .non, v, u, d, e, r, ru => by simp only [toD] at e; cases e; rw [r.non] at ru; cases ru; exact ⟨_, .none, by simp⟩
  | k + 1, .bl b, v, u, d, e, r, ru => by simp only [toD] at e; cases e; rw [r.bl] at ru; cases ru; exact ⟨_, .bool b, by simp⟩
  | k + 1, .int i, v, u, d, e, r, ru => by simp only [toD] at e; cases e; rw [r.int] at ru; obtain ⟨t, rfl⟩ := ru; exact ⟨_, .int i t, by simp⟩
  | k + 1, .str z, v, u, d, e, r, ru => by simp only [toD] at e; cases e; rw [r.str] at ru; obtain ⟨t, rfl⟩ := ru; exact ⟨_, .str z t, by simp⟩
  | k + 1, .tup xs, v, u, d, e, r, ru => by
    simp only [toD, Option.map_eq_some_iff] at e
    obtain ⟨ds, e, rfl⟩ := e
    obtain ⟨a, vs, rfl, q, rr⟩ := r.tup
    cases ru
    obtain ⟨its, rv, ⟨o, ho, hc, n, hd⟩, _⟩ := I.tuple q
    obtain ⟨as, ra, na⟩ := toD_readsA hs I h e rr rv
    exact ⟨as, .tuple ho hc hd (by simpa using ra), na⟩
  | k + 1, .ref n, v, u, d, e, r, ru => by
    have lst : ∀ {xs : List PV} {vs : List V} {a : Addr}, (xs.mapM (toD st k)).map PyData.list = some d → SqL X.K H a vs → RVs X.K φ H xs vs → RelV (.ref a) u → ∃ as, Reads s.heap u d as ∧ sysModules ∉ as := fun {xs vs a} e0 q rr ru => by
      rw [Option.map_eq_some_iff] at e0
      obtain ⟨ds, e1, e2⟩ := e0
      cases ru
      obtain ⟨its, rv, ⟨o, n, ho, hc, _, hd⟩, _⟩ := I.list q
      obtain ⟨as, ra, na⟩ := toD_readsA hs I h e1 rr rv
      rw [← e2]
      refine ⟨a :: as, .list ho hc hd (by simpa using ra), ?_⟩
      simp only [List.mem_cons, not_or]
      refine ⟨fun z => ?_, na⟩
      obtain ⟨o', es, m, hk, hd'⟩ := hs
      have := I.kIn sysModules o' hk
      rw [z, ho] at this
      cases this
      rw [hd] at hd'; cases hd'
    simp only [toD] at e
    split at e
    · rename_i xs e1
      obtain ⟨a, vs, rfl, _, q, rr⟩ := h.lst e1 r
      exact lst e (.inl (.inl q)) rr ru
    · rename_i xs e1
      obtain ⟨a, vs, rfl, _, q, rr⟩ := h.fzl e1 r
      refine lst e ?_ rr ru
      rcases q with ⟨o, q⟩ | q
      · exact .inl (.inr ⟨o, q⟩)
      · exact q H
    · rename_i e1
      cases e
      obtain ⟨a, ea, rfl⟩ := r.ref
      obtain ⟨vs, q, rr⟩ := h.ok n a _ ea e1
      cases rr
      cases ru
      obtain ⟨_, hsys, ws, kv, o, es, ep, ho, ⟨hc, _⟩, hd, _, hp, _⟩ := I.hok a _ q
      cases kv
      have e0 : es.toList = [] := by
        cases hes : es.toList with
        | nil => rfl
        | cons x xs => rw [hes] at hp; exact absurd hp (by intro z; cases z)
      refine ⟨a :: [] ++ [], .dict (kvs := []) (as := []) (bs := []) ho hc hd (by rw [e0]; exact .nil) (by rw [e0]; exact .nil), ?_⟩
      have : a ≠ sysModules := beq_eq_false_iff_ne.mp hsys
      simpa using fun z => this z.symm
    · cases e
theorem toD_readsA (hs : SysOk X.K) (I : Inv X pins σ H s) (h : HR X.K φ st H) : ∀ {k : Nat} {xs : List PV} {vs : List V} {us : List Value} {ds : List PyData}, xs.mapM (toD st k) = some ds → RVs X.K φ H xs vs → Vals vs us → ∃ as, ReadsAll s.heap us ds as ∧ sysModules ∉ as
  | k, [], vs, us, ds, e, r, ru => by
    rw [List.mapM_nil] at e
    cases e
    rw [r.nil_inv] at ru
    cases ru
    exact ⟨_, .nil, by simp⟩
  | k, x :: xs, vs, us, ds, e, r, ru => by
    rw [List.mapM_cons] at e
    obtain ⟨v, ws, rfl, rx, rr⟩ := r.cons_inv
    cases e1 : toD st k x with
    | none => rw [e1] at e; cases e
    | some d =>
      rw [e1] at e
      cases e2 : xs.mapM (toD st k) with
      | none => rw [e2] at e; cases e
      | some ds' =>
        rw [e2] at e
        cases e
        cases ru with
        | cons r1 r2 =>
          obtain ⟨as, a1, a2⟩ := toD_reads hs I h e1 rx r1
          obtain ⟨bs, b1, b2⟩ := toD_readsA hs I h e2 rr r2
          exact ⟨as ++ bs, .cons a1 b1, by simp only [List.mem_append, not_or]; exact ⟨a2, b2⟩⟩
end
end
theorem cb_repr {X : Cx} (hs : SysOk X.K) (hg : X.A.guards = some []) (hu : X.A.units + 64 < cLine) : CallR X (.builtin "repr") (rB X.K .repr) := by
  intro pins s σ H xs us Q I ru ⟨b, φ, st, ps, r, st', h, hb, rp, e, k⟩
  match ps, e with
  | [p], e =>
    simp only [blt] at e
    split at e
    · rename_i d ed
      split at e
      · rename_i ok
        cases e
        simp only [sizeOk, Bool.and_eq_true, decide_eq_true_eq] at ok
        obtain ⟨⟨o1, o2⟩, o3⟩ := ok
        obtain ⟨v, rfl, rv⟩ := one_arg rp
        obtain ⟨u, rfl, r1⟩ := vals1 ru
        have fin : ∀ {s' : Shared} {t : Tok}, Inv X pins σ H s' → EP X pins σ Q (.str d.shown t) s' := fun I' => ⟨.str d.shown, H, I', ⟨_, rfl⟩, k φ _ H (After.refl h) (rv_str _)⟩
        obtain ⟨as, rd, na⟩ := toD_reads hs I h ed rv r1
        cases rd with
        | none => exact P.repr_of_none (fin (I.tok _))
        | bool b => exact P.repr_of_bool (by
            have := fin (t := s.toks) (I.tok (s.toks + 1))
            simp only [PyData.shown] at this
            cases b <;> exact this)
        | int i t =>
          simp only [PyData.showable, decide_eq_true_eq] at o1
          exact P.repr_of_int o1 (fin (I.tok _))
        | str z t => exact P.repr_of_str (fin (I.tok _)) o2
        | list h1 h2 h3 h4 => exact repr_of_reads' (.list h1 h2 h3 h4) o1 (fun _ => na) hg (by omega) (fun _ _ q => q) (fun h' u tk kp => fin (I.kept kp)) o2
        | tuple h1 h2 h3 h4 => exact repr_of_reads' (.tuple h1 h2 h3 h4) o1 (fun _ => na) hg (by omega) (fun _ _ q => q) (fun h' u tk kp => fin (I.kept kp)) o2
        | dict h1 h2 h3 h4 h5 => exact repr_of_reads' (.dict h1 h2 h3 h4 h5) o1 (fun _ => na) hg (by omega) (fun _ _ q => q) (fun h' u tk kp => fin (I.kept kp)) o2
      · cases e
    · cases e

/-! ### sorted(set(rows)) -/
theorem ints_rv {K : PySem.W.Frag} {φ : List Addr} {H : Hp} : ∀ (ns : List Int), RVs K φ H (ns.map PV.int) (ns.map V.int)
  | [] => .nil
  | n :: ns => .cons (rv_int n) (ints_rv ns)
theorem rows_vs {K : PySem.W.Frag} {φ : List Addr} {H : Hp} : ∀ {xs : List PV} {rs : List (List Int)} {vs : List V}, rows? xs = some rs → RVs K φ H xs vs → ∃ ks : List (Addr × List Int), vs = ks.map (fun p => V.ref p.1) ∧ ks.map (·.2) = rs ∧ ∀ p ∈ ks, SqT K H p.1 (p.2.map V.int)
  | [], rs, vs, e, r => by
    cases e
    exact ⟨[], r.nil_inv, rfl, fun p hp => by cases hp⟩
  | x :: xs, rs, vs, e, r => by
    obtain ⟨v, ws, rfl, rx, rr⟩ := r.cons_inv
    cases x with
    | tup ps =>
      simp only [rows?, Option.bind_eq_some_iff] at e
      obtain ⟨ns, e1, qs, e2, e3⟩ := e
      cases e3
      obtain ⟨ks, k1, k2, k3⟩ := rows_vs e2 rr
      obtain ⟨a, us, rfl, q, ru⟩ := rx.tup
      rw [ints_vs e1 ru] at q
      refine ⟨(a, ns) :: ks, by rw [k1]; rfl, by rw [← k2]; rfl, fun p hp => ?_⟩
      rcases List.mem_cons.mp hp with h | h
      · subst h; exact q
      · exact k3 p h
    | non => simp [rows?] at e
    | int _ => simp [rows?] at e
    | str _ => simp [rows?] at e
    | bl _ => simp [rows?] at e
    | ref _ => simp [rows?] at e
theorem mem_insC {B : Int} {x y : List Int} (inj : ∀ a b : List Int, TS.code B a = TS.code B b → a ∈ x :: y :: [] → b ∈ x :: y :: [] → a = b) : True := trivial
/-- rows whose codes tell them apart -/
def Inj (B : Int) (S : List Int → Prop) : Prop := ∀ a b, S a → S b → TS.code B a = TS.code B b → a = b
theorem insC_mem {B : Int} {S : List Int → Prop} (inj : Inj B S) {x : List Int} (hx : S x) : ∀ {ys : List (List Int)}, (∀ y ∈ ys, S y) → ∀ z, z ∈ insC B x ys ↔ z = x ∨ z ∈ ys
  | [], _, z => by simp [insC]
  | y :: ys, h, z => by
    have hy : S y := h y (List.mem_cons_self ..)
    unfold insC
    split
    · simp
    · split
      · rename_i e
        have := inj x y hx hy e
        subst this
        simp
      · rw [List.mem_cons, insC_mem inj hx (fun w hw => h w (List.mem_cons_of_mem _ hw)), List.mem_cons]
        constructor
        · rintro (h | h | h)
          · exact .inr (.inl h)
          · exact .inl h
          · exact .inr (.inr h)
        · rintro (h | h | h)
          · exact .inr (.inl h)
          · exact .inl h
          · exact .inr (.inr h)
theorem insC_sorted {B : Int} {S : List Int → Prop} (inj : Inj B S) {x : List Int} (hx : S x) : ∀ {ys : List (List Int)}, (∀ y ∈ ys, S y) → ys.Pairwise (fun a b => TS.code B a < TS.code B b) → (insC B x ys).Pairwise (fun a b => TS.code B a < TS.code B b)
  | [], _, _ => by simp [insC]
  | y :: ys, h, p => by
    rw [List.pairwise_cons] at p
    unfold insC
    split
    · rename_i l
      refine List.pairwise_cons.mpr ⟨fun z hz => ?_, List.pairwise_cons.mpr p⟩
      rcases List.mem_cons.mp hz with e | e
      · subst e; exact l
      · have := p.1 z e; omega
    · split
      · exact List.pairwise_cons.mpr p
      · refine List.pairwise_cons.mpr ⟨fun z hz => ?_, insC_sorted inj hx (fun w hw => h w (List.mem_cons_of_mem _ hw)) p.2⟩
        rcases (insC_mem inj hx (fun w hw => h w (List.mem_cons_of_mem _ hw)) z).mp hz with e | e
        · subst e; omega
        · exact p.1 z e
theorem sortC_ok {B : Int} {S : List Int → Prop} (inj : Inj B S) : ∀ {rs : List (List Int)}, (∀ y ∈ rs, S y) → (∀ z, z ∈ sortC B rs ↔ z ∈ rs) ∧ (sortC B rs).Pairwise (fun a b => TS.code B a < TS.code B b)
  | [], _ => ⟨fun z => by simp [sortC], by simp [sortC]⟩
  | x :: rs, h => by
    obtain ⟨h1, h2⟩ := sortC_ok inj (rs := rs) fun y hy => h y (List.mem_cons_of_mem _ hy)
    have hs : ∀ y ∈ sortC B rs, S y := fun y hy => h y (List.mem_cons_of_mem _ ((h1 y).mp hy))
    have hx := h x (List.mem_cons_self ..)
    refine ⟨fun z => ?_, insC_sorted inj hx hs h2⟩
    show z ∈ insC B x (sortC B rs) ↔ _
    rw [insC_mem inj hx hs, h1, List.mem_cons]
/-- lists in strict order with the same members are the same -/
theorem same_sorted {α : Type} {f : α → Int} : ∀ {l m : List α}, l.Pairwise (fun a b => f a < f b) → m.Pairwise (fun a b => f a < f b) → (∀ z, z ∈ l ↔ z ∈ m) → l = m
  | [], [], _, _, _ => rfl
  | [], y :: ys, _, _, h => by have := (h y).mpr (List.mem_cons_self ..); cases this
  | x :: xs, [], _, _, h => by have := (h x).mp (List.mem_cons_self ..); cases this
  | x :: xs, y :: ys, p, q, h => by
    rw [List.pairwise_cons] at p q
    have e : x = y := by
      rcases List.mem_cons.mp ((h x).mp (List.mem_cons_self ..)) with e | e
      · exact e
      · rcases List.mem_cons.mp ((h y).mpr (List.mem_cons_self ..)) with e' | e'
        · exact e'.symm
        · have := q.1 x e; have := p.1 y e'; omega
    subst e
    refine congrArg _ (same_sorted p.2 q.2 fun z => ?_)
    constructor
    · intro hz
      rcases List.mem_cons.mp ((h z).mp (List.mem_cons_of_mem _ hz)) with e | e
      · subst e; exact absurd (p.1 z hz) (by omega)
      · exact e
    · intro hz
      rcases List.mem_cons.mp ((h z).mpr (List.mem_cons_of_mem _ hz)) with e | e
      · subst e; exact absurd (q.1 z hz) (by omega)
      · exact e
theorem code3 (B a b c : Int) : TS.code B [a, b, c] = a * B ^ 2 + (b * B + c) := by
  show a * B ^ 2 + (b * B ^ 1 + (c * B ^ 0 + 0)) = _
  rw [Int.pow_one, Int.pow_zero, Int.mul_one, Int.add_zero]
theorem inj3 : Inj setB fun r => r.length = 3 ∧ TS.Bd setB r := fun x y hx hy e => by
  obtain ⟨lx, bx⟩ := hx
  obtain ⟨ly, bY⟩ := hy
  match x, lx, y, ly with
  | [a, b, c], _, [a', b', c'], _ =>
    rw [code3, code3] at e
    have h1 := bx a (by simp); have h2 := bx b (by simp); have h3 := bx c (by simp)
    have h4 := bY a' (by simp); have h5 := bY b' (by simp); have h6 := bY c' (by simp)
    have hB : setB = 100000 := rfl
    rw [hB] at h1 h2 h3 h4 h5 h6 e
    have h7 : ((100000 : Int) ^ 2) = 10000000000 := by decide
    rw [h7] at e
    have ea : a = a' := by omega
    have eb : b = b' := by omega
    have ec : c = c' := by omega
    rw [ea, eb, ec]
def rSS (K : PySem.W.Frag) (P : Program) (w : World) : List V → Hp → VK → Prop := fun vs H Q => tCB (rSortedT K P w) (fun _ H Q => rSetOfT K P w vs H fun x H1 => Q [x] H1) [] H Q
theorem ss_run {K : PySem.W.Frag} {P : Program} {w : World} {vs : List V} {H : Hp} {Q : VK} (h : rB K .sset vs H Q) : rSetOfT K P w vs H fun x H1 => rSortedT K P w [x] H1 Q := by
  obtain ⟨b, φ, st, ps, r, st', h, hb, rp, e, k⟩ := h
  match ps, e with
  | [p], e =>
    simp only [blt, Option.bind_eq_some_iff] at e
    obtain ⟨xs, e1, rs, e2, e3⟩ := e
    split at e3
    · rename_i c
      cases e3
      obtain ⟨v, rfl, rv⟩ := one_arg rp
      obtain ⟨l, us, rfl, ql, rr⟩ := h.lstOf e1 rv
      obtain ⟨ks, k1, k2, k3⟩ := rows_vs e2 rr
      subst k1
      refine ⟨l, ks, rfl, ql, k3, by rw [← List.length_map (·.2), k2]; exact c.1, fun a L ha hL hK => ?_⟩
      have tpA : Tp K H (upd H a (SetTO P w a L)) := Tp.new ha
      have okL : ∀ p ∈ L, p.2.length = 3 ∧ TS.Bd setB p.2 := fun p hp => c.2 _ (by rw [← k2]; exact List.mem_map_of_mem (hL p hp))
      refine ⟨a, L, 3, setB, rfl, upd_same, fun p hp => tpA _ _ (k3 p (hL p hp)), by decide, okL, fun L' q pm nd few srt hq => ?_⟩
      have mem : ∀ p ∈ L', p ∈ ks := fun p hp => hL p (pm.mem_iff.mp hp)
      have okL' : ∀ p ∈ L', p.2.length = 3 ∧ TS.Bd setB p.2 := fun p hp => okL p (pm.mem_iff.mp hp)
      have eq : L'.map (·.2) = sortC setB rs := by
        obtain ⟨s1, s2⟩ := sortC_ok inj3 c.2
        refine same_sorted (f := TS.code setB) ?_ s2 fun z => ?_
        · rw [List.pairwise_map]
          have nd' : L'.Pairwise (fun q r => q.2 ≠ r.2) := by
            rw [List.Nodup, List.pairwise_map] at nd; exact nd
          refine (srt.and nd').imp_of_mem fun {x y} hx hy h => ?_
          rcases Int.lt_or_eq_of_le h.1 with z | z
          · exact z
          · exact absurd (inj3 _ _ (okL' x hx) (okL' y hy) z) h.2
        · rw [s1, ← k2]
          constructor
          · intro hz
            obtain ⟨p, hp, rfl⟩ := List.mem_map.mp hz
            exact List.mem_map_of_mem (mem p hp)
          · intro hz
            obtain ⟨p, hp, rfl⟩ := List.mem_map.mp hz
            obtain ⟨q, hq, e⟩ := List.mem_map.mp (hK p hp)
            exact List.mem_map.mpr ⟨q, pm.mem_iff.mpr hq, e⟩
      have hA : HR K φ st (upd H a (SetTO P w a L)) := h.same tpA (upd_new ha)
      have rr2 : RVs K φ (upd H a (SetTO P w a L)) ((sortC setB rs).map fun ns => PV.tup (ns.map PV.int)) (L'.map fun q => V.ref q.1) := by
        rw [← eq, List.map_map]
        clear eq pm nd few srt hq
        induction L' with
        | nil => exact .nil
        | cons p L' ih =>
          exact .cons (rv_tup (tpA _ _ (k3 p (mem p (List.mem_cons_self ..)))) (ints_rv p.2)) (ih (fun p hp => mem p (List.mem_cons_of_mem _ hp)) fun p hp => okL' p (List.mem_cons_of_mem _ hp))
      obtain ⟨f, z⟩ := After.lst (b := b) hA hb hq rr2
      exact k _ _ _ ⟨f.pre, tpA.trans f.tp, f.hr, f.gr⟩ z
    · cases e3
end MP

end
section
set_option Elab.async false
set_option linter.all false
set_option maxRecDepth 100000
set_option maxHeartbeats 1000000
/-! MP: enumerate of a tuple; enumerate of a list or a tuple. -/
namespace MP
open PySem PySem.Spec PyProof.Rows L2
theorem meets_enum_tup (l : Addr) (items : Array Value) :
    Meets (Builtin.«enumerate.__new__» ⟨[.type "enumerate", .ref l], []⟩) (fun _ R s => s.heap.IsTuple l items ∧
      R (.ok (.ret (.ref (s.heap.push { cls := .type "tuple_iterator", data := .fields #[.ref l, .int 0 0] }).objs.size)))
        { s with heap := (s.heap.push { cls := .type "tuple_iterator", data := .fields #[.ref l, .int 0 0] }).push { cls := .type "enumerate", data := .fields #[.none, .bool false, .ref s.heap.objs.size, rawInt 0, .none, .none] } }) :=
  .of_wp fun prog w A R s h => by
    obtain ⟨hp, g, d, tk, os⟩ := s; obtain ⟨hl, h⟩ := h
    have hsub := sub_enumerate
    have q1 : ∀ {A' : Around} {E : Value → Shared → Prop} {Q : Value → Shared → Prop}, Q (.ref hp.objs.size) ⟨hp.push { cls := .type "tuple_iterator", data := .fields #[.ref l, .int 0 0] }, g, d, tk, os⟩ → wpAny (model prog w) A' (pyIter (.ref l)) Q E ⟨hp, g, d, tk, os⟩ :=
      fun q => wpAny_pyIter_tuple (s := ⟨hp, g, d, tk, os⟩) hl q
    wp_walk using q1
    refine wpAny_stack_any fun st => wpAny_pure ?_
    split
    · rename_i c _ _ _ _ _
      cases (c == Value.type "enumerate")
      · wp_walk using q1
        exact ⟨_, rfl, h⟩
      · wp_walk using q1
        exact ⟨_, rfl, h⟩
    · wp_walk using q1
      exact ⟨_, rfl, h⟩
theorem call_enum_tup {prog : Program} {w : World} {A : Around} {E : Value → Shared → Prop} {s : Shared} {l : Addr} {items : Array Value} {Q : Value → Shared → Prop} (hL : s.heap.IsTuple l items)
    (h : ∀ h', IsEnum h' (s.heap.objs.size + 1) s.heap.objs.size 0 .none → h'.IsTupleIter s.heap.objs.size l 0 → h'.objs.size = s.heap.objs.size + 2 →
      (∀ b o, s.heap.get? b = some o → h'.get? b = some o) → Q (.ref (s.heap.objs.size + 1)) { s with heap := h' }) :
    wpAny (model prog w) A (call (.type "enumerate") [.ref l]) Q E s := by
  refine callType_new F.called_enumerate (by decide) (F.typeCall_enumerate_1 _) (F.newCall_enumerate_1 _) (fun obj => F.args_object_init_2 obj _) F.entry_enumerate_new
    (meets_enum_tup l items) ⟨hL, ?_⟩
  have hz : (s.heap.push { cls := .type "tuple_iterator", data := .fields #[.ref l, .int 0 0] }).objs.size = s.heap.objs.size + 1 := Heap.size_push ..
  show _ ∧ _
  rw [hz]
  have he : IsEnum ((s.heap.push { cls := .type "tuple_iterator", data := .fields #[.ref l, .int 0 0] }).push
      { cls := .type "enumerate", data := .fields #[.none, .bool false, .ref s.heap.objs.size, rawInt 0, .none, .none] }) (s.heap.objs.size + 1) s.heap.objs.size 0 .none := by
    have := Heap.get?_push_size (s.heap.push { cls := .type "tuple_iterator", data := .fields #[.ref l, .int 0 0] })
      (o := { cls := .type "enumerate", data := .fields #[.none, .bool false, .ref s.heap.objs.size, rawInt 0, .none, .none] }) rfl
    rw [hz] at this; exact this
  refine ⟨⟨_, he, rfl⟩, h _ he ⟨_, Heap.get?_push_of_some _ (Heap.get?_push_size _ rfl), rfl, rfl⟩ (by rw [Heap.size_push, hz]) fun b o x => Heap.get?_push_of_some _ (Heap.get?_push_of_some _ x)⟩
/-- the tuple at a, each item in a new pair -/
def IteT (K : PySem.W.Frag) (a : Addr) : It :=
  ⟨fun i H => ∃ (xs : List V) (x : V), SqT K H a xs ∧ xs[i]? = some x, fun i H v H' => ∃ T x, v = .ref T ∧ H T = none ∧ H' = upd H T (.tup [.int (i : Nat), x]) ∧ ∀ xs, SqT K H a xs → xs[i]? = some x, fun i H => ∃ xs : List V, SqT K H a xs ∧ xs.length = i⟩
theorem turn_enumT {P : Program} {w : World} {K : PySem.W.Frag} {elts : List Expr} {kk : Nat} {tpos : Pos} (a e it : Addr) :
    Turn P w K (.Tuple elts kk tpos) (IteT K a) [e, it] e (fun i h => (∃ old, IsEnum h e it ((i : Nat) : Int) old) ∧ h.IsTupleIter it a i ∧ e ≠ it ∧ a ≠ e ∧ a ≠ it) where
  mem := by simp
  obj := fun i h st b hb => by
    obtain ⟨⟨old, he⟩, ⟨o, ho, hc, hd⟩, _⟩ := st
    have e' : b = e ∨ b = it := by simpa using hb
    rcases e' with z | z
    · rw [z]; exact ⟨_, he, fun v q => nomatch q⟩
    · rw [z]; exact ⟨o, ho, fun v q => by rw [hd] at q; cases q⟩
  keep := fun i h h' st k => let ⟨⟨old, he⟩, hi, hne⟩ := st; ⟨⟨old, k e (by simp) _ he⟩, hi.at fun o q => k it (by simp) o q, hne⟩
  item := by
    intro X hP hw hK hc i pins s σ H E I hf st hg
    subst hP hw hK
    obtain ⟨⟨old, he⟩, hit, hne, hae, hai⟩ := st
    obtain ⟨xs, x, hq, hx⟩ := hg
    obtain ⟨its, rv, p, hz⟩ := I.tuple hq
    obtain ⟨u, hu, ru⟩ := rv.get hx
    have hel : e < s.heap.objs.size := Heap.lt_size he
    have hil : it < s.heap.objs.size := by obtain ⟨_, q, _⟩ := hit; exact Heap.lt_size q
    have hu' : its.toArray[i]? = some u := by simpa using hu
    refine wpAny_pyNext_enum_itemC (Draws.tuple (A := X.A.in1) (I.ok.hd hc) it a hai its.toArray) he ⟨hit, show s.heap.IsTuple a its.toArray from p⟩ (by simpa using len_pos hu) hne (by simp [hne, Ne.symm hae]) fun x' h' tk ex ho hit' hT hsz hk => ?_
    have exu : x' = u := by rw [hu'] at ex; exact (Option.some.inj ex).symm
    subst exu
    refine ⟨_, rfl, wpAny_letOwnedTupleGo_enum (s := { s with heap := h', toks := tk + 1 }) ho fun h'' he' sb => ?_⟩
    have hT2 : h''.get? s.heap.objs.size = some { cls := .type "tuple", data := .seq #[.int i tk, x'] } := (sb.2 _ (Nat.ne_of_gt hel)).trans hT
    have new : ObjOk X.prog X.w (upd H s.heap.objs.size (.tup [.int (i : Nat), x])) h'' s.heap.objs.size (.tup [.int (i : Nat), x]) :=
      ⟨by show 2 ≤ sizeLine; decide, [.int i tk, x'], .cons ⟨_, rfl⟩ (.cons ru .nil), ⟨_, hT2, rfl, _, rfl⟩⟩
    have I1 : Inv X pins σ (upd H s.heap.objs.size (.tup [.int (i : Nat), x])) { s with heap := h'', toks := tk + 1 } :=
      I.turnedNew (ch := [e, it]) (fun b ob hb q => (sb.2 b (fun z => hb (by simp [z]))).trans (hk b ob (fun z => hb (by simp [z])) (fun z => hb (by simp [z])) q)) hf (Nat.le_refl _) new
    refine ⟨.ref s.heap.objs.size, _, I1, rfl, ⟨_, x, rfl, I.hok.fresh (Nat.le_refl _), rfl, fun ys hy => by rw [I.tuple_inj hy hq]; exact hx⟩, ⟨⟨x', ?_⟩, hit'.1.at fun o q => (sb.2 it (Ne.symm hne)).trans q, hne, hae, hai⟩, fun b hb => ?_⟩
    · have e1 : ((i + 1 : Nat) : Int) = (i : Int) + 1 := by omega
      rw [e1]; exact he'
    · have hb' : b < s.heap.objs.size := by
        have e' : b = e ∨ b = it := by simpa using hb
        rcases e' with z | z
        · rw [z]; exact hel
        · rw [z]; exact hil
      rw [upd_ne (Nat.ne_of_lt hb')]
      exact (hf b hb).1
  done := by
    intro X hP hw hK hc i pins s σ H E I hf st hg
    subst hP hw hK
    obtain ⟨⟨old, he⟩, hit, hne, hae, hai⟩ := st
    obtain ⟨xs, hq, hx⟩ := hg
    obtain ⟨its, rv, p, hz⟩ := I.tuple hq
    obtain ⟨f0, f1, f2, f3, f4, f5⟩ := hf it (by simp)
    have hl := rv.length
    have fin : ∀ h', (∀ b o, b ≠ it → s.heap.get? b = some o → h'.get? b = some o) → Inv X pins σ H { s with heap := h' } := fun h' eb => I.turned (t' := s.toks) eb f0 f1 f3 f4 f5
    have hi : i = its.toArray.size := by rw [List.size_toArray, ← hl, hx]
    exact wpAny_pyNext_enum_endD (Draws.tuple (A := X.A.in1) (I.ok.hd hc) it a hai its.toArray) he ⟨hi ▸ hit, show s.heap.IsTuple a its.toArray from p⟩ fun h' eb => ⟨rfl, fin h' fun b o hb q => eb b o hb q⟩
  self := fun A i s Q E st h => let ⟨⟨_, he⟩, _⟩ := st; wpAny_pyIter_enum he h
def iEnumA (K : PySem.W.Frag) (ta : TA) : TI := fun σ H R => ta σ H fun vs H1 => ∃ a xs, vs = [.ref a] ∧ ((SqL K H1 a xs ∧ R (Ite K a) H1) ∨ (SqT K H1 a xs ∧ R (IteT K a) H1))
theorem pi_enumA {X : Cx} {e : Expr} {ta : TA} {p pos tpos : Pos} {elts : List Expr} {kk : Nat} (hg : Gl X "enumerate") (hm : X.mg "enumerate" = none) (ha : PA X [e] ta) (hs : starEach [e] X.env = [(false, eval e X.env)] := by rfl) :
    PI X (.Tuple elts kk tpos) (.Call (.Name "enumerate" p) [e] [] pos) (iEnumA X.K ta) := by
  refine ⟨fun pins s σ H R I h => ?_⟩
  refine Call_ (ld_blt I hg hm boot_enumerate (PyProof.Rows.callWith_type1 (thn (ha.run pos pins s σ H _ I h) fun us s1 ⟨vs, H1, I1, r1, q1⟩ => ?_) hs rfl))
  obtain ⟨a, xs, ex, q⟩ := q1
  subst ex
  cases r1 with
  | cons r rr =>
    cases rr
    cases r
    have fp : ∀ b ∈ [s1.heap.objs.size + 1, s1.heap.objs.size], FpOk X pins H1 b := fun b hb => by
      have e' : b = s1.heap.objs.size + 1 ∨ b = s1.heap.objs.size := by simpa using hb
      have hle : s1.heap.objs.size ≤ b := by
        rcases e' with z | z
        · rw [z]; exact Nat.le_add_right _ _
        · rw [z]; exact Nat.le_refl _
      exact I1.fpOk hle (I1.hok.fresh hle)
    rcases q with ⟨hq, q⟩ | ⟨hq, q⟩
    · obtain ⟨its, rv, p', hz⟩ := I1.list hq
      refine call_enumerate_list p'.isList fun h' he hit hsz hk => wpAny_pyIter_enum he ?_
      have I2 : Inv X pins σ H1 { s1 with heap := h' } := I1.kept (t' := s1.toks) hk
      exact ⟨s1.heap.objs.size + 1, [s1.heap.objs.size + 1, s1.heap.objs.size], _, _, H1, rfl, I2, turn_enum a (s1.heap.objs.size + 1) s1.heap.objs.size, ⟨⟨.none, he⟩, hit, Nat.succ_ne_self _⟩, fp, q⟩
    · obtain ⟨its, rv, p', hz⟩ := I1.tuple hq
      obtain ⟨o, ho, _⟩ := id p'
      have hlt := Heap.lt_size ho
      refine call_enum_tup (show s1.heap.IsTuple a its.toArray from p') fun h' he hit hsz hk => wpAny_pyIter_enum he ?_
      have I2 : Inv X pins σ H1 { s1 with heap := h' } := I1.kept (t' := s1.toks) hk
      exact ⟨s1.heap.objs.size + 1, [s1.heap.objs.size + 1, s1.heap.objs.size], _, _, H1, rfl, I2, turn_enumT a (s1.heap.objs.size + 1) s1.heap.objs.size, ⟨⟨.none, he⟩, hit, Nat.succ_ne_self _, Nat.ne_of_lt (Nat.lt_succ_of_lt hlt), Nat.ne_of_lt hlt⟩, fp, q⟩
theorem walk_enumT {K : PySem.W.Frag} {a : Addr} {xs : List V} : Walk (IteT K a) xs.length (fun H => SqT K H a xs) (YPair (fun i => some (.int (i : Nat))) (fun i => xs[i]?)) := by
  refine ⟨fun i _ hi q => ⟨xs, xs[i], q, by simp [hi]⟩, fun _ q => ⟨xs, q, rfl⟩, fun i H v H' _ q y => ?_⟩
  obtain ⟨T, x, h1, h2, h3, h4⟩ := y
  exact ⟨T, .int (i : Nat), x, h1, h2, h3, rfl, h4 xs q⟩
theorem walk_zipT {K : PySem.W.Frag} {a b : Addr} {xs ys : List V} {n : Nat} (hn : n = min xs.length ys.length) : Walk (RZ.ItzT K a b) n (fun H => SqT K H a xs ∧ SqT K H b ys) (YPair (fun i => xs[i]?) (fun i => ys[i]?)) := by
  subst hn
  refine ⟨fun i _ hi q => ?_, fun _ q => ⟨xs, ys, q.1, q.2, by omega⟩, fun i H v H' _ q y => ?_⟩
  · have h1 : i < xs.length := by omega
    have h2 : i < ys.length := by omega
    exact ⟨xs, ys, xs[i], ys[i], q.1, q.2, by simp [h1], by simp [h2]⟩
  · obtain ⟨T, x, z, h1, h2, h3, h4, h5⟩ := y
    exact ⟨T, x, z, h1, h2, h3, h4 xs q.1, h5 ys q.2⟩
end MP

end
section
set_option Elab.async false
set_option linter.all false
set_option maxRecDepth 100000
set_option maxHeartbeats 1000000
/-! MP: defs that are called where nothing is being shown (repr's guards), and their calls. -/
namespace MP
open PySem PySem.Spec PyProof.Rows L2
/-- a def keeps its promise wherever no repr runs -/
structure FnG (P : Program) (w : World) (K : PySem.W.Frag) (mg : Str → Option Value) (base : Heap) (k : Nat) (f : Addr) (fd : FuncData) (ps : List Str) (sp : Sp) : Prop where
  len : ∀ vs H Q E, sp vs H Q E → vs.length = ps.length
  run : ∀ (A : Around) (outer : List Env) (s : Shared) (H : Hp) (args : Args) (us : List Value) (vs : List V) (Q : VK) (E : XK), Room k A → A.guards = some [] → Env0 P w K mg base A outer s H → BindsTo s fd args (ps.zip us) → Vals vs us → sp vs H Q E →
    codeAny (model P w) A (.call (.ref f) args) (CR CX0 outer P w H s Q E) s
theorem FnG.mono {P : Program} {w : World} {K : PySem.W.Frag} {mg : Str → Option Value} {base : Heap} {j k : Nat} {f : Addr} {fd : FuncData} {ps : List Str} {sp : Sp} (F : FnG P w K mg base j f fd ps sp) (h : j ≤ k) :
    FnG P w K mg base k f fd ps sp := ⟨F.len, fun A outer s H args us vs Q E hr => F.run A outer s H args us vs Q E (hr.mono h)⟩
theorem deeper_guards (A : Around) (env : Env) : (A.deeper env).guards = A.guards := rfl
/-- a def of the text, by its body (as fn_of) -/
theorem fn_ofG {P : Program} {w : World} {K : PySem.W.Frag} {mg : Str → Option Value} {base : Heap} {k : Nat} {f : Addr} {name qual : Str} {params : Arguments} {body : List Stmt} {scope : Scope} {dV kV doc pm cdv ct oc : Value} {an od : Option Addr}
    {osl : Array (Option Value)} {N ps : List Str} {sp : Sp} (lk : K.lookup f = some ⟨oc, od, .func (PySem.W.fnOf name qual params body scope dV kV doc pm an cdv ct), osl⟩) (hcd : PySem.W.codeIn K cdv qual = true) (S : FnScope N ps scope)
    (len : ∀ vs H Q E, sp vs H Q E → vs.length = ps.length)
    (hbody : ∀ (A : Around) (outer : List Env) (s : Shared) (H : Hp) (vs : List V) (Q : VK) (E : XK), Room k (A.deeper (envOfC qual scope s.heap.objs.size f cdv)) → A.guards = some [] → sp vs H Q E →
      ∃ t, PSs (cxOf CX0 P w K mg base N qual scope f cdv A outer s H E) body t ∧ t { nx := fun _ H' => Q .non H', rt := Q } (start N vs) H) :
    FnG P w K mg base (k + 1) f (PySem.W.fnOf name qual params body scope dV kV doc pm an cdv ct) ps sp := by
  refine ⟨len, fun A outer s H args us vs Q E hr hgd e0 hb r hsp => ?_⟩
  have hl := len _ _ _ _ hsp
  have KX : K.In s.heap := e0.mod.kin.keeps fun b o e => (e0.bs b o e).1
  have lim : s.heap.NoLimit := e0.mod.nolimit.keeps fun b o e => (e0.bs b o e).1
  have hkind : ∀ y ∈ ps.zip us, scope.names.lookup y.1 = some .local ∨ (scope.names.lookup y.1 = some .cell ∧ ((cellsFrom (s.heap.objs.size + 1) scope.names []).lookup y.1).isSome = true) := fun ⟨n, v⟩ hy => by
    rcases S.par n (List.of_mem_zip hy).1 with q | q
    · exact .inl q
    · exact .inr ⟨q, PySem.W.cellsFrom_some _ _ _ (.inl q)⟩
  refine codeAny_call_function hr.depth (KX _ _ lk) rfl S.co S.gen rfl (PySem.W.codeRec_of KX hcd) (hb _ _ _ _ ?_)
  refine wpAny_newFunctionEnv_cells S.kind hkind fun env he s1 x => ?_
  subst he
  refine ⟨lim.keeps x.toInCall.keep, codeAny_func ?_⟩
  obtain ⟨t, ht, hq⟩ := hbody A outer s H vs Q E (hr.deeper _) hgd hsp
  have I : Inv (cxOf CX0 P w K mg base N qual scope f cdv A outer s H E) [] (start N vs) H s1 := inv_start S hr.hd e0 hl r x
  refine wpAny_mono (ht.run [] s1 (start N vs) H _ I hq) (fun fl s' hs => ?_) fun e s' hs => hs
  have fin : ∀ {σ' : L2.St} {H' : Hp} {v : V} {u : Value}, Inv (cxOf CX0 P w K mg base N qual scope f cdv A outer s H E) [] σ' H' s' → RelV v u → Q v H' → L2.CE outer P w H s Q u s' :=
    fun {σ' H' v u} J rv q => ⟨v, H', J.os, J.bare, J.base, J.hok, rv, q⟩
  cases fl with
  | ret u =>
    obtain ⟨v, σ', H', J, rv, q⟩ := hs
    exact fin J rv q
  | next =>
    obtain ⟨σ', H', J, q⟩ := hs
    exact fin (v := V.non) (u := Value.none) J rfl q
  | brk =>
    obtain ⟨_, _, _, q⟩ := hs
    exact False.elim q
  | cont =>
    obtain ⟨_, _, _, q⟩ := hs
    exact False.elim q
theorem fnD_okG {P : Program} {w : World} {K : PySem.W.Frag} {mg : Str → Option Value} {base : Heap} {x qual : Str} {params : Arguments} {body : List Stmt} {scope : Scope} {dvs : List V} {kws : List (Str × V)} {f : Addr} {fd : FuncData}
    {N ps : List Str} {k : Nat} {sp : Sp} (F : FunD K x qual params body scope dvs kws f fd) (S : FnScope N ps scope) (len : ∀ vs H Q E, sp vs H Q E → vs.length = ps.length)
    (hbody : ∀ (cdv : Value) (A : Around) (outer : List Env) (s : Shared) (H : Hp) (vs : List V) (Q : VK) (E : XK), Room k (A.deeper (envOfC qual scope s.heap.objs.size f cdv)) → A.guards = some [] → sp vs H Q E →
      ∃ t, PSs (cxOf CX0 P w K mg base N qual scope f cdv A outer s H E) body t ∧ t { nx := fun _ H' => Q .non H', rt := Q } (start N vs) H) : FnG P w K mg base (k + 1) f fd ps sp := by
  obtain ⟨oc, od, dV, kV, doc, pm, an, cdv, ct, osl, rfl, lk, hcd, _, _⟩ := F.ex
  exact fn_ofG lk hcd S len fun A outer s H vs Q E hr hg hsp => hbody cdv A outer s H vs Q E hr hg hsp
section
variable {X : Cx} {k : Nat} {f : Addr} {fd : FuncData} {ps : List Str} {sp : Sp} {x : Str} {p pos : Pos} {e : Expr} {es : List Expr} {t tk : TA} {kws : List Keyword}
theorem run_fnG {pins : List (Addr × Obj)} {σ : L2.St} {H : Hp} {s : Shared} {Q : VK} {us ws : List Value} {vs : List V} {args : Args} (F : FnG X.prog X.w X.K X.mg X.base k f fd ps sp) (hr : Room k X.A) (hgd : X.A.guards = some [])
    (I : Inv X pins σ H s) (hb : BindsTo s fd args (ps.zip us)) (r : Vals vs us) (h : sp vs H Q E0) : wpAny (model X.prog X.w) X.A (call (.ref f) args.pos args.kw) (EP X pins σ Q) X.xe s := by
  refine wpAny_call (codeAny_mono (F.run X.A X.stack s H args us vs Q E0 hr hgd I.env0 hb r h) fun r s' hq => ?_)
  cases r with
  | error e => exact False.elim hq
  | ok fl =>
    cases fl with
    | ret u => exact I.after hq
    | next => exact False.elim hq
    | brk => exact False.elim hq
    | cont => exact False.elim hq
def tCallG (sp : Sp) (t : TA) : TE := fun σ H Q => t σ H fun vs H1 => sp vs H1 Q E0
theorem pe_callG (F : FnG X.prog X.w X.K X.mg X.base k f fd ps sp) (hr : Room k X.A) (hgd : X.A.guards = some []) (hg : Gl X x) (hm : X.mg x = some (.ref f)) (hk : PySem.W.keepIn X.K (.ref f) = true) (hb : Binds X.K fd ps [])
    (ha : PA X (e :: es) t) (hdb : (x == ("__debug__" : Str)) = false) (he : starEach (e :: es) X.env = (false, eval e X.env) :: starEach es X.env) (hpl : (backTo pos (starEach es X.env)).any (·.1) = false) :
    PE X (.Call (.Name x p) (e :: es) [] pos) (tCallG sp t) := by
  refine ⟨fun pins s σ H Q I h => ?_⟩
  refine wpAny_Call_Name_kw (ld_glob I hg hm ?_ hdb)
  refine PySem.W.callWith_K (h₀ := X.base) I.ok.mod.kin hk (thn (ha.run pos pins s σ H _ I h) fun us s1 ⟨vs, H1, I1, r, q⟩ => ⟨I1.kIn, ?_⟩) he hpl
  have hl : us.length = ps.length := by rw [← r.length]; exact F.len _ _ _ _ q
  have hb' := hb s1 us I1.kIn (by rw [List.append_nil]; exact hl)
  rw [List.append_nil] at hb'
  exact run_fnG (ws := []) (args := ⟨us, []⟩) F hr hgd I1 hb' r q
/-- the values of keywords, in the parameters' order -/
def pick {α : Type} (perm : List Nat) (ws : List α) : List α := perm.filterMap (fun i => ws[i]?)
theorem Vals.pick {vs : List V} {us : List Value} (r : Vals vs us) : ∀ perm : List Nat, Vals (MP.pick perm vs) (MP.pick perm us)
  | [] => .nil
  | i :: is => by
    show Vals (List.filterMap _ (i :: is)) (List.filterMap _ (i :: is))
    rw [List.filterMap_cons, List.filterMap_cons]
    cases h : vs[i]? with
    | none => rw [Vals.none_of r h]; exact Vals.pick r is
    | some v =>
      obtain ⟨u, hu, q⟩ := Vals.get r h
      rw [hu]
      exact .cons q (Vals.pick r is)
def tCallKG (sp : Sp) (perm : List Nat) (tk : TA) : TE := fun σ H Q => tk σ H fun zs H1 => sp (pick perm zs) H1 Q E0
theorem pe_callKG {ks : List Str} {perm : List Nat} (F : FnG X.prog X.w X.K X.mg X.base k f fd ps sp) (hr : Room k X.A) (hgd : X.A.guards = some []) (hg : Gl X x) (hm : X.mg x = some (.ref f)) (hk : PySem.W.keepIn X.K (.ref f) = true)
    (hb : ∀ (s : Shared) (ws : List Value), X.K.In s.heap → ws.length = ks.length → BindsTo s fd ⟨[], ks.zip ws⟩ (ps.zip (pick perm ws)))
    (hkw : PK X kws tk) (hall : (backToKw pos (keywordEach kws X.env)).all (·.1.isSome) = true) (hks : (backToKw pos (keywordEach kws X.env)).filterMap (·.1) = ks)
    (hlen : ∀ σ H Q, tk σ H Q → tk σ H fun zs H1 => Q zs H1 ∧ zs.length = ks.length)
    (hdb : (x == ("__debug__" : Str)) = false) (hpl : ((backTo pos (starEach [] X.env)).any (·.1) || (backToKw pos (keywordEach kws X.env)).any (·.1.isNone)) = false) :
    PE X (.Call (.Name x p) [] kws pos) (tCallKG sp perm tk) := by
  refine ⟨fun pins s σ H Q I h => ?_⟩
  refine wpAny_Call_Name_kw (ld_glob I hg hm ?_ hdb)
  refine PySem.W.callWith_KW0 (h₀ := X.base) I.ok.mod.kin hk hall ?_ hpl
  refine thn (hkw.run pos pins s σ H _ I (hlen _ _ _ h)) fun ws s2 ⟨zs, H2, I2, rz, q2, ql⟩ => ⟨I2.kIn, ?_⟩
  rw [hks]
  exact run_fnG (ws := ws) (args := ⟨[], ks.zip ws⟩) F hr hgd I2 (hb s2 ws I2.kIn (by rw [← rz.length]; exact ql)) (Vals.pick rz perm) q2
end
end MP

end
section
set_option Elab.async false
set_option linter.all false
set_option maxRecDepth 100000
set_option maxHeartbeats 4000000
/-! MP: list(zip(a, b)). -/
namespace MP
open PySem PySem.Spec PyProof.Rows L2
abbrev IsZipH (h : Heap) (z TI TO : Addr) (f0 f1 : Value) : Prop :=
  h.get? z = some { cls := .type "zip", dict := none, data := .fields #[f0, f1, .bool false, .ref TI, .ref TO], slots := #[] }
section
variable {prog : Program} {w : World} {A : Around} {E : Value → Shared → Prop} {s : Shared}
theorem wpAny_loadIfAlive {M : Model} {a : Addr} {Q : Option Obj → Shared → Prop} (h : Q (s.heap.get? a) s) : wpAny M A (loadIfAlive a) Q E s := fun Γ p hΓ => by
  unfold loadIfAlive
  rw [Sem.wp_loadIfAlive, Sem.wp_pure]
  exact h
/-- the tuple that was handed out is held: is it free? no -/
theorem not_free {z TI TO T : Addr} {f : Bool} {o : Obj} {Q : Bool → Shared → Prop} (hz : IsZipH s.heap z TI TO (rawInt T) (.bool f)) (hT : s.heap.get? T = some o)
    (hQ : ∀ h', IsZipH h' z TI TO (rawInt T) (.bool true) → Heap.SameBut z s.heap h' → Q false { s with heap := h' }) :
    wpAny (model prog w) A (Builtin.SmallTypes.ownedTupleIsFree (.ref z)) Q E s := by
  unfold Builtin.SmallTypes.ownedTupleIsFree
  refine wpAny_bind (wpAny_field hz rfl (x := rawInt T) rfl ?_)
  show wpAny _ _ (loadIfAlive ((T : Int)).toNat >>= _) _ _ _
  refine wpAny_bind (wpAny_loadIfAlive ?_)
  rw [Int.toNat_natCast, hT]
  simp only [Option.isNone_some, Bool.false_eq_true, if_false]
  refine wpAny_bind (wpAny_field hz rfl (x := .bool f) rfl ?_)
  cases f with
  | true =>
    have e : ((Value.bool true != .bool true) = true) = False := by simp
    rw [if_neg (by simp)]
    exact wpAny_bind (wpAny_pure (wpAny_pure (hQ s.heap hz ⟨rfl, fun _ _ => rfl⟩)))
  | false =>
    rw [if_pos (by decide)]
    exact wpAny_bind (wpAny_setField_rec hz (by simp) fun h' hz' hs' => wpAny_pure (hQ h' hz' hs'))
theorem zip_next_held {z TI TO i1 i2 l1 l2 T : Addr} {k1 k2 : Nat} {xs ys : Array Value} {x y a b : Value} {f : Bool} {o : Obj} {Q : Value → Shared → Prop} (D : ZipApart z TI TO i1 i2 l1 l2)
    (hz : IsZipH s.heap z TI TO (rawInt T) (.bool f)) (hT : s.heap.get? T = some o) (hTI : IsPair s.heap TI (.ref i1) (.ref i2)) (hTO : IsPair s.heap TO a b)
    (h1 : s.heap.IsListIter i1 l1 k1) (h2 : s.heap.IsListIter i2 l2 k2) (hl1 : s.heap.IsList l1 xs) (hl2 : s.heap.IsList l2 ys) (hx : xs[k1]? = some x) (hy : ys[k2]? = some y)
    (hQ : ∀ h', IsZipH h' z TI TO (rawInt T) (.bool true) → h'.IsListIter i1 l1 (k1 + 1) → h'.IsListIter i2 l2 (k2 + 1) → IsPair h' s.heap.objs.size x y → h'.objs.size = s.heap.objs.size + 1 →
      (∀ c o, c ≠ z → c ≠ i1 → c ≠ i2 → s.heap.get? c = some o → h'.get? c = some o) → Q (.ref s.heap.objs.size) { s with heap := h' }) :
    wpAny (model prog w) A (Builtin.«zip.__next__» ⟨[.ref z], []⟩) (fun fin s' => ∃ v, fin = .done (.ret v) ∧ Q v s') E s := by
  show wpAny _ _ (field (.ref z) 2 >>= _) _ _ _
  refine wpAny_bind (wpAny_field hz rfl (x := .bool false) rfl ?_)
  show wpAny _ _ (field (.ref z) 3 >>= _) _ _ _
  refine wpAny_bind (wpAny_field hz rfl (x := .ref TI) rfl ?_)
  refine wpAny_bind (wpAny_seqItems hTI rfl ?_)
  show wpAny _ _ (Builtin.SmallTypes.ownedTupleIsFree (.ref z) >>= _) _ _ _
  refine wpAny_bind (not_free hz hT fun h₁ hz₁ hs₁ => ?_)
  simp only [Bool.false_eq_true, if_false]
  refine wpAny_bind ?_
  simp only [← Array.forIn_toList, List.forIn_cons, List.forIn_nil]
  refine wpAny_bind (wpAny_bind (wpAny_bind ?_))
  refine wpAny_nextOf_list_item (h1.extBut hs₁.extBut D.i1z) (hl1.extBut hs₁.extBut D.l1z) hx fun h₂ h1₂ hs₂ => wpAny_pure (wpAny_pure ?_)
  refine wpAny_bind (wpAny_bind (wpAny_holding ?_))
  show wpAny _ _ (Builtin.SmallTypes.nextOf (.ref i2) >>= _) _ _ _
  refine wpAny_bind (wpAny_nextOf_list_item ((h2.extBut hs₁.extBut D.i2z).extBut hs₂.extBut D.i12.symm) ((hl2.extBut hs₁.extBut D.l2z).extBut hs₂.extBut D.l2i1) hy fun h₃ h2₃ hs₃ => wpAny_pure (wpAny_pure (wpAny_pure ?_)))
  have hsz : h₃.objs.size = s.heap.objs.size := by rw [hs₃.1, hs₂.1, hs₁.1]
  have hz₃ : IsZipH h₃ z TI TO (rawInt T) (.bool true) := hs₃.extBut _ _ D.i2z.symm (hs₂.extBut _ _ D.i1z.symm hz₁)
  refine wpAny_bind (wpAny_newTuple ?_ (by show 2 ≤ sizeLine; decide))
  refine wpAny_pure ⟨_, rfl, ?_⟩
  show Q (.ref h₃.objs.size) _
  rw [hsz]
  have up : ∀ c o, h₃.get? c = some o → (h₃.push { cls := .type "tuple", data := .seq #[x, y] }).get? c = some o := fun c o e => Heap.get?_push_of_some _ e
  refine hQ _ (up _ _ hz₃) ((h1₂.extBut hs₃.extBut D.i12).at fun o e => up _ o e) (h2₃.at fun o e => up _ o e) ?_ (by rw [Heap.size_push, hsz]) fun c o c1 c3 c4 e => up _ _ (hs₃.extBut _ _ c4 (hs₂.extBut _ _ c3 (hs₁.extBut _ _ c1 e)))
  rw [← hsz]
  exact Heap.get?_push_size _ rfl
theorem zip_end_held {z TI TO i1 i2 l1 l2 T : Addr} {k1 k2 : Nat} {xs ys : Array Value} {a b : Value} {f : Bool} {o : Obj} {Q : Fin → Shared → Prop} (hh : A.handled = none) (D : ZipApart z TI TO i1 i2 l1 l2)
    (hz : IsZipH s.heap z TI TO (rawInt T) (.bool f)) (hT : s.heap.get? T = some o) (hTI : IsPair s.heap TI (.ref i1) (.ref i2)) (hTO : IsPair s.heap TO a b)
    (h1 : s.heap.IsListIter i1 l1 k1) (h2 : s.heap.IsListIter i2 l2 k2) (hl1 : s.heap.IsList l1 xs) (hl2 : s.heap.IsList l2 ys) (hend : xs[k1]? = none ∨ ys[k2]? = none)
    (hE : ∀ h' e, (∀ c o, c ≠ z → c ≠ i1 → c ≠ i2 → s.heap.get? c = some o → h'.get? c = some o) → (∃ o, h'.get? e = some o ∧ o.cls = .type "StopIteration") → E (.ref e) { s with heap := h' }) :
    wpAny (model prog w) A (Builtin.«zip.__next__» ⟨[.ref z], []⟩) Q E s := by
  show wpAny _ _ (field (.ref z) 2 >>= _) _ _ _
  refine wpAny_bind (wpAny_field hz rfl (x := .bool false) rfl ?_)
  show wpAny _ _ (field (.ref z) 3 >>= _) _ _ _
  refine wpAny_bind (wpAny_field hz rfl (x := .ref TI) rfl ?_)
  refine wpAny_bind (wpAny_seqItems hTI rfl ?_)
  show wpAny _ _ (Builtin.SmallTypes.ownedTupleIsFree (.ref z) >>= _) _ _ _
  refine wpAny_bind (not_free hz hT fun h₁ hz₁ hs₁ => ?_)
  simp only [Bool.false_eq_true, if_false]
  refine wpAny_bind ?_
  simp only [← Array.forIn_toList, List.forIn_cons, List.forIn_nil]
  refine wpAny_bind (wpAny_bind (wpAny_bind ?_))
  cases hx : xs[k1]? with
  | none =>
    exact wpAny_nextOf_list_end hh (h1.extBut hs₁.extBut D.i1z) (hl1.extBut hs₁.extBut D.l1z) hx fun h₂ e hs₂ he => hE _ e (fun c o c1 c3 c4 q => hs₂ _ _ c3 (hs₁.extBut _ _ c1 q)) he
  | some x =>
    have hy : ys[k2]? = none := by rcases hend with h | h; rw [hx] at h; cases h; exact h
    refine wpAny_nextOf_list_item (h1.extBut hs₁.extBut D.i1z) (hl1.extBut hs₁.extBut D.l1z) hx fun h₂ h1₂ hs₂ => wpAny_pure (wpAny_pure ?_)
    refine wpAny_bind (wpAny_bind (wpAny_holding ?_))
    show wpAny _ _ (Builtin.SmallTypes.nextOf (.ref i2) >>= _) _ _ _
    exact wpAny_bind (wpAny_nextOf_list_end hh ((h2.extBut hs₁.extBut D.i2z).extBut hs₂.extBut D.i12.symm) ((hl2.extBut hs₁.extBut D.l2z).extBut hs₂.extBut D.l2i1) hy fun h₃ e hs₃ he => hE _ e (fun c o c1 c3 c4 q => hs₃ _ _ c4 (hs₂.extBut _ _ c3 (hs₁.extBut _ _ c1 q))) he)
theorem pyNext_zip_held {z TI TO i1 i2 l1 l2 T : Addr} {k1 k2 : Nat} {xs ys : Array Value} {x y a b : Value} {f : Bool} {o : Obj} {Q : Option Value → Shared → Prop} (D : ZipApart z TI TO i1 i2 l1 l2)
    (hz : IsZipH s.heap z TI TO (rawInt T) (.bool f)) (hT : s.heap.get? T = some o) (hTI : IsPair s.heap TI (.ref i1) (.ref i2)) (hTO : IsPair s.heap TO a b)
    (h1 : s.heap.IsListIter i1 l1 k1) (h2 : s.heap.IsListIter i2 l2 k2) (hl1 : s.heap.IsList l1 xs) (hl2 : s.heap.IsList l2 ys) (hx : xs[k1]? = some x) (hy : ys[k2]? = some y)
    (hQ : ∀ h', IsZipH h' z TI TO (rawInt T) (.bool true) → h'.IsListIter i1 l1 (k1 + 1) → h'.IsListIter i2 l2 (k2 + 1) → IsPair h' s.heap.objs.size x y → h'.objs.size = s.heap.objs.size + 1 →
      (∀ c o, c ≠ z → c ≠ i1 → c ≠ i2 → s.heap.get? c = some o → h'.get? c = some o) → Q (some (.ref s.heap.objs.size)) { s with heap := h' }) :
    wpAny (model prog w) A (pyNext (.ref z)) Q E s := by
  have hT' : s.TypeIs (.ref z) "zip" := ⟨_, hz, rfl⟩
  unfold pyNext
  exact wpAny_bind (wpAny_attempt (wpAny_callSpecial?_slot (name := Str.ofString "__next__") hT' F.slot_zip_next
    (wpAny_call_entry F.slot_zip_next hT' F.entry_zip_next
      (zip_next_held D hz hT hTI hTO h1 h2 hl1 hl2 hx hy fun h' a1 a3 a4 a5 a6 a7 => wpAny_pure (hQ h' a1 a3 a4 a5 a6 a7)) (F.args_zip_next_1 _))))
theorem pyNext_zip_held_end {z TI TO i1 i2 l1 l2 T : Addr} {k1 k2 : Nat} {xs ys : Array Value} {a b : Value} {f : Bool} {o : Obj} {Q : Option Value → Shared → Prop} (hh : A.handled = none) (D : ZipApart z TI TO i1 i2 l1 l2)
    (hz : IsZipH s.heap z TI TO (rawInt T) (.bool f)) (hT : s.heap.get? T = some o) (hTI : IsPair s.heap TI (.ref i1) (.ref i2)) (hTO : IsPair s.heap TO a b)
    (h1 : s.heap.IsListIter i1 l1 k1) (h2 : s.heap.IsListIter i2 l2 k2) (hl1 : s.heap.IsList l1 xs) (hl2 : s.heap.IsList l2 ys) (hend : xs[k1]? = none ∨ ys[k2]? = none)
    (hQ : ∀ h', (∀ c o, c ≠ z → c ≠ i1 → c ≠ i2 → s.heap.get? c = some o → h'.get? c = some o) → Q none { s with heap := h' }) : wpAny (model prog w) A (pyNext (.ref z)) Q E s := by
  have hT' : s.TypeIs (.ref z) "zip" := ⟨_, hz, rfl⟩
  unfold pyNext
  refine wpAny_bind (wpAny_attempt (wpAny_callSpecial?_slot (name := Str.ofString "__next__") hT' F.slot_zip_next
    (wpAny_call_entry F.slot_zip_next hT' F.entry_zip_next (zip_end_held hh D hz hT hTI hTO h1 h2 hl1 hl2 hend fun h' e hk he => ?_) (F.args_zip_next_1 _))))
  obtain ⟨o, ho, hc⟩ := he
  refine wpAny_bind (wpAny_isInstance (T := "StopIteration") (b := true) ⟨o, ho, hc⟩ isSubtype_stop ?_)
  exact wpAny_pure (hQ _ hk)
end
/-- the zip's own objects, amid its walk -/
def ZSt (z TI TO i1 i2 l1 l2 : Addr) (H : Hp) (i : Nat) (h : Heap) : Prop :=
  ((i = 0 ∧ IsZip h z TI TO .none) ∨ (∃ T f t, IsZipH h z TI TO (rawInt (T : Addr)) (.bool f) ∧ H T = some (.tup t))) ∧ IsPair h TI (.ref i1) (.ref i2) ∧ (∃ a b, IsPair h TO a b) ∧ h.IsListIter i1 l1 i ∧ h.IsListIter i2 l2 i
section
variable {X : Cx} {A : Around} {R : Result → Shared → Prop}
theorem there {pins : List (Addr × Obj)} {σ : L2.St} {H : Hp} {s : Shared} {T : Addr} {t : List V} (I : Inv X pins σ H s) (e : H T = some (.tup t)) : ∃ o, s.heap.get? T = some o := by
  obtain ⟨_, its, _, o, e, _⟩ := I.hok T _ e
  exact ⟨o, e⟩
theorem extend_zip (hh : A.handled = none) {pins : List (Addr × Obj)} {σ : L2.St} {z TI TO i1 i2 l1 l2 S : Addr} {xs ys : List V} {n : Nat} (hn : n = min xs.length ys.length) (D : ZipApart z TI TO i1 i2 l1 l2) (hS : S ≠ z ∧ S ≠ TI ∧ S ≠ TO ∧ S ≠ i1 ∧ S ≠ i2) (res : Value) {H0 : Hp}
    (hR : ∀ s' H acc c (bs : List Addr), Inv X pins σ H s' → (∀ b ∈ [z, TI, TO, i1, i2, S], FpOk X pins H b) → s'.heap.get? S = some { cls := .type "list", dict := none, data := .seq acc c, slots := #[] } → acc.toList = bs.map Value.ref → bs.length = n →
      (∀ (j : Nat) b, bs[j]? = some b → ∃ x y, xs[j]? = some x ∧ ys[j]? = some y ∧ H b = some (.tup [x, y])) → L2.Same H0 H → R (.ok (.ret res)) s') :
    ∀ (k i : Nat) (s : Shared) (H : Hp) (acc : Array Value) (c : Nat) (bs : List Addr), n - i = k → i ≤ n → Inv X pins σ H s → (∀ b ∈ [z, TI, TO, i1, i2, S], FpOk X pins H b) → ZSt z TI TO i1 i2 l1 l2 H i s.heap →
      SqL X.K H l1 xs → SqL X.K H l2 ys → s.heap.get? S = some { cls := .type "list", dict := none, data := .seq acc c, slots := #[] } → acc.toList = bs.map Value.ref → bs.length = i →
      (∀ (j : Nat) b, bs[j]? = some b → ∃ x y, xs[j]? = some x ∧ ys[j]? = some y ∧ H b = some (.tup [x, y])) → L2.Same H0 H →
      codeAny (model X.prog X.w) A (.builtin "list.extend.loop" ⟨[.ref S, .ref z, res], []⟩) R s := by
  intro k
  induction k with
  | zero =>
    intro i s H acc c bs hk hi I hf st q1 q2 hL ha hb hx sm
    have hin : i = n := by omega
    obtain ⟨its, rv, p1, _⟩ := I.list q1
    obtain ⟨its2, rv2, p2, _⟩ := I.list q2
    have e1 := rv.length
    have e2 := rv2.length
    have hend : its.toArray[i]? = none ∨ its2.toArray[i]? = none := by
      by_cases z : xs.length ≤ ys.length
      · exact .inl (by simp; omega)
      · exact .inr (by simp; omega)
    refine codeAny_builtin F.entry_extend_loop ?_
    rw [Around.under_plainId F.plain_extend_loop _]
    show wpAny _ A.in1 (pyNext (.ref z) >>= _) _ _ s
    obtain ⟨hz, hTI, ⟨a, b, hTO⟩, h1, h2⟩ := st
    have fin : ∀ h', (∀ c o, c ≠ z → c ≠ TO → c ≠ i1 → c ≠ i2 → s.heap.get? c = some o → h'.get? c = some o) → R (.ok (.ret res)) { s with heap := h' } := fun h' hkp => by
      refine hR _ H acc c bs (I.turnedL (t' := s.toks) (ch := [z, TI, TO, i1, i2, S]) (fun c o hb q => hkp c o (fun q' => hb (by simp [q'])) (fun q' => hb (by simp [q'])) (fun q' => hb (by simp [q'])) (fun q' => hb (by simp [q'])) q) hf) hf ?_ ha (by omega) hx sm
      exact hkp S _ hS.1 hS.2.2.1 hS.2.2.2.1 hS.2.2.2.2 hL
    rcases hz with ⟨_, hz⟩ | ⟨T, f, t, hz, hT⟩
    · exact wpAny_bind (wpAny_pyNext_zip_end hh D hz hTI hTO h1 h2 p1.isList p2.isList hend fun h' hkp => wpAny_pure (fin h' hkp))
    · obtain ⟨o, ho⟩ := there I hT
      exact wpAny_bind (pyNext_zip_held_end hh D hz ho hTI hTO h1 h2 p1.isList p2.isList hend fun h' hkp => wpAny_pure (fin h' fun c o c1 c2 c3 c4 q => hkp c o c1 c3 c4 q))
  | succ k ih =>
    intro i s H acc c bs hk hi I hf st q1 q2 hL ha hb hx sm
    have hlt : i < n := by omega
    obtain ⟨its, rv, p1, _⟩ := I.list q1
    obtain ⟨its2, rv2, p2, hz2⟩ := I.list q2
    have e1 := rv.length
    have e2 := rv2.length
    obtain ⟨x, hxi⟩ : ∃ x, xs[i]? = some x := ⟨_, List.getElem?_eq_getElem (by omega)⟩
    obtain ⟨y, hyi⟩ : ∃ y, ys[i]? = some y := ⟨_, List.getElem?_eq_getElem (by omega)⟩
    obtain ⟨u, hu, ru⟩ := rv.get hxi
    obtain ⟨u2, hu2, ru2⟩ := rv2.get hyi
    refine codeAny_builtin F.entry_extend_loop ?_
    rw [Around.under_plainId F.plain_extend_loop _]
    show wpAny _ A.in1 (pyNext (.ref z) >>= _) _ _ s
    obtain ⟨hz, hTI, ⟨a, b, hTO⟩, h1, h2⟩ := st
    have hsz : acc.size = i := by rw [← Array.length_toList, ha, List.length_map, hb]
    have hil : i ≤ sizeLine := by omega
    have ltS : S < s.heap.objs.size := Heap.lt_size hL
    have ltz : z < s.heap.objs.size := by rcases hz with ⟨_, hz⟩ | ⟨T, f, t, hz, hT⟩ <;> exact Heap.lt_size hz
    have ltTI : TI < s.heap.objs.size := Heap.lt_size hTI
    have ltTO : TO < s.heap.objs.size := Heap.lt_size hTO
    have lt1 : i1 < s.heap.objs.size := by obtain ⟨_, e, _⟩ := h1; exact Heap.lt_size e
    have lt2 : i2 < s.heap.objs.size := by obtain ⟨_, e, _⟩ := h2; exact Heap.lt_size e
    /- the turn's end, whichever way it came -/
    have turn : ∀ h' (T : Addr) f t (a' b' : Value), (T = s.heap.objs.size ∧ t = [x, y] ∨ H T = some (.tup t)) → IsZipH h' z TI TO (rawInt T) (.bool f) → IsPair h' TO a' b' → h'.IsListIter i1 l1 (i + 1) → h'.IsListIter i2 l2 (i + 1) → IsPair h' s.heap.objs.size u u2 →
        (∀ c o, c ≠ z → c ≠ TO → c ≠ i1 → c ≠ i2 → s.heap.get? c = some o → h'.get? c = some o) →
        wpAny (model X.prog X.w) A.in1 (updateSeq S (·.push (.ref s.heap.objs.size)) >>= fun _ => again (.builtin "list.extend.loop" ⟨[.ref S, .ref z, res], []⟩)) (fun fin s' => match fin with | .done f => R (.ok f) s' | .again c' => c'.quiet = true ∧ codeAny (model X.prog X.w) A c' R s') (fun e s' => R (.error e) s') { s with heap := h' } := by
      intro h' T f t a' b' hT z' TO' h1' h2' hP hkp
      have hS' : h'.get? S = some { cls := .type "list", dict := none, data := .seq acc c, slots := #[] } := hkp S _ hS.1 hS.2.2.1 hS.2.2.2.1 hS.2.2.2.2 hL
      refine wpAny_bind ?_
      refine wpAny_updateSeq (s := { s with heap := h' }) hS' rfl (wpAny_pure ⟨plainId_quiet F.plain_extend_loop _, ?_⟩) (by rw [hsz]; omega) (by show (acc.push _).size ≤ sizeLine + 1; rw [Array.size_push, hsz]; omega)
      have hU : ∀ c o, c ≠ S → h'.get? c = some o → (h'.update S (Obj.mapSeq (·.push (.ref s.heap.objs.size)))).get? c = some o := fun c o hc e => (Heap.get?_update_other _ _ (Ne.symm hc)).trans e
      have hU2 : ∀ c o, c ≠ S → c ≠ z → c ≠ TO → c ≠ i1 → c ≠ i2 → s.heap.get? c = some o → (h'.update S (Obj.mapSeq (·.push (.ref s.heap.objs.size)))).get? c = some o := fun c o c0 c1 c2 c3 c4 e => hU c o c0 (hkp c o c1 c2 c3 c4 e)
      have hTn : H s.heap.objs.size = none := I.hok.fresh (Nat.le_refl _)
      have hPT := hU s.heap.objs.size _ (Nat.ne_of_gt ltS) hP
      have new : ObjOk X.prog X.w (upd H s.heap.objs.size (.tup [x, y])) (h'.update S (Obj.mapSeq (·.push (.ref s.heap.objs.size)))) s.heap.objs.size (.tup [x, y]) :=
        ⟨by show 2 ≤ sizeLine; decide, [u, u2], .cons ru (.cons ru2 .nil), ⟨_, hPT, rfl, _, rfl⟩⟩
      have I1 : Inv X pins σ (upd H s.heap.objs.size (.tup [x, y])) { s with heap := h'.update S (Obj.mapSeq (·.push (.ref s.heap.objs.size))) } :=
        I.turnedNew (t' := s.toks) (ch := [z, TI, TO, i1, i2, S]) (fun c o hb q => hU2 c o (fun q' => hb (by simp [q'])) (fun q' => hb (by simp [q'])) (fun q' => hb (by simp [q'])) (fun q' => hb (by simp [q'])) (fun q' => hb (by simp [q'])) q) hf (Nat.le_refl _) new
      have same : L2.Same H (upd H s.heap.objs.size (.tup [x, y])) := fun c o e => by rw [upd_ne (ne_of_none e hTn)]; exact e
      have hf1 : ∀ b ∈ [z, TI, TO, i1, i2, S], FpOk X pins (upd H s.heap.objs.size (.tup [x, y])) b := fun b hb => by
        have lt : b < s.heap.objs.size := by
          simp at hb
          rcases hb with q | q | q | q | q | q <;> rw [q] <;> assumption
        obtain ⟨f1, f2⟩ := hf b hb
        exact ⟨by rw [upd_ne (Nat.ne_of_lt lt)]; exact f1, f2⟩
      refine ih (i + 1) _ _ (acc.push (.ref s.heap.objs.size)) _ (bs ++ [s.heap.objs.size]) (by omega) (by omega) I1 hf1 ⟨.inr ⟨T, f, t, hU _ _ hS.1.symm z', ?_⟩, hU2 _ _ hS.2.1.symm D.TIz D.TITO D.TIi1 D.TIi2 hTI, ⟨a', b', hU _ _ hS.2.2.1.symm TO'⟩, h1'.at fun o e => hU _ o hS.2.2.2.1.symm e, h2'.at fun o e => hU _ o hS.2.2.2.2.symm e⟩
        (same.seq q1) (same.seq q2) (Heap.get?_update_self _ hS' rfl) (by simp [ha]) (by simp [hb]) (fun j b hj => ?_) (sm.trans same)
      · rcases hT with ⟨rfl, rfl⟩ | hT
        · exact upd_same
        · exact same _ _ hT
      · rcases Nat.lt_or_ge j bs.length with hl | hl
        · rw [List.getElem?_append_left hl] at hj
          obtain ⟨x', y', e1, e2, e3⟩ := hx j b hj
          exact ⟨x', y', e1, e2, same _ _ e3⟩
        · rw [List.getElem?_append_right hl] at hj
          have h0 : j - bs.length = 0 := by
            have := (List.getElem?_eq_some_iff.mp hj).1
            simp at this; omega
          rw [h0] at hj
          simp at hj
          have hj2 : j = i := by omega
          subst hj2
          exact ⟨x, y, hxi, hyi, by rw [← hj]; exact upd_same⟩
    rcases hz with ⟨h0, hz⟩ | ⟨T, f, t, hz, hT⟩
    · refine wpAny_bind (wpAny_pyNext_zip_item D hz hTI hTO h1 h2 p1.isList p2.isList (x := u) (y := u2) (by simpa using hu) (by simpa using hu2) fun h' z' TO' h1' h2' hT hsz hk => ?_)
      exact turn h' _ false [x, y] _ _ (.inl ⟨rfl, rfl⟩) z' TO' h1' h2' hT hk
    · obtain ⟨o, ho⟩ := there I hT
      refine wpAny_bind (pyNext_zip_held D hz ho hTI hTO h1 h2 p1.isList p2.isList (x := u) (y := u2) (by simpa using hu) (by simpa using hu2) fun h' z' h1' h2' hT' hsz hk => ?_)
      exact turn h' _ true t _ _ (.inr hT) z' (hk _ _ D.TOz D.TOi1 D.TOi2 hTO) h1' h2' hT' fun c o c1 c2 c3 c4 q => hk c o c1 c3 c4 q
end
/-! ### the call -/
theorem zip_no_len : typeLookup (.type "zip") "__len__" = pure none := by rw [typeLookup_type, builtinLookup_eq_fast]; kernel_rfl
theorem zip_no_hint : typeLookup (.type "zip") "__length_hint__" = pure none := by rw [typeLookup_type, builtinLookup_eq_fast]; kernel_rfl
section
variable {X : Cx}
/-- an untracked object of ours becomes a list of ours -/
theorem tracked {pins : List (Addr × Obj)} {σ : L2.St} {H : Hp} {s : Shared} {S : Addr} {acc : Array Value} {c : Nat} {out : List V} (I : Inv X pins σ H s) (hf : FpOk X pins H S) (hlen : out.length ≤ sizeLine)
    (e : s.heap.get? S = some { cls := .type "list", dict := none, data := .seq acc c, slots := #[] }) (r : Vals out acc.toList) : Inv X pins σ (upd H S (.lst out)) s := by
  obtain ⟨hn, f1, f2, f3, f4, f5⟩ := hf
  have st := I.step (H' := upd H S (.lst out)) (h' := s.heap) (g' := s.gens) (d' := s.drawn) (t' := s.toks) (ch := [S]) (fun b hb => by
      rw [List.mem_singleton.mp hb]; exact ⟨f3, f1, f4, f5⟩) (fun b o _ _ _ e _ => e) (fun b o _ _ _ e _ => ⟨o.slots, e⟩) (fun b o hb _ n => by rw [upd_ne (fun z => hb (by simp [z]))]; exact n)
    (fun b o _ e => ⟨o, e⟩) (fun b xs q => by rw [upd_ne (ne_of_none q hn)]; exact q) (fun b o y q => by rw [upd_ne (ne_of_none q hn)]; exact q) (fun b ps q => ⟨#[], by rw [upd_ne (ne_of_none q hn), q]; simp⟩) (fun m hm => hm) (fun b u q => ?_) I.bare
  · exact st
  · by_cases hb : b = S
    · subst hb
      rw [upd_same] at q
      cases q
      exact ⟨hlen, acc.toList, c, r, by rw [e]⟩
    · rw [upd_ne hb] at q
      exact (I.hok b u q).stay (fun _ _ _ z => z) (fun d z => by rw [upd_ne (ne_of_none z hn)]; exact z) fun d xs z => by rw [upd_ne (ne_of_none z hn)]; exact z
theorem vals_refs : ∀ bs : List Addr, Vals (bs.map V.ref) (bs.map Value.ref)
  | [] => .nil
  | b :: bs => .cons rfl (vals_refs bs)
def rListZip (K : PySem.W.Frag) : List V → Hp → VK → Prop := fun vs H Q => ∃ a b xs ys, vs = [.ref a, .ref b] ∧ SqL K H a xs ∧ SqL K H b ys ∧
  ∀ H' (bs : List Addr) p, L2.Same H H' → bs.length = min xs.length ys.length → (∀ (j : Nat) c, bs[j]? = some c → ∃ x y, xs[j]? = some x ∧ ys[j]? = some y ∧ H' c = some (.tup [x, y])) → H' p = none → Q (.ref p) (upd H' p (.lst (bs.map V.ref)))
theorem call_listZip {pins : List (Addr × Obj)} {σ : L2.St} {H : Hp} {s : Shared} {Q : VK} {l1 l2 z TI TO i1 i2 : Addr} {xs ys : List V} (hc : X.calm = true) (I : Inv X pins σ H s) (q1 : SqL X.K H l1 xs) (q2 : SqL X.K H l2 ys)
    (D : ZipApart z TI TO i1 i2 l1 l2) (hf : ∀ b ∈ [z, TI, TO, i1, i2], FpOk X pins H b) (hz : IsZip s.heap z TI TO .none) (hTI : IsPair s.heap TI (.ref i1) (.ref i2)) (hTO : ∃ a b, IsPair s.heap TO a b) (h1 : s.heap.IsListIter i1 l1 0) (h2 : s.heap.IsListIter i2 l2 0)
    (hQ : ∀ H' (bs : List Addr) p, L2.Same H H' → bs.length = min xs.length ys.length → (∀ (j : Nat) c, bs[j]? = some c → ∃ x y, xs[j]? = some x ∧ ys[j]? = some y ∧ H' c = some (.tup [x, y])) → H' p = none → Q (.ref p) (upd H' p (.lst (bs.map V.ref)))) :
    wpAny (model X.prog X.w) X.A (call (.type "list") [.ref z]) (EP X pins σ Q) X.xe s := by
  have hh : X.A.handled = none := I.ok.hd hc
  have ltz : z < s.heap.objs.size := Heap.lt_size hz
  have hSz : s.heap.objs.size ≠ z := Nat.ne_of_gt ltz
  refine callType_codes (Q₁ := fun obj s₁ => obj = .ref s.heap.objs.size ∧ s₁ = { s with heap := s.heap.push { cls := .type "list", data := .seq #[] } }) F.called_list (F.typeCall_list_1 _) F.entry_list_init
    (code_list_new _ ⟨rfl, rfl⟩) fun obj s₁ h₁ => ?_
  obtain ⟨rfl, rfl⟩ := h₁
  have hS : (s.heap.push { cls := .type "list", data := .seq #[] }).get? s.heap.objs.size = some { cls := .type "list", data := .seq #[] } := Heap.get?_push_size _ rfl
  refine ⟨⟨_, hS, rfl⟩, F.args_list_init_2 _ _, ?_⟩
  show wpAny _ X.A.in1.in1 (do let old ← Builtin.List.listItems (.ref s.heap.objs.size); Builtin.List.listUpdate (.ref s.heap.objs.size) (fun _ => #[]); letGo old.toList.reverse; Builtin.List.listExtendWith (.ref s.heap.objs.size) (.ref z) .none) _ _ _
  refine wpAny_bind ?_
  unfold Builtin.List.listItems
  refine wpAny_bind (wpAny_seqItems hS rfl (wpAny_pure ?_))
  show wpAny _ X.A.in1.in1 (updateSeq s.heap.objs.size (fun _ => #[]) >>= fun _ => letGo (#[] : Array Value).toList.reverse >>= fun _ => Builtin.List.listExtendWith (.ref s.heap.objs.size) (.ref z) .none) _ _ _
  refine wpAny_bind (wpAny_updateSeq hS rfl ?_)
  have hS2 := Heap.get?_update_self (Obj.mapSeq (fun _ => (#[] : Array Value))) hS rfl
  refine wpAny_bind (wpAny_letGo ?_)
  unfold Builtin.List.listExtendWith
  have up : ∀ (h : Heap) (f : Obj → Obj), (∀ b o, s.heap.get? b = some o → h.get? b = some o) → ∀ b o, s.heap.get? b = some o → (h.update s.heap.objs.size f).get? b = some o := fun h f q b o e =>
    (Heap.get?_update_other _ _ (Ne.symm (Nat.ne_of_lt (Heap.lt_size e)))).trans (q b o e)
  have k1 : ∀ b o, s.heap.get? b = some o → (s.heap.push { cls := .type "list", data := .seq #[] }).get? b = some o := fun b o e => Heap.get?_push_of_some _ e
  have k2 := up _ (Obj.mapSeq (fun _ => (#[] : Array Value))) k1
  have gty : ∀ {h : Heap}, (∀ b o, s.heap.get? b = some o → h.get? b = some o) → ({ s with heap := h } : Shared).TypeIs (.ref z) "zip" := fun {h} q => ⟨_, q _ _ hz, rfl⟩
  refine wpAny_bind (wpAny_typeOf (gty k2) ?_)
  have e1 : Builtin.List.listSameRef (.ref s.heap.objs.size) (.ref z) = false := by simp [Builtin.List.listSameRef, hSz]
  have e2 : (Value.type "zip" == Value.type "list") = false := by decide
  have e3 : (Value.type "zip" == Value.type "tuple") = false := by decide
  simp only [e1, e2, e3, Bool.or_false, Bool.false_eq_true, if_false]
  refine wpAny_bind (wpAny_pyIter_zip (k2 _ _ hz) ?_)
  refine wpAny_bind (wpAny_holding ?_)
  unfold Builtin.List.listLengthHint
  refine wpAny_bind (wpAny_specialOf (gty k2) zip_no_len ?_)
  show wpAny _ X.A.in1.in1 (specialOf (Value.ref z) (Str.ofString "__length_hint__") >>= _) _ _ _
  refine wpAny_bind (wpAny_specialOf (gty k2) zip_no_hint ?_)
  refine wpAny_pure ?_
  show wpAny _ X.A.in1.in1 (rule "list.extend.makes-room" >>= fun _ => Builtin.List.listTouch (.ref s.heap.objs.size) >>= fun _ =>
    again (.builtin "list.extend.loop" ⟨[.ref s.heap.objs.size, .ref z, .none], []⟩)) _ _ _
  refine wpAny_bind (wpAny_rule ?_)
  refine wpAny_bind ?_
  show wpAny _ X.A.in1.in1 (updateSeq s.heap.objs.size (·.push .none) >>= fun _ => updateSeq s.heap.objs.size (·.pop)) _ _ _
  refine wpAny_bind (wpAny_updateSeq hS2 rfl ?_)
  have hS3 := Heap.get?_update_self (Obj.mapSeq (·.push Value.none)) hS2 rfl
  refine wpAny_updateSeq (hz := by seq_fits) hS3 rfl ?_
  have hS4 := Heap.get?_update_self (Obj.mapSeq (·.pop)) hS3 rfl
  have k4 := up _ (Obj.mapSeq (·.pop)) (up _ (Obj.mapSeq (·.push Value.none)) k2)
  refine wpAny_pure ⟨plainId_quiet F.plain_extend_loop _, ?_⟩
  have hz' := hz
  obtain ⟨a0, b0, hTO⟩ := hTO
  have ltTI : TI < s.heap.objs.size := Heap.lt_size hTI
  have ltTO : TO < s.heap.objs.size := Heap.lt_size hTO
  have lt1 : i1 < s.heap.objs.size := by obtain ⟨_, e, _⟩ := h1; exact Heap.lt_size e
  have lt2 : i2 < s.heap.objs.size := by obtain ⟨_, e, _⟩ := h2; exact Heap.lt_size e
  refine extend_zip (X := X) (A := X.A.in1) hh (pins := pins) (σ := σ) (xs := xs) (ys := ys) (n := min xs.length ys.length) (H0 := H) rfl D ⟨hSz, Nat.ne_of_gt ltTI, Nat.ne_of_gt ltTO, Nat.ne_of_gt lt1, Nat.ne_of_gt lt2⟩ .none ?_ _ 0 _ H #[] _ [] rfl (Nat.zero_le _) (I.kept (t' := s.toks) k4) ?_
    ⟨.inl ⟨rfl, k4 _ _ hz⟩, k4 _ _ hTI, ⟨_, _, k4 _ _ hTO⟩, h1.at fun o e => k4 _ o e, h2.at fun o e => k4 _ o e⟩ q1 q2 hS4 rfl rfl (by simp) (fun _ _ e => e)
  · intro s' H' acc c bs I' hf' hL ha hb hx sm
    refine ⟨rfl, ?_⟩
    have hfS := hf' s.heap.objs.size (by simp)
    have hlen : (bs.map V.ref).length ≤ sizeLine := by
      obtain ⟨_, _, _, z⟩ := I.list q1
      rw [List.length_map, hb]
      exact Nat.le_trans (Nat.min_le_left ..) z
    exact ⟨.ref s.heap.objs.size, _, tracked I' hfS hlen hL (by rw [ha]; exact vals_refs bs), rfl, hQ H' bs _ sm hb hx hfS.1⟩
  · intro b hb
    by_cases h : b = s.heap.objs.size
    · subst h
      exact I.fpOk (Nat.le_refl _) (I.hok.fresh (Nat.le_refl _))
    · refine hf b ?_
      simp at hb ⊢
      rcases hb with q | q | q | q | q | q
      all_goals first | exact absurd q h | simp [q]
theorem pe_listZip {e e2 : Expr} {ta : TA} {p p2 pos2 pos : Pos} (hc : X.calm = true) (hg : Gl X "list") (hm : X.mg "list" = none) (hg2 : Gl X "zip") (hm2 : X.mg "zip" = none) (ha : PA X [e, e2] ta)
    (hs : starEach [e, e2] X.env = (false, eval e X.env) :: starEach [e2] X.env) (hpl : (backTo pos2 (starEach [e2] X.env)).any (·.1) = false) :
    PE X (.Call (.Name "list" p) [.Call (.Name "zip" p2) [e, e2] [] pos2] [] pos) (tCB (rListZip X.K) ta) := by
  refine ⟨fun pins s σ H Q I h => ?_⟩
  have na : starEach [Expr.Call (.Name "zip" p2) [e, e2] [] pos2] X.env = (false, eval (Expr.Call (.Name "zip" p2) [e, e2] [] pos2) X.env) :: starEach [] X.env := rfl
  refine Call_ (ld_blt I hg hm boot_list (PyProof.Rows.callWith_type1 (args_cons ?_ na) na))
  refine Call_ (ld_blt I hg2 hm2 PyProof.Rows.boot_zip (PyProof.Rows.callWith_type1 (thn (ha.run pos2 pins s σ H _ I h) fun us s1 ⟨vs, H1, I1, r1, q1⟩ => ?_) hs hpl))
  obtain ⟨a, b, xs, ys, ex, hqx, hqy, q⟩ := q1
  subst ex
  cases r1 with
  | cons r rr =>
    cases rr with
    | cons r' rr =>
      cases rr
      cases r
      cases r'
      obtain ⟨its, rv, p1, _⟩ := I1.list hqx
      obtain ⟨its2, rv2, p3, _⟩ := I1.list hqy
      have la : a < s1.heap.objs.size := p1.lt
      have lb : b < s1.heap.objs.size := p3.lt
      refine call_zip_2 p1.isList p3.isList fun h' hz hTI hTO h1 h2 hsz hk => args_nil ?_
      have I2 : Inv X pins σ H1 { s1 with heap := h' } := I1.kept (t' := s1.toks) hk
      refine call_listZip hc I2 hqx hqy (PySem.W.ktu_apart s1.heap.objs.size a b la lb) (fun c hcm => ?_) hz hTI ⟨_, _, hTO⟩ h1 h2 q
      have e' : c = s1.heap.objs.size + 4 ∨ c = s1.heap.objs.size + 2 ∨ c = s1.heap.objs.size + 3 ∨ c = s1.heap.objs.size ∨ c = s1.heap.objs.size + 1 := by simpa using hcm
      have hle : s1.heap.objs.size ≤ c := by
        rcases e' with z | z | z | z | z
        · rw [z]; exact Nat.le_add_right _ _
        · rw [z]; exact Nat.le_add_right _ _
        · rw [z]; exact Nat.le_add_right _ _
        · rw [z]; exact Nat.le_refl _
        · rw [z]; exact Nat.le_add_right _ _
      exact I1.fpOk hle (I1.hok.fresh hle)
/-! ### list(range(..)) -/
def tRgA1 (ta : TA) : L2.St → Hp → (Int → Int → Hp → Prop) → Prop := fun σ H Q => ta σ H fun vs H1 => ∃ n, vs = [.int n] ∧ Q 0 n H1
def tRgA2 (ta : TA) : L2.St → Hp → (Int → Int → Hp → Prop) → Prop := fun σ H Q => ta σ H fun vs H1 => ∃ i j, vs = [.int i, .int j] ∧ Q i j H1
theorem prg_A1 {a : Expr} {ta : TA} {p pos : Pos} (hg : Gl X "range") (hm : X.mg "range" = none) (ha : PA X [a] ta) (hs : starEach [a] X.env = [(false, eval a X.env)]) : PRg X (.Call (.Name "range" p) [a] [] pos) (tRgA1 ta) := by
  intro pins s σ H Q I h
  refine Call_ (ld_blt I hg hm boot_range (PyProof.Rows.callWith_type1 (thn (ha.run pos pins s σ H _ I h) fun us s1 ⟨vs, H1, I1, r1, q1⟩ => ?_) hs rfl))
  obtain ⟨n, rfl, q⟩ := q1
  cases r1 with
  | cons r rr =>
    cases rr
    obtain ⟨t, rfl⟩ := r
    exact call_range_1 ⟨_, 0, n, _, _, _, H1, rfl, IsRange.new _ _ _ _ _ _ _, I1.kept fun b u e => Heap.get?_push_of_some _ e, q⟩
theorem prg_A2 {a b : Expr} {ta : TA} {p pos : Pos} (hg : Gl X "range") (hm : X.mg "range" = none) (ha : PA X [a, b] ta) (hs : starEach [a, b] X.env = [(false, eval a X.env), (false, eval b X.env)]) (hs2 : starEach [b] X.env = [(false, eval b X.env)]) : PRg X (.Call (.Name "range" p) [a, b] [] pos) (tRgA2 ta) := by
  intro pins s σ H Q I h
  refine Call_ (ld_blt I hg hm boot_range (PyProof.Rows.callWith_type1 (thn (ha.run pos pins s σ H _ I h) fun us s1 ⟨vs, H1, I1, r1, q1⟩ => ?_) (by rw [hs, hs2]) (by rw [hs2]; rfl)))
  obtain ⟨i, j, rfl, q⟩ := q1
  cases r1 with
  | cons r rr =>
    cases rr with
    | cons r' rr =>
      cases rr
      obtain ⟨t, rfl⟩ := r
      obtain ⟨t', rfl⟩ := r'
      exact call_range_2 ⟨_, i, j, _, _, _, H1, rfl, IsRange.new _ _ _ _ _ _ _, I1.kept fun b u e => Heap.get?_push_of_some _ e, q⟩
end
/-! ### what they do to our values -/
def rS (K : PySem.W.Frag) (f : Spc) : List V → Hp → VK → Prop := fun vs H Q => ∃ b φ st ps r st', HR K φ st H ∧ b ≤ st.length ∧ RVs K φ H ps vs ∧ spc f ps st = some (r, st') ∧
  ∀ φ' v H', After K φ φ' H H' st st' b → RV K φ' H' r v → Q v H'
section
variable {K : PySem.W.Frag} {φ : List Addr} {H H' : Hp}
theorem paired_rvs : ∀ {xs ys : List PV} {vx vy : List V} {bs : List Addr}, RVs K φ H xs vx → RVs K φ H ys vy → Tp K H H' → bs.length = min vx.length vy.length →
    (∀ (j : Nat) c, bs[j]? = some c → ∃ x y, vx[j]? = some x ∧ vy[j]? = some y ∧ H' c = some (.tup [x, y])) → RVs K φ H' (paired xs ys) (bs.map V.ref)
  | [], ys, vx, vy, bs, rx, ry, ht, hl, hb => by
    have : vx = [] := rx.nil_inv
    subst this
    have : bs = [] := List.eq_nil_of_length_eq_zero (by simpa using hl)
    subst this
    exact RVs.nil
  | x :: xs, [], vx, vy, bs, rx, ry, ht, hl, hb => by
    have : vy = [] := ry.nil_inv
    subst this
    have : bs = [] := List.eq_nil_of_length_eq_zero (by simpa using hl)
    subst this
    exact RVs.nil
  | x :: xs, y :: ys, vx, vy, bs, rx, ry, ht, hl, hb => by
    obtain ⟨v, ws, rfl, a1, a2⟩ := rx.cons_inv
    obtain ⟨u, us, rfl, b1, b2⟩ := ry.cons_inv
    cases bs with
    | nil => simp at hl
    | cons c bs =>
      obtain ⟨x', y', e1, e2, e3⟩ := hb 0 c rfl
      cases e1
      cases e2
      refine RVs.cons (rv_tup (.inl (.inl e3)) (.cons (a1.mono (List.prefix_refl _) ht) (.cons (b1.mono (List.prefix_refl _) ht) .nil))) (paired_rvs a2 b2 ht (by simpa using hl) fun j d hd => hb (j + 1) d (by simpa using hd))
theorem Tp.of_same (h : L2.Same H H') : Tp K H H' := fun a vs q => q.elim (fun z => .inl (z.elim (fun z => .inl (h _ _ z)) fun ⟨o, z⟩ => .inr ⟨o, h _ _ z⟩)) .inr
theorem rS_zip {vs : List V} {Q : VK} (h : rS K .lzip vs H Q) : rListZip K vs H Q := by
  obtain ⟨b, φ, st, ps, r, st', hr, hb, rp, e, k⟩ := h
  match ps, e with
  | [p, q], e =>
    simp only [spc, Option.bind_eq_some_iff] at e
    obtain ⟨xs, e1, ys, e2, e3⟩ := e
    cases e3
    obtain ⟨v, ws, rfl, rv, rw_⟩ := rp.cons_inv
    obtain ⟨u, us, rfl, ru, rn⟩ := rw_.cons_inv
    have := rn.nil_inv
    subst this
    obtain ⟨a, vx, rfl, w1, rr1⟩ := hr.lstOf e1 rv
    obtain ⟨c, vy, rfl, w2, rr2⟩ := hr.lstOf e2 ru
    refine ⟨a, c, vx, vy, rfl, w1, w2, fun H' bs p sm hl hbs hp => ?_⟩
    have ht : Tp K H H' := Tp.of_same sm
    have hr' : HR K φ st H' := hr.same ht sm
    obtain ⟨f1, f2⟩ := After.lst (b := b) hr' hb hp (paired_rvs rr1 rr2 ht hl hbs)
    exact k _ _ _ ⟨f1.pre, ht.trans f1.tp, f1.hr, f1.gr⟩ f2
theorem rg_rvs (i : Int) (n : Nat) : RVs K φ H (counted i n) ((List.range n).map fun j => V.int (i + (j : Nat))) := by
  induction n generalizing i with
  | zero => exact RVs.nil
  | succ n ih =>
    rw [List.range_succ_eq_map, List.map_cons, List.map_map]
    refine RVs.cons ?_ ?_
    · have := rv_int (K := K) (φ := φ) (H := H) i
      simpa using this
    · have := ih (i + 1)
      have e : (List.map ((fun j : Nat => V.int (i + (j : Int))) ∘ Nat.succ) (List.range n)) = (List.range n).map fun j : Nat => V.int (i + 1 + (j : Int)) := by
        apply List.map_congr_left
        intro j _
        show V.int (i + ((j + 1 : Nat) : Int)) = _
        congr 1
        omega
      rw [e]
      exact this
theorem rS_rng2 {vs : List V} {Q : VK} (h : rS K .lrng2 vs H Q) : ∃ i j, vs = [.int i, .int j] ∧ RgOk i j ∧ ∀ q, H q = none → Q (.ref q) (upd H q (.lst (rgV i j))) := by
  obtain ⟨b, φ, st, ps, r, st', hr, hb, rp, e, k⟩ := h
  match ps, e with
  | [.int i, .int j], e =>
    simp only [spc] at e
    split at e
    · rename_i hc
      obtain ⟨c1, c2, c3, c4⟩ := hc
      cases e
      obtain ⟨v, ws, rfl, rv, rw_⟩ := rp.cons_inv
      obtain ⟨u, us, rfl, ru, rn⟩ := rw_.cons_inv
      have := rn.nil_inv
      subst this
      have q1 := rv.int
      have q2 := ru.int
      subst q1; subst q2
      have hm : (most : Int) = 1000000 := rfl
      refine ⟨i, j, rfl, ⟨by omega, by omega, by omega, by omega, by omega⟩, fun q hq => ?_⟩
      obtain ⟨f1, f2⟩ := After.lst (b := b) (vs := rgV i j) hr hb hq (by unfold rgV; exact rg_rvs i _)
      exact k _ _ _ f1 f2
    · cases e
theorem rS_rng1 {vs : List V} {Q : VK} (h : rS K .lrng1 vs H Q) : ∃ j, vs = [.int j] ∧ RgOk 0 j ∧ ∀ q, H q = none → Q (.ref q) (upd H q (.lst (rgV 0 j))) := by
  obtain ⟨b, φ, st, ps, r, st', hr, hb, rp, e, k⟩ := h
  match ps, e with
  | [.int j], e =>
    simp only [spc] at e
    split at e
    · rename_i hc
      obtain ⟨c3, c4⟩ := hc
      cases e
      obtain ⟨v, ws, rfl, rv, rn⟩ := rp.cons_inv
      have := rn.nil_inv
      subst this
      have q1 := rv.int
      subst q1
      have hm : (most : Int) = 1000000 := rfl
      refine ⟨j, rfl, ⟨by omega, by omega, by omega, by omega, by omega⟩, fun q hq => ?_⟩
      obtain ⟨f1, f2⟩ := After.lst (b := b) (vs := rgV 0 j) hr hb hq (by unfold rgV; rw [Int.sub_zero]; exact rg_rvs 0 _)
      exact k _ _ _ f1 f2
    · cases e
end
end MP

end
section
set_option Elab.async false
set_option linter.all false
set_option maxRecDepth 100000
set_option maxHeartbeats 4000000
/-! MP: zip of a list and a tuple. -/
namespace MP
open PySem PySem.Spec PyProof.Rows L2
def ItzM (K : PySem.W.Frag) (a b : Addr) : It :=
  ⟨fun i H => ∃ (xs ys : List V) (x y : V), SqL K H a xs ∧ SqT K H b ys ∧ xs[i]? = some x ∧ ys[i]? = some y,
    fun i H v H' => ∃ T x y, v = .ref T ∧ H T = none ∧ H' = upd H T (.tup [x, y]) ∧ (∀ xs, SqL K H a xs → xs[i]? = some x) ∧ ∀ ys, SqT K H b ys → ys[i]? = some y,
    fun i H => ∃ xs ys : List V, SqL K H a xs ∧ SqT K H b ys ∧ i ≤ xs.length ∧ i ≤ ys.length ∧ (i = xs.length ∨ i = ys.length)⟩
theorem sep_of {z TI TO i1 i2 a b : Addr} (D : ZipApart z TI TO i1 i2 a b) : ZipSep2 z TI TO i1 i2 [i1, a] [i2, b] where
  TIz := D.TIz
  TOz := D.TOz
  TITO := D.TITO
  TIi1 := D.TIi1
  mem1 := by simp
  zf1 := by simp [D.i1z.symm, D.l1z.symm]
  Tf1 := by simp [D.TOi1, D.l1TO.symm]
  TIi2 := D.TIi2
  mem2 := by simp
  zf2 := by simp [D.i2z.symm, D.l2z.symm]
  Tf2 := by simp [D.TOi2, D.l2TO.symm]
  sep1_2 := by simp [D.i12, D.l2i1.symm]
  sep2_1 := by simp [D.i12.symm, D.l1i2.symm]
theorem turn_zipM {P : Program} {w : World} {K : PySem.W.Frag} {elts : List Expr} {kk : Nat} {tpos : Pos} {a b z TI TO i1 i2 : Addr} (D : ZipApart z TI TO i1 i2 a b) :
    Turn P w K (.Tuple elts kk tpos) (ItzM K a b) [z, TI, TO, i1, i2] z (fun i h => IsZip h z TI TO .none ∧ IsPair h TI (.ref i1) (.ref i2) ∧ (∃ x y, IsPair h TO x y) ∧ h.IsListIter i1 a i ∧ h.IsTupleIter i2 b i) where
  mem := by simp
  obj := fun i h st c hc => by
    obtain ⟨hz, hTI, ⟨x, y, hTO⟩, ⟨o1, e1, _, d1⟩, ⟨o2, e2, _, d2⟩⟩ := st
    simp only [List.mem_cons, List.not_mem_nil, or_false] at hc
    rcases hc with rfl | rfl | rfl | rfl | rfl
    · exact ⟨_, hz, nofun⟩
    · exact ⟨_, hTI, nofun⟩
    · exact ⟨_, hTO, nofun⟩
    · exact ⟨o1, e1, fun v q => by rw [d1] at q; cases q⟩
    · exact ⟨o2, e2, fun v q => by rw [d2] at q; cases q⟩
  keep := fun i h h' st k => by
    obtain ⟨hz, hTI, ⟨x, y, hTO⟩, h1, h2⟩ := st
    exact ⟨k z (by simp) _ hz, k TI (by simp) _ hTI, ⟨x, y, k TO (by simp) _ hTO⟩, h1.at fun o q => k i1 (by simp) o q, h2.at fun o q => k i2 (by simp) o q⟩
  item := by
    intro X hP hw hK hc i pins s σ H E I hf st hg
    subst hP; subst hw; subst hK
    obtain ⟨hz, hTI, ⟨x0, y0, hTO⟩, h1, h2⟩ := st
    obtain ⟨xs, ys, x, y, hqx, hqy, hx, hy⟩ := hg
    obtain ⟨its, rv, p, _⟩ := I.list hqx
    obtain ⟨its2, rv2, p2, _⟩ := I.tuple hqy
    obtain ⟨u, hu, ru⟩ := rv.get hx
    obtain ⟨u2, hu2, ru2⟩ := rv2.get hy
    have hh : X.A.in1.handled = none := I.ok.hd hc
    have ltz : z < s.heap.objs.size := Heap.lt_size hz
    have ltT : TI < s.heap.objs.size := Heap.lt_size hTI
    have ltO : TO < s.heap.objs.size := Heap.lt_size hTO
    have lt1 : i1 < s.heap.objs.size := let ⟨_, e, _⟩ := h1; Heap.lt_size e
    have lt2 : i2 < s.heap.objs.size := let ⟨_, e, _⟩ := h2; Heap.lt_size e
    have il : i < its.toArray.size := by rw [List.size_toArray]; exact (List.getElem?_eq_some_iff.mp hu).1
    have il2 : i < its2.toArray.size := by rw [List.size_toArray]; exact (List.getElem?_eq_some_iff.mp hu2).1
    refine wpAny_pyNext_zipD2_item (sep_of D) (Draws.list hh i1 a D.l1i1 its.toArray) (Draws.tuple hh i2 b D.l2i2 its2.toArray) hz hTI hTO ⟨h1, p.isList⟩ ⟨h2, show s.heap.IsTuple b its2.toArray from p2⟩ il il2 fun v1 v2 h' tk q1 q2 hz' hTO' st1 st2 hT hsz hk => ?_
    have e1 : v1 = u := by rw [List.getElem?_toArray, hu] at q1; cases q1; rfl
    have e2 : v2 = u2 := by rw [List.getElem?_toArray, hu2] at q2; cases q2; rfl
    subst e1; subst e2
    refine ⟨_, rfl, wpAny_letOwnedTupleGo_zip (s := { s with heap := h', toks := tk }) hz' fun h'' hz'' sb => ?_⟩
    have same : ∀ c o, c ≠ z → c ≠ TO → c ≠ i1 → c ≠ i2 → s.heap.get? c = some o → h''.get? c = some o := fun c o c0 c1 c2 c3 q => (sb.2 c c0).trans (hk c o c0 c1 c2 c3 q)
    have hT2 : h''.get? s.heap.objs.size = some { cls := .type "tuple", data := .seq #[v1, v2] } := (sb.2 _ (Nat.ne_of_gt ltz)).trans hT
    have new : ObjOk X.prog X.w (upd H s.heap.objs.size (.tup [x, y])) h'' s.heap.objs.size (.tup [x, y]) := ⟨by show 2 ≤ sizeLine; decide, [v1, v2], .cons ru (.cons ru2 .nil), ⟨_, hT2, rfl, _, rfl⟩⟩
    have I1 : Inv X pins σ (upd H s.heap.objs.size (.tup [x, y])) { s with heap := h'', toks := tk } :=
      I.turnedNew (t' := tk) (ch := [z, TI, TO, i1, i2]) (fun c o hb q => same c o (by intro e; simp [e] at hb) (by intro e; simp [e] at hb) (by intro e; simp [e] at hb) (by intro e; simp [e] at hb) q) hf (Nat.le_refl _) new
    refine ⟨.ref s.heap.objs.size, _, I1, rfl, ⟨_, x, y, rfl, I.hok.fresh (Nat.le_refl _), rfl, fun l hl => by rw [I.list_inj hl hqx]; exact hx, fun l hl => by rw [I.tuple_inj hl hqy]; exact hy⟩, ⟨hz'', same _ _ D.TIz D.TITO D.TIi1 D.TIi2 hTI, ⟨v1, v2, (sb.2 _ D.TOz).trans hTO'⟩, st1.1.at fun o q => (sb.2 _ D.i1z).trans q, st2.1.at fun o q => (sb.2 _ D.i2z).trans q⟩, fun c hcm => ?_⟩
    have hlt : c < s.heap.objs.size := by
      simp only [List.mem_cons, List.not_mem_nil, or_false] at hcm
      rcases hcm with rfl | rfl | rfl | rfl | rfl <;> assumption
    rw [upd_ne (Nat.ne_of_lt hlt)]
    exact (hf c hcm).1
  done := by
    intro X hP hw hK hc i pins s σ H E I hf st hg
    subst hP; subst hw; subst hK
    obtain ⟨hz, hTI, ⟨x0, y0, hTO⟩, h1, h2⟩ := st
    obtain ⟨xs, ys, hqx, hqy, n1, n2, hend⟩ := hg
    obtain ⟨its, rv, p, _⟩ := I.list hqx
    obtain ⟨its2, rv2, p2, _⟩ := I.tuple hqy
    have l1 := rv.length
    have l2 := rv2.length
    have hh : X.A.in1.handled = none := I.ok.hd hc
    exact wpAny_pyNext_zipD2_end (sep_of D) (Draws.list hh i1 a D.l1i1 its.toArray) (Draws.tuple hh i2 b D.l2i2 its2.toArray) hz hTI hTO ⟨h1, p.isList⟩ ⟨h2, show s.heap.IsTuple b its2.toArray from p2⟩ (by simp; omega) (by simp; omega) (by simp; omega)
      fun h' tk hk => ⟨rfl, I.turnedL (t' := tk) (ch := [z, TI, TO, i1, i2]) (fun c o hb q => hk c o (by intro e; simp [e] at hb) (by intro e; simp [e] at hb) (by intro e; simp [e] at hb) (by intro e; simp [e] at hb) q) hf⟩
  self := fun A i s Q E st h => wpAny_pyIter_zip st.1 h
/-- zip of two lists, two tuples, a list and a tuple -/
def iZipB (K : PySem.W.Frag) (ta : TA) : TI := fun σ H R => ta σ H fun vs H1 => ∃ a b xs ys, vs = [.ref a, .ref b] ∧
  ((SqL K H1 a xs ∧ SqL K H1 b ys ∧ R (Itz K a b) H1) ∨ (SqT K H1 a xs ∧ SqT K H1 b ys ∧ R (RZ.ItzT K a b) H1) ∨ (SqL K H1 a xs ∧ SqT K H1 b ys ∧ R (ItzM K a b) H1))
theorem pi_zipB {X : Cx} {e e2 : Expr} {ta : TA} {p pos tpos : Pos} {elts : List Expr} {kk : Nat} (hg : Gl X "zip") (hm : X.mg "zip" = none) (ha : PA X [e, e2] ta)
    (hs : starEach [e, e2] X.env = (false, eval e X.env) :: starEach [e2] X.env) (hpl : (backTo pos (starEach [e2] X.env)).any (·.1) = false) :
    PI X (.Tuple elts kk tpos) (.Call (.Name "zip" p) [e, e2] [] pos) (iZipB X.K ta) := by
  refine ⟨fun pins s σ H R I h => ?_⟩
  refine Call_ (ld_blt I hg hm PyProof.Rows.boot_zip (PyProof.Rows.callWith_type1 (thn (ha.run pos pins s σ H _ I h) fun us s1 ⟨vs, H1, I1, r1, q1⟩ => ?_) hs hpl))
  obtain ⟨a, b, xs, ys, ex, q⟩ := q1
  subst ex
  cases r1 with
  | cons r rr =>
    cases rr with
    | cons r' rr =>
      cases rr
      cases r
      cases r'
      have fp : ∀ c ∈ [s1.heap.objs.size + 4, s1.heap.objs.size + 2, s1.heap.objs.size + 3, s1.heap.objs.size, s1.heap.objs.size + 1], FpOk X pins H1 c := fun c hcm => by
        have hle : s1.heap.objs.size ≤ c := by
          simp only [List.mem_cons, List.not_mem_nil, or_false] at hcm
          rcases hcm with z | z | z | z | z
          all_goals first | (rw [z]; exact Nat.le_add_right _ _) | (rw [z]; exact Nat.le_refl _)
        exact I1.fpOk hle (I1.hok.fresh hle)
      rcases q with ⟨hqx, hqy, q⟩ | ⟨hqx, hqy, q⟩ | ⟨hqx, hqy, q⟩
      · obtain ⟨its, rv, p1, _⟩ := I1.list hqx
        obtain ⟨its2, rv2, p2, _⟩ := I1.list hqy
        refine call_zip_2 p1.isList p2.isList fun h' hz hTI hTO h1 h2 hsz hk => wpAny_pyIter_zip hz ?_
        have I2 : Inv X pins σ H1 { s1 with heap := h' } := I1.kept (t' := s1.toks) hk
        exact ⟨_, _, _, _, H1, rfl, I2, turn_zip (PySem.W.ktu_apart s1.heap.objs.size a b p1.lt p2.lt), ⟨hz, hTI, ⟨_, _, hTO⟩, h1, h2⟩, fp, q⟩
      · obtain ⟨its, rv, p1, _⟩ := I1.tuple hqx
        obtain ⟨its2, rv2, p2, _⟩ := I1.tuple hqy
        obtain ⟨o1, e1, _⟩ := id p1
        obtain ⟨o2, e2, _⟩ := id p2
        refine RZ.call_zipT (show s1.heap.IsTuple a its.toArray from p1) (show s1.heap.IsTuple b its2.toArray from p2) fun h' hz hTI hTO h1 h2 hsz hk => wpAny_pyIter_zip hz ?_
        have I2 : Inv X pins σ H1 { s1 with heap := h' } := I1.kept (t' := s1.toks) hk
        exact ⟨_, _, _, _, H1, rfl, I2, RZ.turn_zipT (PySem.W.ktu_apart s1.heap.objs.size a b (Heap.lt_size e1) (Heap.lt_size e2)), ⟨hz, hTI, ⟨_, _, hTO⟩, h1, h2⟩, fp, q⟩
      · obtain ⟨its, rv, p1, _⟩ := I1.list hqx
        obtain ⟨its2, rv2, p2, _⟩ := I1.tuple hqy
        obtain ⟨o2, e2, _⟩ := id p2
        refine zip_begins2 (begins_list a its.toArray) (begins_tuple b its2.toArray) p1.isList (show s1.heap.IsTuple b its2.toArray from p2) fun h' hz hTI hTO h1 h2 hsz hk => wpAny_pyIter_zip hz ?_
        have I2 : Inv X pins σ H1 { s1 with heap := h' } := I1.kept (t' := s1.toks) hk
        exact ⟨_, _, _, _, H1, rfl, I2, turn_zipM (PySem.W.ktu_apart s1.heap.objs.size a b p1.lt (Heap.lt_size e2)), ⟨hz, hTI, ⟨_, _, hTO⟩, ⟨_, h1, rfl, rfl⟩, ⟨_, h2, rfl, rfl⟩⟩, fp, q⟩
end MP

end
section
set_option Elab.async false
set_option linter.all false
set_option maxRecDepth 100000
set_option maxHeartbeats 1000000
/-! MP: which text a term of the small language stands for (a check by computing), what its reading is. -/
namespace MP
open PySem PySem.Spec PyProof.Rows L2
/-! ### readings -/
section
variable (K : PySem.W.Frag) (Γ : Tab) (G : Nat → Option PV)
def tE (e : CE) : TE := fun σv H Q => ∃ b φ σ st r st', At K b φ σ st H σv ∧ den Γ G e b σ st = some (r, st') ∧ ∀ φ' v H', After K φ φ' H H' st st' b → RV K φ' H' r v → Q v H'
def tT (e : CE) : TT := fun σv H Q => ∃ b φ σ st c st', At K b φ σ st H σv ∧ den Γ G e b σ st = some (.bl c, st') ∧ ∀ φ' H', After K φ φ' H H' st st' b → Q c H'
def tA (as : CA) : TA := fun σv H Q => ∃ b φ σ st rs st', At K b φ σ st H σv ∧ denA Γ G as b σ st = some (rs, st') ∧ ∀ φ' vs H', After K φ φ' H H' st st' b → RVs K φ' H' rs vs → Q vs H'
def tO' (o : CO) : TO := fun σv H Q => ∃ b φ σ st r st', At K b φ σ st H σv ∧ denO Γ G o b σ st = some (r, st') ∧ ∀ φ' H', After K φ φ' H H' st st' b → Q r H'
def tF (as : CA) : TT := fun σv H Q => ∃ b φ σ st c st', At K b φ σ st H σv ∧ denF Γ G as b σ st = some (c, st') ∧ ∀ φ' H', After K φ φ' H H' st st' b → Q c H'
/-- what walks -/
structure Wk (J : It) (xs : List PV) (w : List (Nat × SO)) (φ0 : List Addr) (H0 : Hp) : Prop where
  go : ∀ φ st H (i : Nat), φ0 <+: φ → Tp K H0 H → HR K φ st H → Watch w st → i < xs.length → J.go i H
  stop : ∀ φ st H, φ0 <+: φ → Tp K H0 H → HR K φ st H → Watch w st → J.stop xs.length H
  yld : ∀ φ st H (i : Nat) v H', φ0 <+: φ → Tp K H0 H → HR K φ st H → Watch w st → i < xs.length → J.yld i H v H' → Tp K H H' ∧ HR K φ st H' ∧ ∀ x, xs[i]? = some x → RV K φ H' x v
def tI (it : CI) : TI := fun σv H R => ∃ b φ σ st xs w st', At K b φ σ st H σv ∧ denI Γ G it b σ st = some (xs, w, st') ∧ ∀ φ' J H', After K φ φ' H H' st st' b → Wk K J xs w φ' H' → R J H'
end
/-- slots but these stay -/
def Stays (is : List Nat) (σ σ' : L2.St) : Prop := σ'.length = σ.length ∧ ∀ i : Nat, i ∉ is → σ'[i]? = σ[i]?
section
variable (K : PySem.W.Frag) (Γ : Tab) (G : Nat → Option PV)
def tG (t : CT) : TG := fun v σv H Q => ∃ b φ σ st x σ' st', At K b φ σ st H σv ∧ RV K φ H x v ∧ asg Γ G t b x σ st = some (σ', st') ∧
  ∀ φ' σv' H', After K φ φ' H H' st st' b → ES K φ' H' σ' σv' → Stays t.slots σv σv' → Q σv' H'
def tGs (t : CTs) : TGs := fun vs σv H Q => ∃ b φ σ st xs σ' st', At K b φ σ st H σv ∧ RVs K φ H xs vs ∧ asgs Γ G t b xs σ st = some (σ', st') ∧
  ∀ φ' σv' H', After K φ φ' H H' st st' b → ES K φ' H' σ' σv' → Stays t.slots σv σv' → Q σv' H'
/-- a def's promise: what the table says -/
def spT (n : Nat) (j : Nat) : Sp := fun vs H Q _ => ∃ φ ps st r st', ps.length = n ∧ HR K φ st H ∧ RVs K φ H ps vs ∧ Γ j ps st = some (r, st') ∧
  ∀ φ' v H', After K φ φ' H H' st st' st.length → RV K φ' H' r v → Q v H'
end
/-! ### the check -/
/-- the names of the table: defs, their parameters, constants, shapes of calls by keywords -/
structure Om where
  fname : Nat → Str
  fpars : Nat → List Str
  gname : Nat → Str
  kws : List (Nat × List Str × List Nat)
abbrev Nms := List (Str × NameKind)
def relN (names sc : Nms) : Nms := names.map fun x => if x.2 == NameKind.free && sc.lookup x.1 == some .cell then (x.1, .cell) else x
def visB (sc : Nms) (x : Str) : Bool := sc.lookup x == some .local || sc.lookup x == some .cell || sc.lookup x == some .free
def gloB (sc : Nms) (x : Str) : Bool := sc.lookup x == some .globalImplicit && !(x == ("__debug__" : Str))
def notStar : Expr → Bool
  | .Starred .. => false
  | _ => true
def noSet : Expr → Bool
  | .Set .. => false
  | _ => true
def plainB : Expr → Bool
  | .Slice .. => false
  | _ => true
/-- a test that is no and, or, not, comparison, and no other form that tests in a way of its own -/
def plainT : Expr → Bool
  | .Name .. | .Call .. | .Constant .. | .Subscript .. => true
  | _ => false
def bltN : Bl → Str
  | .len => "len" | .abs => "abs" | .max2 => "max" | .int1 => "int" | .divmod => "divmod" | .list1 => "list" | .tuple1 => "tuple" | .repr => "repr" | .gcd => "gcd" | .all1 => "all" | .any1 => "any" | .sset => "sorted"
def bltNames : List Str := ["len", "abs", "max", "int", "divmod", "list", "tuple", "repr", "all", "any", "sorted", "set", "isinstance", "bool", "str", "range", "enumerate", "zip"]
/-- the block of a comprehension -/
def blkB (N : List Str) (sc : Nms) (scope : Scope) (own : List Nat) : Bool :=
  scope.kind == .function && scope.names.all (fun y => scope.names.lookup y.1 == some y.2) && own.all (fun i => decide (i < N.length)) &&
  scope.names.all (fun y => !(y.2 == .free) || sc.lookup y.1 == some .cell || sc.lookup y.1 == some .free) &&
  scope.names.all (fun y => !(y.2 == .local || y.2 == .cell) || own.any (fun i => N[i]? == some y.1) || !N.contains y.1)
/-- names that a comprehension's targets may be -/
def ownB (names : Nms) (x : Str) : Bool := names.lookup x == some .local || names.lookup x == some .cell
/-- a term that is a test as it stands -/
def CE.tst : CE → Bool
  | .var _ => true | .bl _ => true | .call _ _ => true | .callk _ _ _ => true | .blt _ _ => true | .isi _ _ => true | .idx _ _ => true | .sl _ _ _ => true
  | .cmp _ _ _ => true | .chain _ _ _ _ _ => true
  | .not a => CE.tst a | .and a c => CE.tst a && CE.tst c | .or a c => CE.tst a && CE.tst c
  | .gc e => CE.tst e
  | _ => false
section
variable (Ω : Om) (lim : Nat) (N : List Str)
mutual
def okE : CE → Nms → Expr → Bool
  | .var i, sc, e => match e with
    | .Name x _ => N[i]? == some x && visB sc x && !(x == ("__debug__" : Str)) && !(x == ("__classdict__" : Str))
    | _ => false
  | .non, _, e => match e with
    | .Constant .none _ _ => true
    | _ => false
  | .bl b, _, e => match e with
    | .Constant (.bool c) _ _ => b == c
    | _ => false
  | .int i, _, e => match e with
    | .Constant (.int j) _ _ => i == j
    | _ => false
  | .str s, _, e => match e with
    | .Constant (.str t) _ _ => s == t
    | _ => false
  | .glb g, sc, e => match e with
    | .Name x _ => gloB sc x && x == Ω.gname g
    | _ => false
  | .bin o a b, sc, e => match e with
    | .BinOp x op y _ => decide (op = opOf o) && okE a sc x && okE b sc y
    | _ => false
  | .neg a, sc, e => match e with
    | .UnaryOp .USub x _ => okE a sc x
    | _ => false
  | .not a, sc, e => match e with
    | .UnaryOp .Not x _ => okE a sc x
    | _ => false
  | .and a c, sc, e => match e with
    | .BoolOp .And (x :: [y]) _ => okE a sc x && okE c sc y
    | .BoolOp .And (x :: y :: z :: r) pos => okE a sc x && okE c sc (.BoolOp .And (y :: z :: r) pos)
    | _ => false
  | .or a c, sc, e => match e with
    | .BoolOp .Or (x :: [y]) _ => okE a sc x && okE c sc y
    | .BoolOp .Or (x :: y :: z :: r) pos => okE a sc x && okE c sc (.BoolOp .Or (y :: z :: r) pos)
    | _ => false
  | .cmp o a b, sc, e => match e with
    | .Compare x [op] [y] _ => decide (op = cmOf o) && okE a sc x && okE b sc y
    | _ => false
  | .chain o o' a b c, sc, e => match e with
    | .Compare x [op, op'] [y, z] _ => decide (op = cmOf o) && decide (op' = cmOf o') && okE a sc x && okE b sc y && okE c sc z
    | _ => false
  | .ite c a b, sc, e => match e with
    | .IfExp t x y _ => c.tst && okE c sc t && okE a sc x && okE b sc y
    | _ => false
  | .tup as, sc, e => match e with
    | .Tuple es _ _ => okA as sc es
    | _ => false
  | .lst as, sc, e => match e with
    | .List es _ => okA as sc es
    | _ => false
  | .edict, _, e => match e with
    | .Dict [] [] _ => true
    | _ => false
  | .idx a b, sc, e => match e with
    | .Subscript x y _ => plainB y && okE a sc x && okE b sc y
    | _ => false
  | .sl a lo hi, sc, e => match e with
    | .Subscript x (.Slice l h none _) _ => okE a sc x && okO lo sc l && okO hi sc h
    | _ => false
  | .call j as, sc, e => match e with
    | .Call (.Name x _) (y :: ys) [] _ => decide (j < lim) && x == Ω.fname j && gloB sc x && okA as sc (y :: ys)
    | _ => false
  | .callk j as perm, sc, e => match e with
    | .Call (.Name x _) [] kws _ => decide (j < lim) && x == Ω.fname j && gloB sc x && kws.all (fun k => k.arg.isSome) && Ω.kws.contains (j, kws.filterMap (·.arg), perm) && okA as sc (kws.map (·.value)) &&
        perm.all (fun i => decide (i < kws.length))
    | _ => false
  | .blt f as, sc, e => if f == .sset then (match e with
    | .Call (.Name x _) [.Call (.Name y _) [z] [] _] [] _ => x == ("sorted" : Str) && y == ("set" : Str) && gloB sc x && gloB sc y && okA as sc [z]
    | _ => false) else (match e with
    | .Call (.Name x _) (y :: ys) [] _ => x == bltN f && gloB sc x && okA as sc (y :: ys)
    | _ => false)
  | .spc f as, sc, e => match f, e with
    | .lrng1, .Call (.Name x _) [.Call (.Name y _) [u] [] _] [] _ => x == ("list" : Str) && y == ("range" : Str) && gloB sc x && gloB sc y && okA as sc [u]
    | .lrng2, .Call (.Name x _) [.Call (.Name y _) [u, v] [] _] [] _ => x == ("list" : Str) && y == ("range" : Str) && gloB sc x && gloB sc y && okA as sc [u, v]
    | .lzip, .Call (.Name x _) [.Call (.Name y _) [u, v] [] _] [] _ => x == ("list" : Str) && y == ("zip" : Str) && gloB sc x && gloB sc y && okA as sc [u, v]
    | _, _ => false
  | .isi a t, sc, e => match e with
    | .Call (.Name x _) [y, .Name ty _] [] _ => x == ("isinstance" : Str) && gloB sc x && ty == Str.ofString (tyName t) && gloB sc ty && notStar y && okE a sc y
    | _ => false
  | .lc e t it ifs own, sc, ex => match ex with
    | .ListComp elt [⟨tg, iter, ifs', 0⟩] scope _ => blkB N sc scope own && okI it sc tg iter && okT t (relN scope.names sc) (ownB scope.names) tg && t.slots.all (fun i => own.contains i) &&
        okF ifs (relN scope.names sc) ifs' && okE e (relN scope.names sc) elt
    | _ => false
  | .lc2 e t it ifs t1 it1 ifs1 own, sc, ex => match ex with
    | .ListComp elt [⟨tg, iter, ifs', 0⟩, ⟨tg1, iter1, ifs1', 0⟩] scope _ => blkB N sc scope own && okI it sc tg iter && okT t (relN scope.names sc) (ownB scope.names) tg && t.slots.all (fun i => own.contains i) &&
        okF ifs (relN scope.names sc) ifs' && okI it1 (relN scope.names sc) tg1 iter1 && okT t1 (relN scope.names sc) (ownB scope.names) tg1 && t1.slots.all (fun i => own.contains i) &&
        okF ifs1 (relN scope.names sc) ifs1' && okE e (relN scope.names sc) elt
    | _ => false
  | .gc e, sc, ex => okE e sc ex
def okA : CA → Nms → List Expr → Bool
  | .nil, _, es => es.isEmpty
  | .cons e r, sc, es => match es with
    | x :: xs => notStar x && okE e sc x && okA r sc xs
    | [] => false
/-- at most one test -/
def okF : CA → Nms → List Expr → Bool
  | .nil, _, es => es.isEmpty
  | .cons e r, sc, es => match es with
    | [x] => e.tst && okE e sc x && (match r with | .nil => true | _ => false)
    | _ => false
def okO : CO → Nms → Option Expr → Bool
  | .no, _, e => e.isNone
  | .yes c, sc, e => match e with
    | some x => okE c sc x
    | none => false
def okI : CI → Nms → Expr → Expr → Bool
  | .seq a, sc, _, e => notStar e && noSet e && okE a sc e
  | .rng1 a, sc, _, e => match e with
    | .Call (.Name x _) [y] [] _ => x == ("range" : Str) && gloB sc x && notStar y && okE a sc y
    | _ => false
  | .rng2 a b, sc, _, e => match e with
    | .Call (.Name x _) [y, z] [] _ => x == ("range" : Str) && gloB sc x && notStar y && notStar z && okE a sc y && okE b sc z
    | _ => false
  | .enum a, sc, tg, e => match tg, e with
    | .Tuple _ _ _, .Call (.Name x _) [y] [] _ => x == ("enumerate" : Str) && gloB sc x && notStar y && okE a sc y
    | _, _ => false
  | .zip a b, sc, tg, e => match tg, e with
    | .Tuple _ _ _, .Call (.Name x _) [y, z] [] _ => x == ("zip" : Str) && gloB sc x && notStar y && notStar z && okE a sc y && okE b sc z
    | _, _ => false
def okT : CT → Nms → (Str → Bool) → Expr → Bool
  | .name i, _, ow, e => match e with
    | .Name x _ => N[i]? == some x && ow x
    | _ => false
  | .tup ts, sc, ow, e => match e with
    | .Tuple es _ _ => okTs ts sc ow es
    | _ => false
  | .sub o i, sc, _, e => match e with
    | .Subscript x y _ => plainB y && okE o sc x && okE i sc y
    | _ => false
def okTs : CTs → Nms → (Str → Bool) → List Expr → Bool
  | .nil, _, _, es => es.isEmpty
  | .cons t r, sc, ow, es => match es with
    | x :: xs => notStar x && okT t sc ow x && okTs r sc ow xs
    | [] => false
end
end
end MP

end
section
set_option Elab.async false
set_option linter.all false
set_option maxRecDepth 100000
set_option maxHeartbeats 2000000
/-! MP: a checked text does what its term denotes: expressions. -/
namespace MP
open PySem PySem.Spec PyProof.Rows L2
/-! ### syntax -/
theorem star_one {e : Expr} (h : notStar e = true) (es : List Expr) (env : Env) : starEach (e :: es) env = (false, eval e env) :: starEach es env := by
  cases e <;> first | rfl | cases h
theorem star_all : ∀ {es : List Expr} (h : es.all notStar = true) (env : Env), starEach es env = es.map fun e => (false, eval e env)
  | [], _, _ => rfl
  | e :: es, h, env => by
    rw [List.all_cons, Bool.and_eq_true] at h
    rw [star_one h.1, star_all h.2, List.map_cons]
theorem back_any {es : List Expr} (h : es.all notStar = true) (pos : Pos) (env : Env) : (backTo pos (starEach es env)).any (·.1) = false := by
  rw [star_all h env]
  induction es with
  | nil => rfl
  | cons e es ih =>
    rw [List.all_cons, Bool.and_eq_true] at h
    have := ih h.2
    unfold backTo at this ⊢
    rw [List.map_cons, List.map_cons, List.any_cons, this]
    rfl
theorem okA_star {Ω : Om} {lim : Nat} {N : List Str} : ∀ {as : CA} {sc : Nms} {es : List Expr}, okA Ω lim N as sc es = true → es.all notStar = true
  | .nil, _, es, h => by
    simp only [okA, List.isEmpty_iff] at h
    subst h; rfl
  | .cons e r, sc, es, h => by
    cases es with
    | nil => simp [okA] at h
    | cons x xs =>
      simp only [okA, Bool.and_eq_true] at h
      rw [List.all_cons, Bool.and_eq_true]
      exact ⟨h.1.1, okA_star h.2⟩
theorem plainIx {e : Expr} (h : plainB e = true) : PlainIx e := fun o i => by
  cases e <;> first | rfl | cases h
/-! ### what stands around -/
structure Facts (Ω : Om) (Γ : Tab) (G : Nat → Option PV) (lim k : Nat) (P : Program) (w : World) (K : PySem.W.Frag) (mg : Str → Option Value) (base : Heap) : Prop where
  fns : ∀ j, j < lim → ∃ (f : Addr) (fd : FuncData), mg (Ω.fname j) = some (.ref f) ∧ PySem.W.keepIn K (.ref f) = true ∧ Binds K fd (Ω.fpars j) [] ∧
    (∀ e ∈ Ω.kws, e.1 = j → ∀ (s : Shared) (ws : List Value), K.In s.heap → ws.length = e.2.1.length → BindsTo s fd ⟨[], e.2.1.zip ws⟩ ((Ω.fpars j).zip (pick e.2.2 ws))) ∧
    FnG P w K mg base k f fd (Ω.fpars j) (spT K Γ (Ω.fpars j).length j)
  args : ∀ j ps st r, Γ j ps st = some r → ps.length = (Ω.fpars j).length
  glb : ∀ g v, G g = some v → ∃ u x, mg (Ω.gname g) = some u ∧ RelV x u ∧ ∀ φ H, RV K φ H v x
  blt : ∀ x, x ∈ bltNames → mg x = none
  gcd : mg "gcd" = some (.builtin "math.gcd")
  sys : SysOk K
structure Good (Ω : Om) (Γ : Tab) (G : Nat → Option PV) (lim k : Nat) (N : List Str) (sc : Nms) (ow : Str → Bool) (X : Cx) : Prop where
  facts : Facts Ω Γ G lim k X.prog X.w X.K X.mg X.base
  room : Room k X.A
  gds : X.A.guards = some []
  hN : X.N = N
  nd : N.Nodup
  names : X.env.scope.names = sc
  kind : X.env.scope.kind = .function
  calm : X.calm = true
  xe : X.xe = fun _ _ => False
  ow : ∀ x, ow x = true → L2.Loc X.env.scope x ∧ (X.fn x = true ∨ X.env.scope.names.lookup x = some .local)
section
variable {Ω : Om} {Γ : Tab} {G : Nat → Option PV} {lim k : Nat} {N : List Str} {sc : Nms} {ow : Str → Bool} {X : Cx}
theorem Good.vis (g : Good Ω Γ G lim k N sc ow X) {x : Str} (h : visB sc x = true) : Vis X.env.scope x := by
  unfold visB at h
  simp only [Bool.or_eq_true, beq_iff_eq] at h
  unfold Vis
  rw [g.names]
  rcases h with (h | h) | h
  · exact .inl h
  · exact .inr (.inl h)
  · exact .inr (.inr h)
theorem Good.gl (g : Good Ω Γ G lim k N sc ow X) {x : Str} (h : gloB sc x = true) : Gl X x ∧ (x == ("__debug__" : Str)) = false := by
  unfold gloB at h
  simp only [Bool.and_eq_true, beq_iff_eq, Bool.not_eq_true'] at h
  exact ⟨by unfold Gl Env.kindOf; rw [g.names]; exact h.1, h.2⟩
theorem Good.un (g : Good Ω Γ G lim k N sc ow X) : X.A.units + 64 < cLine := g.room.units
theorem relS_names {scope sc' : Scope} (h : sc'.kind = .function) : (relS scope sc').names = relN scope.names sc'.names := by
  unfold relS relN
  refine List.map_congr_left fun x _ => ?_
  obtain ⟨n, k⟩ := x
  show (if (k == NameKind.free && sc'.kind == ScopeKind.function && List.lookup n sc'.names == some NameKind.cell) = true then (n, NameKind.cell) else (n, k)) = _
  rw [h]
  show (if (k == NameKind.free && true && List.lookup n sc'.names == some NameKind.cell) = true then (n, NameKind.cell) else (n, k)) = _
  rw [Bool.and_true]
theorem blk_ok {own : List Nat} {scope : Scope} (hsc : sc = X.env.scope.names) (h : blkB N sc scope own = true) : BlkOk N X.env.scope scope (own.map fun i => (N[i]?.getD "", i)) ∧ (own.map fun i => (N[i]?.getD ("" : Str), i)).map (·.2) = own := by
  unfold blkB at h
  simp only [Bool.and_eq_true, beq_iff_eq, List.all_eq_true, decide_eq_true_eq, Bool.or_eq_true, Bool.not_eq_true', List.any_eq_true] at h
  obtain ⟨⟨⟨⟨h1, h2⟩, h3⟩, h4⟩, h5⟩ := h
  subst hsc
  refine ⟨⟨h1, h2, fun p hp => ?_, fun y hy e => ?_, fun y hy e => ?_⟩, by rw [List.map_map]; exact List.map_id' own⟩
  · obtain ⟨i, hi, rfl⟩ := List.mem_map.mp hp
    have := h3 i hi
    show N[i]? = some (N[i]?.getD "")
    rw [List.getElem?_eq_getElem this]; rfl
  · rcases h4 y hy with (z | z) | z
    · rw [e] at z; cases z
    · exact .inl z
    · exact .inr z
  · rcases h5 y hy with (z | ⟨i, hi, z⟩) | z
    · rcases e with e | e <;> rw [e] at z <;> cases z
    · refine .inl (List.mem_map.mpr ⟨(N[i]?.getD "", i), List.mem_map.mpr ⟨i, hi, rfl⟩, ?_⟩)
      show N[i]?.getD "" = y.1
      rw [z]; rfl
    · exact .inr (by simpa using z)
theorem Good.blk (g : Good Ω Γ G lim k N sc ow X) {own : List Nat} {scope : Scope} (h : blkB N sc scope own = true) (s : Shared) (H : Hp) (C : Addr) (cl : List (Str × Addr)) (fp : List Addr) :
    Good Ω Γ G lim k N (relN scope.names sc) (ownB scope.names) (X.blk s H scope (compEnvC scope cl C X.env) fp) := by
  have hk : scope.kind = .function := (blk_ok g.names.symm h).1.kind
  have es : (X.blk s H scope (compEnvC scope cl C X.env) fp).env.scope = relS scope X.env.scope := rfl
  have en : (X.blk s H scope (compEnvC scope cl C X.env) fp).env.scope.names = relN scope.names sc := by rw [es, relS_names g.kind, g.names]
  refine ⟨g.facts, g.room, g.gds, g.hN, g.nd, en, by rw [es]; exact hk, g.calm, rfl, fun x hx => ?_⟩
  unfold ownB at hx
  simp only [Bool.or_eq_true, beq_iff_eq] at hx
  unfold L2.Loc
  rw [es]
  have keep : ∀ {kd : NameKind}, kd ≠ .free → scope.names.lookup x = some kd → (relS scope X.env.scope).names.lookup x = some kd := fun h1 h2 => lookup_relS_keep h1 h2
  rcases hx with hx | hx
  · have := keep (by decide) hx
    exact ⟨.inl this, .inr this⟩
  · exact ⟨.inr (keep (by decide) hx), .inl (by show (scope.names.lookup x == some NameKind.cell) = true; rw [hx]; rfl)⟩
end
/-! ### pieces -/
section
variable {Ω : Om} {Γ : Tab} {G : Nat → Option PV} {X : Cx} {pos : Pos} {a b c : Expr} {ca cb cc : CE}
theorem tT_of {σ : L2.St} {H : Hp} {Q : Bool → Hp → Prop} (h : tT X.K Γ G ca σ H Q) : tE X.K Γ G ca σ H fun x H1 => ∃ c, x = .bl c ∧ Q c H1 := by
  obtain ⟨b, φ, s, st, c, st', a, e, k⟩ := h
  exact ⟨b, φ, s, st, _, st', a, e, fun φ' v H' f r => ⟨c, r.bl, k _ _ f⟩⟩
theorem pt_of {e : Expr} (h : PE X e (tE X.K Γ G ca)) (he : ∀ whole, isTrue e X.env whole = (do let v ← whole; standAt e.pos; holding [v] (truthy v))) : PT X e (tT X.K Γ G ca) := PTimp (pt_val h he) fun _ _ _ => tT_of
theorem x_bin (o : Op) (ha : PE X a ((tE X.K Γ G) ca)) (hb : PE X b ((tE X.K Γ G) cb)) : PE X (.BinOp a (opOf o) b pos) ((tE X.K Γ G) (.bin o ca cb)) := PEimp (pe_op (op_bin o) ha hb) fun σ H Q ⟨b, φ, s, st, r, st', a, e, k⟩ => by
  simp only [den, Option.bind_eq_some_iff] at e
  obtain ⟨⟨p, st1⟩, e1, ⟨q, st2⟩, e2, e3⟩ := e
  exact ⟨b, φ, s, st, p, st1, a, e1, fun φ1 v H1 f1 r1 => ⟨b, φ1, s, st1, q, st2, f1.at_ a, e2, fun φ2 u H2 f2 r2 =>
    ⟨b, φ2, st2, p, q, r, st', f2.hr, (f2.at_ (f1.at_ a)).hb, f2.rv r1, r2, e3, fun φ3 w H3 f3 r3 => k _ _ _ ((f1.trans f2).trans f3) r3⟩⟩⟩
theorem x_neg (ha : PE X a ((tE X.K Γ G) ca)) : PE X (.UnaryOp .USub a pos) ((tE X.K Γ G) (.neg ca)) := PEimp (pe_un un_neg ha) fun σ H Q ⟨b, φ, s, st, r, st', a, e, k⟩ => by
  simp only [den, Option.bind_eq_some_iff] at e
  obtain ⟨⟨p, st1⟩, e1, i, e2, e3⟩ := e
  cases e3
  cases p <;> simp only [intOf] at e2 <;> cases e2
  exact ⟨b, φ, s, st, _, st1, a, e1, fun φ1 v H1 f1 r1 => ⟨i, r1.int, k _ _ _ f1 (rv_int _)⟩⟩
theorem boolOf_eq {p : PV} {t : Bool} (h : boolOf p = some t) : p = .bl t := by
  cases p <;> simp only [boolOf] at h <;> cases h
  rfl
theorem intOf_eq {p : PV} {t : Int} (h : intOf p = some t) : p = .int t := by
  cases p <;> simp only [intOf] at h <;> cases h
  rfl
theorem x_not (ha : PE X a ((tE X.K Γ G) ca)) : PE X (.UnaryOp .Not a pos) ((tE X.K Γ G) (.not ca)) := PEimp (pe_not ha) fun σ H Q ⟨b, φ, s, st, r, st', a, e, k⟩ => by
  simp only [den, Option.bind_eq_some_iff] at e
  obtain ⟨⟨p, st1⟩, e1, t, e2, e3⟩ := e
  cases e3
  have := boolOf_eq e2
  simp only at this; subst this
  exact ⟨b, φ, s, st, _, st1, a, e1, fun φ1 v H1 f1 r1 => ⟨t, r1.bl, k _ _ _ f1 (rv_bl _)⟩⟩
theorem x_notT (ha : PT X a (tT X.K Γ G ca)) : PT X (.UnaryOp .Not a pos) (tT X.K Γ G (.not ca)) := PTimp (pt_not ha) fun σ H Q ⟨b, φ, s, st, c, st', a, e, k⟩ => by
  simp only [den, Option.bind_eq_some_iff] at e
  obtain ⟨⟨p, st1⟩, e1, t, e2, e3⟩ := e
  cases e3
  have := boolOf_eq e2
  simp only at this; subst this
  exact ⟨b, φ, s, st, _, st1, a, e1, fun φ1 H1 f1 => k _ _ f1⟩
section
variable {rest : List Expr}
theorem and_run {σ : L2.St} {H : Hp} {Q : VK} (h : (tE X.K Γ G) (.and ca cb) σ H Q) : tAndV ((tE X.K Γ G) ca) ((tE X.K Γ G) cb) σ H Q := by
  obtain ⟨b, φ, s, st, r, st', a, e, k⟩ := h
  simp only [den, Option.bind_eq_some_iff] at e
  obtain ⟨⟨p, st1⟩, e1, t, e2, e3⟩ := e
  have := boolOf_eq e2
  simp only at this e3; subst this
  refine ⟨b, φ, s, st, _, st1, a, e1, fun φ1 v H1 f1 r1 => ⟨t, r1.bl, ?_⟩⟩
  cases t with
  | true => exact ⟨b, φ1, s, st1, r, st', f1.at_ a, e3, fun φ2 v2 H2 f2 r2 => k _ _ _ (f1.trans f2) r2⟩
  | false => cases e3; exact k _ _ _ f1 (rv_bl _)
theorem or_run {σ : L2.St} {H : Hp} {Q : VK} (h : (tE X.K Γ G) (.or ca cb) σ H Q) : tOrV ((tE X.K Γ G) ca) ((tE X.K Γ G) cb) σ H Q := by
  obtain ⟨b, φ, s, st, r, st', a, e, k⟩ := h
  simp only [den, Option.bind_eq_some_iff] at e
  obtain ⟨⟨p, st1⟩, e1, t, e2, e3⟩ := e
  have := boolOf_eq e2
  simp only at this e3; subst this
  refine ⟨b, φ, s, st, _, st1, a, e1, fun φ1 v H1 f1 r1 => ⟨t, r1.bl, ?_⟩⟩
  cases t with
  | false => exact ⟨b, φ1, s, st1, r, st', f1.at_ a, e3, fun φ2 v2 H2 f2 r2 => k _ _ _ (f1.trans f2) r2⟩
  | true => cases e3; exact k _ _ _ f1 (rv_bl _)
theorem and_runT {σ : L2.St} {H : Hp} {Q : Bool → Hp → Prop} (h : tT X.K Γ G (.and ca cb) σ H Q) : tAnd (tT X.K Γ G ca) (tT X.K Γ G cb) σ H Q := by
  obtain ⟨b, φ, s, st, r, st', a, e, k⟩ := h
  simp only [den, Option.bind_eq_some_iff] at e
  obtain ⟨⟨p, st1⟩, e1, t, e2, e3⟩ := e
  have := boolOf_eq e2
  simp only at this e3; subst this
  refine ⟨b, φ, s, st, _, st1, a, e1, fun φ1 H1 f1 => ?_⟩
  cases t with
  | true => exact ⟨b, φ1, s, st1, r, st', f1.at_ a, e3, fun φ2 H2 f2 => k _ _ (f1.trans f2)⟩
  | false => cases e3; exact k _ _ f1
theorem or_runT {σ : L2.St} {H : Hp} {Q : Bool → Hp → Prop} (h : tT X.K Γ G (.or ca cb) σ H Q) : tOr (tT X.K Γ G ca) (tT X.K Γ G cb) σ H Q := by
  obtain ⟨b, φ, s, st, r, st', a, e, k⟩ := h
  simp only [den, Option.bind_eq_some_iff] at e
  obtain ⟨⟨p, st1⟩, e1, t, e2, e3⟩ := e
  have := boolOf_eq e2
  simp only at this e3; subst this
  refine ⟨b, φ, s, st, _, st1, a, e1, fun φ1 H1 f1 => ?_⟩
  cases t with
  | false => exact ⟨b, φ1, s, st1, r, st', f1.at_ a, e3, fun φ2 H2 f2 => k _ _ (f1.trans f2)⟩
  | true => cases e3; exact k _ _ f1
end
theorem cmp_run {o : Cm} {σ : L2.St} {H : Hp} {Q : VK} (h : (tE X.K Γ G) (.cmp o ca cb) σ H Q) : tOp (rCmp X.K o) ((tE X.K Γ G) ca) ((tE X.K Γ G) cb) σ H Q := by
  obtain ⟨b, φ, s, st, r, st', a, e, k⟩ := h
  simp only [den, Option.bind_eq_some_iff] at e
  obtain ⟨⟨p, st1⟩, e1, ⟨q, st2⟩, e2, t, e3, e4⟩ := e
  cases e4
  exact ⟨b, φ, s, st, p, st1, a, e1, fun φ1 v H1 f1 r1 => ⟨b, φ1, s, st1, q, st2, f1.at_ a, e2, fun φ2 u H2 f2 r2 =>
    ⟨φ2, st2, p, q, t, f2.hr, f2.rv r1, r2, e3, k _ _ _ (f1.trans f2) (rv_bl _)⟩⟩⟩
theorem chain_run {o o' : Cm} {σ : L2.St} {H : Hp} {Q : VK} (h : (tE X.K Γ G) (.chain o o' ca cb cc) σ H Q) : tChain (rCmp X.K o) (rCmp X.K o') ((tE X.K Γ G) ca) ((tE X.K Γ G) cb) ((tE X.K Γ G) cc) σ H Q := by
  obtain ⟨b, φ, s, st, r, st', a, e, k⟩ := h
  simp only [den, Option.bind_eq_some_iff] at e
  obtain ⟨⟨p, st1⟩, e1, ⟨q, st2⟩, e2, t, e3, e4⟩ := e
  refine ⟨b, φ, s, st, p, st1, a, e1, fun φ1 v H1 f1 r1 => ⟨b, φ1, s, st1, q, st2, f1.at_ a, e2, fun φ2 u H2 f2 r2 =>
    ⟨φ2, st2, p, q, t, f2.hr, f2.rv r1, r2, e3, ⟨t, rfl, ?_⟩⟩⟩⟩
  cases t with
  | false => cases e4; exact k _ _ _ (f1.trans f2) (rv_bl _)
  | true =>
    simp only [if_true, Option.bind_eq_some_iff] at e4
    obtain ⟨⟨q', st3⟩, e5, t', e6, e7⟩ := e4
    cases e7
    exact ⟨b, φ2, s, st2, q', st3, f2.at_ (f1.at_ a), e5, fun φ3 w H3 f3 r3 => ⟨φ3, st3, q, q', t', f3.hr, f3.rv r2, r3, e6, k _ _ _ ((f1.trans f2).trans f3) (rv_bl _)⟩⟩
theorem x_ite (hc : PT X c (tT X.K Γ G cc)) (ha : PE X a ((tE X.K Γ G) ca)) (hb : PE X b ((tE X.K Γ G) cb)) : PE X (.IfExp c a b pos) ((tE X.K Γ G) (.ite cc ca cb)) := PEimp (pe_ifExp hc ha hb) fun σ H Q ⟨b, φ, s, st, r, st', a, e, k⟩ => by
  simp only [den, Option.bind_eq_some_iff] at e
  obtain ⟨⟨p, st1⟩, e1, t, e2, e3⟩ := e
  have := boolOf_eq e2
  simp only at this e3; subst this
  refine ⟨b, φ, s, st, t, st1, a, e1, fun φ1 H1 f1 => ?_⟩
  cases t with
  | true => exact ⟨b, φ1, s, st1, r, st', f1.at_ a, e3, fun φ2 v2 H2 f2 r2 => k _ _ _ (f1.trans f2) r2⟩
  | false => exact ⟨b, φ1, s, st1, r, st', f1.at_ a, e3, fun φ2 v2 H2 f2 r2 => k _ _ _ (f1.trans f2) r2⟩
theorem x_tup {es : List Expr} {as : CA} {kk : Nat} (ha : PA X es (tA X.K Γ G as)) : PE X (.Tuple es kk pos) ((tE X.K Γ G) (.tup as)) := PEimp (pe_tup ha) fun σ H Q ⟨b, φ, s, st, r, st', a, e, k⟩ => by
  simp only [den, Option.bind_eq_some_iff] at e
  obtain ⟨⟨rs, st1⟩, e1, e2⟩ := e
  split at e2
  · rename_i hl
    cases e2
    refine ⟨b, φ, s, st, rs, st1, a, e1, fun φ1 vs H1 f1 r1 => ⟨by rw [r1.length]; exact most_le hl, fun p hp => ?_⟩⟩
    obtain ⟨x, y⟩ := After.tup (b := b) f1.hr hp r1
    exact k _ _ _ (f1.trans x) y
  · cases e2
theorem x_lst {es : List Expr} {as : CA} (ha : PA X es (tA X.K Γ G as)) : PE X (.List es pos) ((tE X.K Γ G) (.lst as)) := PEimp (pe_lst ha) fun σ H Q ⟨b, φ, s, st, r, st', a, e, k⟩ => by
  simp only [den, Option.bind_eq_some_iff] at e
  obtain ⟨⟨rs, st1⟩, e1, e2⟩ := e
  split at e2
  · rename_i hl
    cases e2
    refine ⟨b, φ, s, st, rs, st1, a, e1, fun φ1 vs H1 f1 r1 => ⟨by rw [r1.length]; exact most_le hl, fun p hp => ?_⟩⟩
    obtain ⟨x, y⟩ := After.lst (b := b) f1.hr (f1.at_ a).hb hp r1
    exact k _ _ _ (f1.trans x) y
  · cases e2
theorem x_edict : PE X (.Dict [] [] pos) ((tE X.K Γ G) .edict) := PEimp pe_dnewK fun σ H Q ⟨b, φ, s, st, r, st', a, e, k⟩ p hp => by
  simp only [den] at e
  cases e
  obtain ⟨x, y⟩ := After.add (b := b) (u := .dK []) (o := .dct []) a.hr a.hb hp ⟨[], upd_same, rfl⟩
  exact k _ _ _ x y
theorem x_idx (hp : plainB b = true) (ha : PE X a ((tE X.K Γ G) ca)) (hb : PE X b ((tE X.K Γ G) cb)) : PE X (.Subscript a b pos) ((tE X.K Γ G) (.idx ca cb)) := PEimp (pe_ix ix_idx ha hb (plainIx hp)) fun σ H Q ⟨b, φ, s, st, r, st', a, e, k⟩ => by
  simp only [den, Option.bind_eq_some_iff] at e
  obtain ⟨⟨p, st1⟩, e1, ⟨q, st2⟩, e2, i, e3, xs, e4, v, e5, e6⟩ := e
  cases e6
  have := intOf_eq e3
  simp only at this; subst this
  exact ⟨b, φ, s, st, p, st1, a, e1, fun φ1 v H1 f1 r1 => ⟨b, φ1, s, st1, _, st2, f1.at_ a, e2, fun φ2 u H2 f2 r2 =>
    ⟨φ2, st2, p, i, xs, r, f2.hr, f2.rv r1, r2.int, e4, e5, fun z rz => k _ _ _ (f1.trans f2) rz⟩⟩⟩
theorem x_sl {l h : Option Expr} {cl ch : CO} {p2 : Pos} (ha : PE X a ((tE X.K Γ G) ca)) (hl : PO X l (tO' X.K Γ G cl)) (hh : PO X h (tO' X.K Γ G ch)) : PE X (.Subscript a (.Slice l h none p2) pos) ((tE X.K Γ G) (.sl ca cl ch)) :=
  PEimp (pe_slice sl_cut ha hl hh) fun σ H Q ⟨b, φ, s, st, r, st', a, e, k⟩ => by
  simp only [den, Option.bind_eq_some_iff] at e
  obtain ⟨⟨p, st1⟩, e1, ⟨lo, st2⟩, e2, ⟨hi, st3⟩, e3, e4⟩ := e
  exact ⟨b, φ, s, st, p, st1, a, e1, fun φ1 v H1 f1 r1 => ⟨b, φ1, s, st1, lo, st2, f1.at_ a, e2, fun φ2 H2 f2 => ⟨b, φ2, s, st2, hi, st3, f2.at_ (f1.at_ a), e3, fun φ3 H3 f3 =>
    ⟨b, φ3, st3, p, r, st', f3.hr, (f3.at_ (f2.at_ (f1.at_ a))).hb, f3.rv (f2.rv r1), e4, fun φ4 w H4 f4 r4 => k _ _ _ (((f1.trans f2).trans f3).trans f4) r4⟩⟩⟩⟩
theorem call_run {j n : Nat} {as : CA} {σ : L2.St} {H : Hp} {Q : VK} (hn : ∀ ps st r, Γ j ps st = some r → ps.length = n) (h : (tE X.K Γ G) (.call j as) σ H Q) : tCallG (spT X.K Γ n j) (tA X.K Γ G as) σ H Q := by
  obtain ⟨b, φ, s, st, r, st', a, e, k⟩ := h
  simp only [den, Option.bind_eq_some_iff] at e
  obtain ⟨⟨rs, st1⟩, e1, e2⟩ := e
  exact ⟨b, φ, s, st, rs, st1, a, e1, fun φ1 vs H1 f1 r1 => ⟨φ1, rs, st1, r, st', hn _ _ _ e2, f1.hr, r1, e2, fun φ2 v H2 f2 r2 =>
    k _ _ _ (f1.trans ⟨f2.pre, f2.tp, f2.hr, f2.gr.low (f1.at_ a).hb⟩) r2⟩⟩
theorem pick_rvs {K : PySem.W.Frag} {φ : List Addr} {H : Hp} {rs : List PV} {vs : List V} (r : RVs K φ H rs vs) : ∀ {perm : List Nat} {ps : List PV}, (perm.mapM fun i => rs[i]?) = some ps → RVs K φ H ps (pick perm vs)
  | [], ps, e => by
    rw [List.mapM_nil] at e
    cases e
    exact .nil
  | i :: is, ps, e => by
    rw [List.mapM_cons] at e
    cases e1 : rs[i]? with
    | none => rw [e1] at e; cases e
    | some x =>
      rw [e1] at e
      cases e2 : is.mapM (fun i => rs[i]?) with
      | none => rw [e2] at e; cases e
      | some xs =>
        rw [e2] at e
        cases e
        obtain ⟨v, ev, rv⟩ := r.get e1
        show RVs K φ H (x :: xs) (List.filterMap _ (i :: is))
        rw [List.filterMap_cons, ev]
        exact .cons rv (pick_rvs r e2)
theorem callk_run {j n : Nat} {as : CA} {perm : List Nat} {σ : L2.St} {H : Hp} {Q : VK} (hn : ∀ ps st r, Γ j ps st = some r → ps.length = n) (h : (tE X.K Γ G) (.callk j as perm) σ H Q) : tCallKG (spT X.K Γ n j) perm (tA X.K Γ G as) σ H Q := by
  obtain ⟨b, φ, s, st, r, st', a, e, k⟩ := h
  simp only [den, Option.bind_eq_some_iff] at e
  obtain ⟨⟨rs, st1⟩, e1, ps, e2, e3⟩ := e
  exact ⟨b, φ, s, st, rs, st1, a, e1, fun φ1 vs H1 f1 r1 => ⟨φ1, ps, st1, r, st', hn _ _ _ e3, f1.hr, pick_rvs r1 e2, e3, fun φ2 v H2 f2 r2 =>
    k _ _ _ (f1.trans ⟨f2.pre, f2.tp, f2.hr, f2.gr.low (f1.at_ a).hb⟩) r2⟩⟩
theorem blt_run {f : Bl} {as : CA} {σ : L2.St} {H : Hp} {Q : VK} (h : (tE X.K Γ G) (.blt f as) σ H Q) : tCB (rB X.K f) (tA X.K Γ G as) σ H Q := by
  obtain ⟨b, φ, s, st, r, st', a, e, k⟩ := h
  simp only [den, Option.bind_eq_some_iff] at e
  obtain ⟨⟨rs, st1⟩, e1, e2⟩ := e
  exact ⟨b, φ, s, st, rs, st1, a, e1, fun φ1 vs H1 f1 r1 => ⟨b, φ1, st1, rs, r, st', f1.hr, (f1.at_ a).hb, r1, e2, fun φ2 v H2 f2 r2 => k _ _ _ (f1.trans f2) r2⟩⟩
theorem spc_run {f : Spc} {as : CA} {σ : L2.St} {H : Hp} {Q : VK} (h : (tE X.K Γ G) (.spc f as) σ H Q) : tCB (rS X.K f) (tA X.K Γ G as) σ H Q := by
  obtain ⟨b, φ, s, st, r, st', a, e, k⟩ := h
  simp only [den, Option.bind_eq_some_iff] at e
  obtain ⟨⟨rs, st1⟩, e1, e2⟩ := e
  exact ⟨b, φ, s, st, rs, st1, a, e1, fun φ1 vs H1 f1 r1 => ⟨b, φ1, st1, rs, r, st', f1.hr, (f1.at_ a).hb, r1, e2, fun φ2 v H2 f2 r2 => k _ _ _ (f1.trans f2) r2⟩⟩
theorem isi_run {t : Ty} {σ : L2.St} {H : Hp} {Q : VK} (h : (tE X.K Γ G) (.isi ca t) σ H Q) : tCB (rIs X.K t) (tCons ((tE X.K Γ G) ca) (tCons (tC (.ty (tyName t))) tNil)) σ H Q := by
  obtain ⟨b, φ, s, st, r, st', a, e, k⟩ := h
  simp only [den, Option.bind_eq_some_iff] at e
  obtain ⟨⟨p, st1⟩, e1, c, e2, e3⟩ := e
  cases e3
  exact ⟨b, φ, s, st, p, st1, a, e1, fun φ1 v H1 f1 r1 => ⟨φ1, st1, p, c, v, f1.hr, rfl, r1, e2, k _ _ _ f1 (rv_bl _)⟩⟩
/-- a region of its own -/
theorem gc_run {σ : L2.St} {H : Hp} {Q : VK} (h : (tE X.K Γ G) (.gc ca) σ H Q) : (tE X.K Γ G) ca σ H Q := by
  obtain ⟨b, φ, s, st, r, st', a, e, k⟩ := h
  simp only [den, Option.bind_eq_some_iff] at e
  obtain ⟨⟨p, st1⟩, e1, e2⟩ := e
  have e3 : fin st.length p st1 = (r, st') := by simpa using e2
  refine ⟨st.length, φ, s, st, p, st1, ⟨a.hr, a.es, Nat.le_refl _⟩, e1, fun φ1 v H1 f1 r1 => ?_⟩
  exact fin_run a.hr a.hb f1 r1 e3 k
where
  fin_run {b : Nat} {φ φ1 : List Addr} {st st1 st' : Sto} {H H1 : Hp} {p r : PV} {v : V} {Q : VK} (h : HR X.K φ st H) (hb : b ≤ st.length) (f1 : After X.K φ φ1 H H1 st st1 st.length) (r1 : RV X.K φ1 H1 p v) (e : fin st.length p st1 = (r, st'))
      (k : ∀ φ' v H', After X.K φ φ' H H' st st' b → RV X.K φ' H' r v → Q v H') : Q v H1 := by
    have cl : Cl st.length st1 := f1.gr.cl _ (Nat.le_refl _) h.below
    have hpre : φ <+: φ1.take st.length := by
      rw [← h.len]
      obtain ⟨t, rfl⟩ := f1.pre
      rw [List.take_left']
      · exact List.prefix_refl _
      · rfl
    have hcut := f1.hr.cutTo f1.gr.len cl
    have clow : ∀ m, m ≤ b → Cl m st → Cl m (st1.take st.length) := fun m hm c n o hn e => by
      have hn' : n < st.length := by omega
      rw [List.getElem?_take_of_lt hn'] at e
      exact f1.gr.cl m (Nat.le_trans hm hb) c n o hn e
    have down : p.lt st.length = true → After X.K φ (φ1.take st.length) H H1 st (st1.take st.length) b ∧ RV X.K (φ1.take st.length) H1 p v := fun l =>
      ⟨⟨hpre, f1.tp, hcut, ⟨by rw [List.length_take]; have := f1.gr.len; omega, clow⟩⟩, r1.low l⟩
    have same : After X.K φ φ1 H H1 st st1 b := ⟨f1.pre, f1.tp, f1.hr, f1.gr.low hb⟩
    have ite : ∀ {q : PV × Sto}, q = (if p.lt st.length = true then (p, st1.take st.length) else (p, st1)) → q = (r, st') → Q v H1 := fun {q} eq e => by
      rw [eq] at e
      split at e
      · rename_i l
        cases e
        obtain ⟨x, y⟩ := down l
        exact k _ _ _ x y
      · cases e; exact k _ _ _ same r1
    cases p with
    | non => exact ite rfl e
    | bl _ => exact ite rfl e
    | int _ => exact ite rfl e
    | str _ => exact ite rfl e
    | tup _ => exact ite rfl e
    | ref n =>
      unfold fin at e
      simp only at e
      split at e
      · rename_i hn
        cases e
        obtain ⟨x, y⟩ := down (by unfold PV.lt; exact decide_eq_true hn)
        exact k _ _ _ x y
      · rename_i hn
        split at e
        · rename_i o eo
          split at e
          · rename_i lo
            cases e
            obtain ⟨a', ea, rfl⟩ := r1.ref
            have so := f1.hr.ok n a' o ea eo
            have hl : (φ1.take st.length).length = st.length := by
              rw [List.length_take, f1.hr.len]; have := f1.gr.len; omega
            have hl' : List.length (st1.take st.length) = st.length := by
              rw [List.length_take]; have := f1.gr.len; omega
            have so' : SOk X.K (φ1.take st.length ++ [a']) H1 a' o := by
              cases o with
              | lst xs => obtain ⟨vs, q, rr⟩ := so; exact ⟨vs, q, (rr.low lo).mono pre_one (Tp.refl _)⟩
              | fzl xs => obtain ⟨vs, q, rr⟩ := so; exact ⟨vs, q, (rr.low lo).mono pre_one (Tp.refl _)⟩
              | dct xs => obtain ⟨vs, q, rr⟩ := so; exact ⟨vs, q, (RK.low lo rr).mono pre_one (Tp.refl _)⟩
            have hr2 : HR X.K (φ1.take st.length ++ [a']) (st1.take st.length ++ [o]) H1 := by
              refine ⟨by rw [List.length_append, List.length_append, hl, hl']; rfl, fun i j c e1 e2 => ?_, fun i c o' e1 e2 => ?_⟩
              · -- places: below st.length or n
                have key : ∀ {i : Nat}, (φ1.take st.length ++ [a'])[i]? = some c → ∃ i' : Nat, φ1[i']? = some c ∧ ((i < st.length ∧ i' = i) ∨ (i = st.length ∧ i' = n)) ∧ ∀ z, st1[i']? = some z → (st1.take st.length ++ [o])[i]? = some z := fun {i} e1 => by
                  rcases snoc_get e1 with ⟨h1, h2⟩ | ⟨h1, h2⟩
                  · rw [hl] at h1
                    rw [List.getElem?_take_of_lt h1] at h2
                    refine ⟨i, h2, .inl ⟨h1, rfl⟩, fun z ez => ?_⟩
                    rw [List.getElem?_append_left (by rw [hl']; exact h1), List.getElem?_take_of_lt h1]; exact ez
                  · subst h2
                    rw [hl] at h1
                    refine ⟨n, ea, .inr ⟨h1, rfl⟩, fun z ez => ?_⟩
                    rw [eo] at ez; cases ez
                    rw [List.getElem?_append_right (by rw [hl']; omega), hl', h1, Nat.sub_self]; rfl
                obtain ⟨i', p1, p2, p3⟩ := key e1
                obtain ⟨j', q1, q2, q3⟩ := key e2
                rcases f1.hr.inj i' j' c p1 q1 with ⟨xs, z⟩ | ⟨xs, z⟩ | z
                · exact .inl ⟨xs, p3 _ z⟩
                · exact .inr (.inl ⟨xs, q3 _ z⟩)
                · exact .inr (.inr (by omega))
              · rcases snoc_get e1 with ⟨h1, h2⟩ | ⟨h1, h2⟩
                · rw [hl] at h1
                  rw [List.getElem?_append_left (by rw [hl']; exact h1)] at e2
                  exact (hcut.ok i c o' h2 e2).mono pre_one (Tp.refl _) fun _ z => z
                · subst h2
                  rw [hl] at h1
                  rw [List.getElem?_append_right (by rw [hl']; omega), hl', h1, Nat.sub_self] at e2
                  simp at e2
                  subst e2
                  exact so'
            refine k (φ1.take st.length ++ [a']) _ H1 ⟨hpre.trans pre_one, f1.tp, hr2, ⟨by rw [List.length_append, hl']; omega, fun m hm c i o' hi e => ?_⟩⟩ (rv_ref ?_)
            · have : i < st.length := by omega
              rw [List.getElem?_append_left (by rw [hl']; exact this)] at e
              exact clow m hm c i o' hi e
            · rw [List.getElem?_append_right (by rw [hl]; exact Nat.le_refl _), hl, Nat.sub_self]; rfl
          · cases e; exact k _ _ _ same r1
        · cases e; exact k _ _ _ same r1
end
end MP

end
section
set_option Elab.async false
set_option linter.all false
set_option maxRecDepth 100000
set_option maxHeartbeats 2000000
/-! MP: what is walked; targets; comprehensions. -/
namespace MP
open PySem PySem.Spec PyProof.Rows L2
def iSeq (K : PySem.W.Frag) (tl : TE) : TI := fun σ H R => tl σ H fun x H1 => ∃ a, x = .ref a ∧ (((∃ xs, SqL K H1 a xs) ∧ R (Itl K a) H1) ∨ ((∃ xs, SqT K H1 a xs) ∧ R (Itt K a) H1))
theorem pi_seq {X : Cx} {tg l : Expr} {tl : TE} (hl : PE X l tl) : PI X tg l (iSeq X.K tl) := by
  refine ⟨fun pins s σ H R I h => ?_⟩
  refine thn (hl.run pins s σ H _ I h) fun v s1 ⟨x, H1, I1, r1, q1⟩ => ?_
  obtain ⟨a, e, q⟩ := q1
  subst e
  cases r1
  rcases q with ⟨⟨xs, hq⟩, q⟩ | ⟨⟨xs, hq⟩, q⟩
  · obtain ⟨its, rv, p, hz⟩ := I1.list hq
    refine wpAny_pyIter_list p.isList ?_
    refine ⟨s1.heap.objs.size, [s1.heap.objs.size], _, _, H1, rfl, I1.kept (t' := s1.toks) fun b o e => Heap.get?_push_of_some _ e, turn_list a _, ⟨_, Heap.get?_push_size _ rfl, rfl, rfl⟩, fun b hb => ?_, q⟩
    have e : b = s1.heap.objs.size := by simpa using hb
    subst e
    exact I1.fpOk (Nat.le_refl _) (I1.hok.fresh (Nat.le_refl _))
  · obtain ⟨its, rv, p, hz⟩ := I1.tuple hq
    refine wpAny_pyIter_tuple (show s1.heap.IsTuple a its.toArray from p) ?_
    refine ⟨s1.heap.objs.size, [s1.heap.objs.size], _, _, H1, rfl, I1.kept (t' := s1.toks) fun b o e => Heap.get?_push_of_some _ e, turn_tuple a _, ⟨_, Heap.get?_push_size _ rfl, rfl, rfl⟩, fun b hb => ?_, q⟩
    have e : b = s1.heap.objs.size := by simpa using hb
    subst e
    exact I1.fpOk (Nat.le_refl _) (I1.hok.fresh (Nat.le_refl _))
/-! ### sources -/
def LaterL (K : PySem.W.Frag) (a : Addr) (xs : List PV) (w : List (Nat × SO)) (φ0 : List Addr) (H0 : Hp) : Prop :=
  ∀ φ st H, φ0 <+: φ → Tp K H0 H → HR K φ st H → Watch w st → ∃ vs, SqL K H a vs ∧ RVs K φ H xs vs
def LaterT (K : PySem.W.Frag) (a : Addr) (xs : List PV) (φ0 : List Addr) (H0 : Hp) : Prop :=
  ∀ φ H, φ0 <+: φ → Tp K H0 H → ∃ vs, SqT K H a vs ∧ RVs K φ H xs vs
section
variable {K : PySem.W.Frag} {φ φ0 : List Addr} {H H0 : Hp} {st : Sto}
theorem src {p : PV} {v : V} {xs : List PV} {w : List (Nat × SO)} (e : items p st = some (xs, w)) (r : RV K φ0 H0 p v) (h : HR K φ0 st H0) :
    ∃ a, v = .ref a ∧ ((isTupV p = false ∧ (∃ vs, SqL K H0 a vs) ∧ LaterL K a xs w φ0 H0) ∨ (isTupV p = true ∧ (∃ vs, SqT K H0 a vs) ∧ LaterT K a xs φ0 H0)) := by
  cases p with
  | tup ys =>
    simp only [items] at e
    cases e
    obtain ⟨a, vs, rfl, q, rr⟩ := r.tup
    exact ⟨a, rfl, .inr ⟨rfl, ⟨vs, q⟩, fun φ H hp ht => ⟨vs, ht _ _ q, rr.mono hp ht⟩⟩⟩
  | ref n =>
    simp only [items] at e
    obtain ⟨a, ea, rfl⟩ := r.ref
    refine ⟨a, rfl, .inl ⟨rfl, ?_⟩⟩
    split at e
    · rename_i ys e1
      cases e
      obtain ⟨vs, q, rr⟩ := h.ok n a _ ea e1
      refine ⟨⟨vs, .inl (.inl q)⟩, fun φ st H hp ht hr hw => ?_⟩
      obtain ⟨vs, q, rr⟩ := hr.ok n a _ (pre_get hp ea) (hw (n, .lst xs) (by simp))
      exact ⟨vs, .inl (.inl q), rr⟩
    · rename_i ys e1
      cases e
      have go : ∀ {φ st H}, HR K φ st H → φ[n]? = some a → st[n]? = some (.fzl xs) → ∃ vs, SqL K H a vs ∧ RVs K φ H xs vs := fun {φ st H} hr e1 e2 => by
        obtain ⟨vs, q, rr⟩ := hr.ok n a _ e1 e2
        refine ⟨vs, ?_, rr⟩
        rcases q with ⟨o, q⟩ | q
        · exact .inl (.inr ⟨o, q⟩)
        · exact q H
      obtain ⟨vs, q, _⟩ := go h ea e1
      exact ⟨⟨vs, q⟩, fun φ st H hp ht hr hw => go hr (pre_get hp ea) (hw (n, .fzl xs) (by simp))⟩
    · cases e
  | non => simp [items] at e
  | bl _ => simp [items] at e
  | int _ => simp [items] at e
  | str _ => simp [items] at e
theorem items_watch {p : PV} {xs : List PV} {w : List (Nat × SO)} (e : items p st = some (xs, w)) : Watch w st := by
  intro q hq
  unfold items at e
  split at e
  · cases e; cases hq
  · split at e
    · rename_i e1
      cases e
      rw [List.mem_singleton] at hq
      subst hq; exact e1
    · rename_i e1
      cases e
      rw [List.mem_singleton] at hq
      subst hq; exact e1
    · cases e
  · cases e
theorem wk_list {a : Addr} {xs : List PV} {w : List (Nat × SO)} (h : LaterL K a xs w φ0 H0) : Wk K (Itl K a) xs w φ0 H0 where
  go := fun φ st H i hp ht hr hw hi => by
    obtain ⟨vs, q, rr⟩ := h φ st H hp ht hr hw
    have hl : i < vs.length := by rw [rr.length]; exact hi
    exact ⟨vs, vs[i], q, List.getElem?_eq_getElem hl⟩
  stop := fun φ st H hp ht hr hw => by
    obtain ⟨vs, q, rr⟩ := h φ st H hp ht hr hw
    exact ⟨vs, q, by rw [rr.length]; exact Nat.le_refl _⟩
  yld := fun φ st H i v H' hp ht hr hw hi y => by
    obtain ⟨vs, q, rr⟩ := h φ st H hp ht hr hw
    obtain ⟨rfl, y⟩ := y
    refine ⟨Tp.refl _, hr, fun x hx => ?_⟩
    obtain ⟨u, e, r⟩ := rr.get hx
    have := y vs q
    rw [e] at this; cases this
    exact r
theorem wk_tup {a : Addr} {xs : List PV} {w : List (Nat × SO)} (h : LaterT K a xs φ0 H0) : Wk K (Itt K a) xs w φ0 H0 where
  go := fun φ st H i hp ht hr hw hi => by
    obtain ⟨vs, q, rr⟩ := h φ H hp ht
    have hl : i < vs.length := by rw [rr.length]; exact hi
    exact ⟨vs, vs[i], q, List.getElem?_eq_getElem hl⟩
  stop := fun φ st H hp ht hr hw => by
    obtain ⟨vs, q, rr⟩ := h φ H hp ht
    exact ⟨vs, q, by rw [rr.length]; exact Nat.le_refl _⟩
  yld := fun φ st H i v H' hp ht hr hw hi y => by
    obtain ⟨vs, q, rr⟩ := h φ H hp ht
    obtain ⟨rfl, y⟩ := y
    refine ⟨Tp.refl _, hr, fun x hx => ?_⟩
    obtain ⟨u, e, r⟩ := rr.get hx
    have := y vs q
    rw [e] at this; cases this
    exact r
theorem numbered_get : ∀ {xs : List PV} {k i : Nat} {x : PV}, (numbered k xs)[i]? = some x → ∃ y, xs[i]? = some y ∧ x = .tup [.int ((k + i : Nat) : Int), y]
  | [], _, _, _, h => by simp [numbered] at h
  | y :: ys, k, 0, x, h => by simp [numbered] at h; exact ⟨y, rfl, by rw [← h]; rfl⟩
  | y :: ys, k, i + 1, x, h => by
    simp only [numbered, List.getElem?_cons_succ] at h
    obtain ⟨z, e, q⟩ := numbered_get h
    exact ⟨z, by simpa using e, by rw [q, Nat.add_assoc, Nat.add_comm 1 i]⟩
theorem numbered_len : ∀ (xs : List PV) (k : Nat), (numbered k xs).length = xs.length
  | [], _ => rfl
  | x :: xs, k => by simp only [numbered, List.length_cons, numbered_len xs]
theorem paired_get : ∀ {xs ys : List PV} {i : Nat} {x : PV}, (paired xs ys)[i]? = some x → ∃ y z, xs[i]? = some y ∧ ys[i]? = some z ∧ x = .tup [y, z]
  | [], _, _, _, h => by simp [paired] at h
  | _ :: _, [], _, _, h => by simp [paired] at h
  | a :: as, b :: bs, 0, x, h => by simp [paired] at h; exact ⟨a, b, rfl, rfl, h.symm⟩
  | a :: as, b :: bs, i + 1, x, h => by
    simp only [paired, List.getElem?_cons_succ] at h
    obtain ⟨y, z, e1, e2, q⟩ := paired_get h
    exact ⟨y, z, by simpa using e1, by simpa using e2, q⟩
theorem paired_len : ∀ (xs ys : List PV), (paired xs ys).length = min xs.length ys.length
  | [], _ => by simp [paired]
  | _ :: _, [] => by simp [paired]
  | a :: as, b :: bs => by
    simp only [paired, List.length_cons, paired_len as bs]; omega
theorem counted_get : ∀ {n : Nat} {lo : Int} {i : Nat} {x : PV}, (counted lo n)[i]? = some x → x = .int (lo + i)
  | 0, _, _, _, h => by simp [counted] at h
  | n + 1, lo, 0, x, h => by simp [counted] at h; rw [← h]; simp
  | n + 1, lo, i + 1, x, h => by
    simp only [counted, List.getElem?_cons_succ] at h
    rw [counted_get h]; congr 1; omega
theorem counted_len : ∀ (n : Nat) (lo : Int), (counted lo n).length = n
  | 0, _ => rfl
  | n + 1, lo => by simp only [counted, List.length_cons, counted_len n]
theorem pair_new {x y : PV} {u v : V} {T : Addr} (hr : HR K φ st H) (hT : H T = none) (rx : RV K φ H x u) (ry : RV K φ H y v) :
    Tp K H (upd H T (.tup [u, v])) ∧ HR K φ st (upd H T (.tup [u, v])) ∧ RV K φ (upd H T (.tup [u, v])) (.tup [x, y]) (.ref T) :=
  ⟨Tp.new hT, hr.same (Tp.new hT) (upd_new hT), rv_tup (.inl (.inl upd_same)) (.cons (rx.mono (List.prefix_refl _) (Tp.new hT)) (.cons (ry.mono (List.prefix_refl _) (Tp.new hT)) .nil))⟩
theorem wk_enumL {a : Addr} {xs : List PV} {w : List (Nat × SO)} (h : LaterL K a xs w φ0 H0) : Wk K (Ite K a) (numbered 0 xs) w φ0 H0 where
  go := fun φ st H i hp ht hr hw hi => by
    obtain ⟨vs, q, rr⟩ := h φ st H hp ht hr hw
    rw [numbered_len] at hi
    have hl : i < vs.length := by rw [rr.length]; exact hi
    exact ⟨vs, vs[i], q, List.getElem?_eq_getElem hl⟩
  stop := fun φ st H hp ht hr hw => by
    obtain ⟨vs, q, rr⟩ := h φ st H hp ht hr hw
    exact ⟨vs, q, by rw [rr.length, numbered_len]; exact Nat.le_refl _⟩
  yld := fun φ st H i v H' hp ht hr hw hi y => by
    obtain ⟨vs, q, rr⟩ := h φ st H hp ht hr hw
    obtain ⟨T, u, rfl, hT, rfl, y⟩ := y
    have eu := y vs q
    obtain ⟨z, ez, rz⟩ := rr.getV eu
    obtain ⟨p1, p2, p3⟩ := pair_new hr hT (rv_int ((i : Nat) : Int)) rz
    refine ⟨p1, p2, fun x hx => ?_⟩
    obtain ⟨z', ez', rfl⟩ := numbered_get hx
    rw [ez] at ez'; cases ez'
    rw [Nat.zero_add]; exact p3
theorem wk_enumT {a : Addr} {xs : List PV} {w : List (Nat × SO)} (h : LaterT K a xs φ0 H0) : Wk K (IteT K a) (numbered 0 xs) w φ0 H0 where
  go := fun φ st H i hp ht hr hw hi => by
    obtain ⟨vs, q, rr⟩ := h φ H hp ht
    rw [numbered_len] at hi
    have hl : i < vs.length := by rw [rr.length]; exact hi
    exact ⟨vs, vs[i], q, List.getElem?_eq_getElem hl⟩
  stop := fun φ st H hp ht hr hw => by
    obtain ⟨vs, q, rr⟩ := h φ H hp ht
    exact ⟨vs, q, by rw [rr.length, numbered_len]⟩
  yld := fun φ st H i v H' hp ht hr hw hi y => by
    obtain ⟨vs, q, rr⟩ := h φ H hp ht
    obtain ⟨T, u, rfl, hT, rfl, y⟩ := y
    have eu := y vs q
    obtain ⟨z, ez, rz⟩ := rr.getV eu
    obtain ⟨p1, p2, p3⟩ := pair_new hr hT (rv_int ((i : Nat) : Int)) rz
    refine ⟨p1, p2, fun x hx => ?_⟩
    obtain ⟨z', ez', rfl⟩ := numbered_get hx
    rw [ez] at ez'; cases ez'
    rw [Nat.zero_add]; exact p3
theorem watch_app {w w' : List (Nat × SO)} (h : Watch (w ++ w') st) : Watch w st ∧ Watch w' st := ⟨fun p hp => h p (List.mem_append_left _ hp), fun p hp => h p (List.mem_append_right _ hp)⟩
theorem wk_zipL {a b : Addr} {xs ys : List PV} {w w' : List (Nat × SO)} (h : LaterL K a xs w φ0 H0) (h' : LaterL K b ys w' φ0 H0) : Wk K (Itz K a b) (paired xs ys) (w ++ w') φ0 H0 where
  go := fun φ st H i hp ht hr hw hi => by
    obtain ⟨vs, q, rr⟩ := h φ st H hp ht hr (watch_app hw).1
    obtain ⟨us, q', rr'⟩ := h' φ st H hp ht hr (watch_app hw).2
    rw [paired_len] at hi
    have hl : i < vs.length := by rw [rr.length]; omega
    have hl' : i < us.length := by rw [rr'.length]; omega
    exact ⟨vs, us, vs[i], us[i], q, q', List.getElem?_eq_getElem hl, List.getElem?_eq_getElem hl'⟩
  stop := fun φ st H hp ht hr hw => by
    obtain ⟨vs, q, rr⟩ := h φ st H hp ht hr (watch_app hw).1
    obtain ⟨us, q', rr'⟩ := h' φ st H hp ht hr (watch_app hw).2
    exact ⟨vs, us, q, q', by rw [paired_len, rr.length, rr'.length]; omega⟩
  yld := fun φ st H i v H' hp ht hr hw hi y => by
    obtain ⟨vs, q, rr⟩ := h φ st H hp ht hr (watch_app hw).1
    obtain ⟨us, q', rr'⟩ := h' φ st H hp ht hr (watch_app hw).2
    obtain ⟨T, u, u', rfl, hT, rfl, y, y'⟩ := y
    obtain ⟨z, ez, rz⟩ := rr.getV (y vs q)
    obtain ⟨z', ez', rz'⟩ := rr'.getV (y' us q')
    obtain ⟨p1, p2, p3⟩ := pair_new hr hT rz rz'
    refine ⟨p1, p2, fun x hx => ?_⟩
    obtain ⟨c, d, ec, ed, rfl⟩ := paired_get hx
    rw [ez] at ec; cases ec
    rw [ez'] at ed; cases ed
    exact p3
theorem wk_zipM {a b : Addr} {xs ys : List PV} {w w' : List (Nat × SO)} (h : LaterL K a xs w φ0 H0) (h' : LaterT K b ys φ0 H0) : Wk K (ItzM K a b) (paired xs ys) (w ++ w') φ0 H0 where
  go := fun φ st H i hp ht hr hw hi => by
    obtain ⟨vs, q, rr⟩ := h φ st H hp ht hr (watch_app hw).1
    obtain ⟨us, q', rr'⟩ := h' φ H hp ht
    rw [paired_len] at hi
    have hl : i < vs.length := by rw [rr.length]; omega
    have hl' : i < us.length := by rw [rr'.length]; omega
    exact ⟨vs, us, vs[i], us[i], q, q', List.getElem?_eq_getElem hl, List.getElem?_eq_getElem hl'⟩
  stop := fun φ st H hp ht hr hw => by
    obtain ⟨vs, q, rr⟩ := h φ st H hp ht hr (watch_app hw).1
    obtain ⟨us, q', rr'⟩ := h' φ H hp ht
    have l1 := rr.length
    have l2 := rr'.length
    refine ⟨vs, us, q, q', ?_, ?_, ?_⟩ <;> rw [paired_len] <;> omega
  yld := fun φ st H i v H' hp ht hr hw hi y => by
    obtain ⟨vs, q, rr⟩ := h φ st H hp ht hr (watch_app hw).1
    obtain ⟨us, q', rr'⟩ := h' φ H hp ht
    obtain ⟨T, u, u', rfl, hT, rfl, y, y'⟩ := y
    obtain ⟨z, ez, rz⟩ := rr.getV (y vs q)
    obtain ⟨z', ez', rz'⟩ := rr'.getV (y' us q')
    obtain ⟨p1, p2, p3⟩ := pair_new hr hT rz rz'
    refine ⟨p1, p2, fun x hx => ?_⟩
    obtain ⟨c, d, ec, ed, rfl⟩ := paired_get hx
    rw [ez] at ec; cases ec
    rw [ez'] at ed; cases ed
    exact p3
theorem wk_zipT {a b : Addr} {xs ys : List PV} {w : List (Nat × SO)} (h : LaterT K a xs φ0 H0) (h' : LaterT K b ys φ0 H0) : Wk K (RZ.ItzT K a b) (paired xs ys) w φ0 H0 where
  go := fun φ st H i hp ht hr hw hi => by
    obtain ⟨vs, q, rr⟩ := h φ H hp ht
    obtain ⟨us, q', rr'⟩ := h' φ H hp ht
    rw [paired_len] at hi
    have hl : i < vs.length := by rw [rr.length]; omega
    have hl' : i < us.length := by rw [rr'.length]; omega
    exact ⟨vs, us, vs[i], us[i], q, q', List.getElem?_eq_getElem hl, List.getElem?_eq_getElem hl'⟩
  stop := fun φ st H hp ht hr hw => by
    obtain ⟨vs, q, rr⟩ := h φ H hp ht
    obtain ⟨us, q', rr'⟩ := h' φ H hp ht
    exact ⟨vs, us, q, q', by rw [paired_len, rr.length, rr'.length]; omega⟩
  yld := fun φ st H i v H' hp ht hr hw hi y => by
    obtain ⟨vs, q, rr⟩ := h φ H hp ht
    obtain ⟨us, q', rr'⟩ := h' φ H hp ht
    obtain ⟨T, u, u', rfl, hT, rfl, y, y'⟩ := y
    obtain ⟨z, ez, rz⟩ := rr.getV (y vs q)
    obtain ⟨z', ez', rz'⟩ := rr'.getV (y' us q')
    obtain ⟨p1, p2, p3⟩ := pair_new hr hT rz rz'
    refine ⟨p1, p2, fun x hx => ?_⟩
    obtain ⟨c, d, ec, ed, rfl⟩ := paired_get hx
    rw [ez] at ec; cases ec
    rw [ez'] at ed; cases ed
    exact p3
theorem wk_rng {lo : Int} {n : Nat} {w : List (Nat × SO)} : Wk K (Itr lo n) (counted lo n) w φ0 H0 where
  go := fun φ st H i hp ht hr hw hi => by rw [counted_len] at hi; exact hi
  stop := fun φ st H hp ht hr hw => by rw [counted_len]; exact Nat.le_refl _
  yld := fun φ st H i v H' hp ht hr hw hi y => by
    obtain ⟨rfl, rfl⟩ := y
    refine ⟨Tp.refl _, hr, fun x hx => ?_⟩
    rw [counted_get hx]; exact rv_int _
end
section
variable {Ω : Om} {Γ : Tab} {G : Nat → Option PV} {X : Cx} {pos : Pos} {tg a b c : Expr} {ca cb cc : CE}
theorem i_seq (ha : PE X a (tE X.K Γ G ca)) : PI X tg a (tI X.K Γ G (.seq ca)) := PIimp (pi_seq ha) fun σ H R ⟨b, φ, s, st, xs, w, st', a, e, k⟩ => by
  simp only [denI, Option.bind_eq_some_iff] at e
  obtain ⟨⟨p, st1⟩, e1, ⟨ys, w'⟩, e2, e3⟩ := e
  cases e3
  refine ⟨b, φ, s, st, p, st1, a, e1, fun φ1 v H1 f1 r1 => ?_⟩
  obtain ⟨a', rfl, q⟩ := src e2 r1 f1.hr
  refine ⟨a', rfl, ?_⟩
  rcases q with ⟨_, q1, q2⟩ | ⟨_, q1, q2⟩
  · exact .inl ⟨q1, k _ _ _ f1 (wk_list q2)⟩
  · exact .inr ⟨q1, k _ _ _ f1 (wk_tup q2)⟩
theorem i_rng1 {p : Pos} (hg : Gl X "range") (hm : X.mg "range" = none) (hs : notStar a = true) (ha : PE X a (tE X.K Γ G ca)) : PI X tg (.Call (.Name "range" p) [a] [] pos) (tI X.K Γ G (.rng1 ca)) :=
  PIimp (pi_range1 hg hm (pa_cons ha pa_nil (star_one hs _ _)) (star_one hs _ _)) fun σ H R ⟨b, φ, s, st, xs, w, st', a, e, k⟩ => by
  simp only [denI, Option.bind_eq_some_iff] at e
  obtain ⟨⟨p, st1⟩, e1, n, e2, e3⟩ := e
  have := intOf_eq e2
  simp only at this e3; subst this
  split at e3
  · rename_i hn
    cases e3
    have hm' : (most : Int) = 1000000 := rfl
    exact ⟨b, φ, s, st, _, _, a, e1, fun φ1 v H1 f1 r1 => ⟨n, by rw [r1.int], by omega, by omega, k _ _ _ f1 wk_rng⟩⟩
  · cases e3
theorem i_rng2 {p : Pos} (hg : Gl X "range") (hm : X.mg "range" = none) (hs : notStar a = true) (hs2 : notStar b = true) (ha : PE X a (tE X.K Γ G ca)) (hb : PE X b (tE X.K Γ G cb)) : PI X tg (.Call (.Name "range" p) [a, b] [] pos) (tI X.K Γ G (.rng2 ca cb)) :=
  PIimp (pi_range2 hg hm (pa_cons ha (pa_cons hb pa_nil (star_one hs2 _ _)) (star_one hs _ _)) (by rw [star_one hs, star_one hs2]; rfl) (star_one hs2 _ _)) fun σ H R ⟨b, φ, s, st, xs, w, st', a, e, k⟩ => by
  simp only [denI, Option.bind_eq_some_iff] at e
  obtain ⟨⟨p, st1⟩, e1, ⟨q, st2⟩, e2, lo, e3, hi, e4, e5⟩ := e
  have := intOf_eq e3
  simp only at this; subst this
  have := intOf_eq e4
  simp only at this; subst this
  split at e5
  · rename_i hn
    cases e5
    have hm' : (most : Int) = 1000000 := rfl
    exact ⟨b, φ, s, st, _, st1, a, e1, fun φ1 v H1 f1 r1 => ⟨b, φ1, s, st1, _, _, f1.at_ a, e2, fun φ2 u H2 f2 r2 =>
      ⟨lo, hi, by rw [r1.int, r2.int], ⟨by omega, by omega, by omega, by omega⟩, k _ _ _ (f1.trans f2) wk_rng⟩⟩⟩
  · cases e5
theorem i_enum {p tpos : Pos} {elts : List Expr} {kk : Nat} (hg : Gl X "enumerate") (hm : X.mg "enumerate" = none) (hs : notStar a = true) (ha : PE X a (tE X.K Γ G ca)) : PI X (.Tuple elts kk tpos) (.Call (.Name "enumerate" p) [a] [] pos) (tI X.K Γ G (.enum ca)) :=
  PIimp (pi_enumA hg hm (pa_cons ha pa_nil (star_one hs _ _)) (star_one hs _ _)) fun σ H R ⟨b, φ, s, st, xs, w, st', a, e, k⟩ => by
  simp only [denI, Option.bind_eq_some_iff] at e
  obtain ⟨⟨p, st1⟩, e1, ⟨ys, w'⟩, e2, e3⟩ := e
  cases e3
  refine ⟨b, φ, s, st, p, _, a, e1, fun φ1 v H1 f1 r1 => ?_⟩
  obtain ⟨a', rfl, q⟩ := src e2 r1 f1.hr
  rcases q with ⟨_, ⟨vs, q1⟩, q2⟩ | ⟨_, ⟨vs, q1⟩, q2⟩
  · exact ⟨a', vs, rfl, .inl ⟨q1, k _ _ _ f1 (wk_enumL q2)⟩⟩
  · exact ⟨a', vs, rfl, .inr ⟨q1, k _ _ _ f1 (wk_enumT q2)⟩⟩
theorem LaterL.mono {K : PySem.W.Frag} {a : Addr} {xs : List PV} {w : List (Nat × SO)} {φ φ' : List Addr} {H H' : Hp} (h : LaterL K a xs w φ H) (hp : φ <+: φ') (ht : Tp K H H') : LaterL K a xs w φ' H' :=
  fun φ2 st H2 p t => h φ2 st H2 (hp.trans p) (ht.trans t)
theorem i_zip {p tpos : Pos} {elts : List Expr} {kk : Nat} (hg : Gl X "zip") (hm : X.mg "zip" = none) (hs : notStar a = true) (hs2 : notStar b = true) (ha : PE X a (tE X.K Γ G ca)) (hb : PE X b (tE X.K Γ G cb)) :
    PI X (.Tuple elts kk tpos) (.Call (.Name "zip" p) [a, b] [] pos) (tI X.K Γ G (.zip ca cb)) :=
  PIimp (pi_zipB hg hm (pa_cons ha (pa_cons hb pa_nil (star_one hs2 _ _)) (star_one hs _ _)) (star_one hs _ _) (back_any (by simp [hs2]) _ _)) fun σ H R ⟨b, φ, s, st, xs, w, st', a, e, k⟩ => by
  simp only [denI, Option.bind_eq_some_iff] at e
  obtain ⟨⟨p, st1⟩, e1, ⟨q, st2⟩, e2, ⟨xs1, w1⟩, e3, ⟨ys1, w2⟩, e4, e5⟩ := e
  split at e5
  · rename_i hk
    cases e5
    refine ⟨b, φ, s, st, _, st1, a, e1, fun φ1 v H1 f1 r1 => ⟨b, φ1, s, st1, _, _, f1.at_ a, e2, fun φ2 u H2 f2 r2 => ?_⟩⟩
    obtain ⟨a', rfl, x⟩ := src e3 (f2.rv r1) f2.hr
    obtain ⟨b', rfl, y⟩ := src e4 r2 f2.hr
    rcases x with ⟨t1, ⟨vs, q1⟩, q2⟩ | ⟨t1, ⟨vs, q1⟩, q2⟩ <;> rcases y with ⟨t2, ⟨us, q3⟩, q4⟩ | ⟨t2, ⟨us, q3⟩, q4⟩
    · exact ⟨a', b', vs, us, rfl, .inl ⟨q1, q3, k _ _ _ (f1.trans f2) (wk_zipL q2 q4)⟩⟩
    · exact ⟨a', b', vs, us, rfl, .inr (.inr ⟨q1, q3, k _ _ _ (f1.trans f2) (wk_zipM q2 q4)⟩)⟩
    · rw [t1, t2] at hk; cases hk
    · exact ⟨a', b', vs, us, rfl, .inr (.inl ⟨q1, q3, k _ _ _ (f1.trans f2) (wk_zipT q2 q4)⟩)⟩
  · cases e5
theorem denI_watch {it : CI} {b : Nat} {σ : Sl} {st st' : Sto} {xs : List PV} {w : List (Nat × SO)} (e : denI Γ G it b σ st = some (xs, w, st')) : Watch w st' := by
  cases it with
  | seq a =>
    simp only [denI, Option.bind_eq_some_iff] at e
    obtain ⟨⟨p, st1⟩, e1, ⟨ys, w'⟩, e2, e3⟩ := e
    cases e3
    exact items_watch e2
  | rng1 a =>
    simp only [denI, Option.bind_eq_some_iff] at e
    obtain ⟨⟨p, st1⟩, e1, n, e2, e3⟩ := e
    split at e3
    · cases e3; intro p hp; cases hp
    · cases e3
  | rng2 a c =>
    simp only [denI, Option.bind_eq_some_iff] at e
    obtain ⟨⟨p, st1⟩, e1, ⟨q, st2⟩, e2, lo, e3, hi, e4, e5⟩ := e
    split at e5
    · cases e5; intro p hp; cases hp
    · cases e5
  | enum a =>
    simp only [denI, Option.bind_eq_some_iff] at e
    obtain ⟨⟨p, st1⟩, e1, ⟨ys, w'⟩, e2, e3⟩ := e
    cases e3
    exact items_watch e2
  | zip a c =>
    simp only [denI, Option.bind_eq_some_iff] at e
    obtain ⟨⟨p, st1⟩, e1, ⟨q, st2⟩, e2, ⟨xs1, w1⟩, e3, ⟨ys1, w2⟩, e4, e5⟩ := e
    split at e5
    · cases e5
      intro p hp
      rcases List.mem_append.mp hp with hp | hp
      · exact items_watch e3 p hp
      · exact items_watch e4 p hp
    · cases e5
/-! ### targets -/
theorem Stays.refl (is : List Nat) (σ : L2.St) : Stays is σ σ := ⟨rfl, fun _ _ => rfl⟩
theorem g_name (hN : X.N.Nodup) {i : Nat} {x : Str} (hi : X.N[i]? = some x) (hx : L2.Loc X.env.scope x) (hf : X.fn x = true ∨ X.env.scope.names.lookup x = some .local) : PG X (.Name x pos) (tG X.K Γ G (.name i)) :=
  PGimp (pg_name hN hi hx hf) fun v σ H Q ⟨b, φ, s, st, x, s', st', a, r, e, k⟩ => by
  simp only [asg] at e
  split at e
  · rename_i hl
    cases e
    refine k φ _ H (After.refl a.hr) (a.es.set r) ⟨by rw [List.length_set], fun j hj => ?_⟩
    rw [List.getElem?_set_ne (by simpa [CT.slots] using fun e => hj (by rw [e]; simp [CT.slots]))]
  · cases e
/-- so many items off a list's iterator -/
theorem draw_lst {prog : Program} {w : World} {A : Around} {E : Value → Shared → Prop} {it t : Addr} {items : Array Value} (hne : t ≠ it) : ∀ (n i : Nat) (s : Shared) (Q : List Value → Shared → Prop), s.heap.IsListIter it t i → s.heap.IsList t items → i + n ≤ items.size →
    (∀ h', h'.IsListIter it t (i + n) → Heap.SameBut it s.heap h' → Q ((items.toList.drop i).take n) { s with heap := h' }) → wpAny (model prog w) A (draw (.ref it) n) Q E s
  | 0, i, s, Q, hit, _, _, hQ => wpAny_pure (by simpa using hQ s.heap hit (Heap.SameBut.refl ..))
  | n + 1, i, s, Q, hit, ht, hle, hQ => by
    have hlt : i < items.size := by omega
    show wpAny _ _ (pyNext (.ref it) >>= _) Q E s
    refine wpAny_bind (wpAny_pyNext_list_item hit ht (x := items[i]) (by simp [hlt]) fun h1 hit1 hs1 => ?_)
    refine wpAny_bind (wpAny_holding (draw_lst hne n (i + 1) _ _ hit1 (ht.extBut hs1.extBut hne) (by omega) fun h2 hit2 hs2 => wpAny_pure ?_))
    have q := hQ h2 (by rw [show i + (n + 1) = i + 1 + n by omega]; exact hit2) (hs1.trans hs2)
    rw [show items.toList.drop i = items[i] :: items.toList.drop (i + 1) by simp [List.drop_eq_getElem_cons, hlt], List.take_succ_cons] at q
    exact q
/-- a, b, .. = a list -/
theorem assign_lst {prog : Program} {w : World} {A : Around} {E : Value → Shared → Prop} {s : Shared} {env : Env} {es : List Expr} {kk} {pos : Pos} {t : Addr} {items : Array Value} {Q : Unit → Shared → Prop} (hh : A.handled = none) (ht : s.heap.IsList t items)
    (hn : (assignEach es env).length = items.size) (hst : (assignEach es env).findIdx? (·.1) = none)
    (h : ∀ h', Heap.ExtBut s.heap.objs.size s.heap h' → wpAny (model prog w) A (assignInOrder ((assignEach es env).map (·.2)) items.toList) Q E { s with heap := h' }) :
    wpAny (model prog w) A (assign (.Tuple es kk pos) env (.ref t)) Q E s := by
  have hlt : t ≠ s.heap.objs.size := by obtain ⟨o, ho, _⟩ := ht; exact Nat.ne_of_lt (Heap.lt_size ho)
  rw [PyProof.Rows.assign_Tuple]
  refine wpAny_bind (wpAny_standAt ?_)
  unfold unpack
  rw [hn, hst]
  refine wpAny_bind (wpAny_holding ?_)
  unfold PySem.unpackItems
  refine wpAny_bind ?_
  unfold notIterableAtAll
  refine wpAny_bind (wpAny_specialOf ht.typeIs slot_list_iter.lookup ?_)
  refine wpAny_pure ?_
  simp only [Bool.false_eq_true, if_false]
  refine wpAny_bind (wpAny_holding (wpAny_pyIter_list ht ?_))
  refine wpAny_bind (wpAny_holding (draw_lst hlt items.size 0 _ _ ⟨_, Heap.get?_push_size _ rfl, rfl, rfl⟩ (ht.push _) (by omega) fun h1 hit1 hs1 => ?_))
  rw [show List.take items.size (List.drop 0 items.toList) = items.toList by rw [List.drop_zero]; exact List.take_of_length_le (by simp)]
  rw [if_neg (by simp)]
  have ht1 : h1.IsList t items := (ht.push _).extBut hs1.extBut hlt
  refine wpAny_bind (wpAny_holding (wpAny_pyNext_list_end hh hit1 ht1 (by simp) fun h2 he2 => ?_))
  simp only [Option.isSome_none, Bool.false_eq_true, if_false]
  exact wpAny_pure (h h2 fun b o hb e => he2 b o hb (hs1.extBut b o hb (Heap.get?_push_of_some _ e)))
/-- a, b, .. = a tuple or a list of that length -/
def gSeq (K : PySem.W.Frag) (n : Nat) (t : TGs) : TG := fun v σ H Q => ∃ a xs, v = .ref a ∧ (SqT K H a xs ∨ SqL K H a xs) ∧ xs.length = n ∧ t xs σ H Q
theorem pg_seq {es : List Expr} {k : Nat} {t : TGs} {n : Nat} (hc : X.calm = true) (h : PGs X es t) (hn : (assignEach es X.env).length = n) (hst : (assignEach es X.env).findIdx? (·.1) = none) : PG X (.Tuple es k pos) (gSeq X.K n t) := by
  refine ⟨fun pins s σ H v u Q I r hw => ?_⟩
  obtain ⟨a, xs, e1, hq, hl, hw⟩ := hw
  subst e1
  cases r
  rcases hq with hq | hq
  · exact (pg_tup hc h hn hst).run pins s σ H (.ref a) (.ref a) Q I rfl ⟨a, xs, rfl, hq, hl, hw⟩
  · obtain ⟨its, rv, ⟨o, m, e1, e2, _, e3⟩, hz⟩ := I.list hq
    refine assign_lst (I.ok.hd hc) (items := its.toArray) ⟨o, e1, e2, m, e3⟩ (by simp [hn, ← hl, rv.length]) hst fun h' hx => ?_
    have I1 : Inv X pins σ H { s with heap := h' } := I.kept (t' := s.toks) fun b o e => hx b o (Nat.ne_of_lt (Heap.lt_size e)) e
    exact h.run pins _ σ H xs _ Q I1 (by simpa using rv) hw
theorem g_tup {es : List Expr} {ts : CTs} {kk : Nat} (hc : X.calm = true) (h : PGs X es (tGs X.K Γ G ts)) (hn : ∀ b xs σ st r, asgs Γ G ts b xs σ st = some r → xs.length = es.length) (hs : es.all notStar = true) : PG X (.Tuple es kk pos) (tG X.K Γ G (.tup ts)) := by
  have hae : assignEach es X.env = es.map fun e => (false, assign e X.env) := by
    clear h hn
    induction es with
    | nil => rfl
    | cons e es ih =>
      rw [List.all_cons, Bool.and_eq_true] at hs
      rw [List.map_cons, ← ih hs.2]
      cases e <;> first | rfl | exact absurd hs.1 Bool.false_ne_true
  refine PGimp (pg_seq (n := es.length) hc h (by rw [hae, List.length_map]) (by rw [hae, List.findIdx?_eq_none_iff]; intro x hx; obtain ⟨y, _, rfl⟩ := List.mem_map.mp hx; rfl)) fun v σ H Q ⟨b, φ, s, st, x, s', st', a, r, e, k⟩ => ?_
  cases x with
  | tup xs =>
    simp only [asg] at e
    obtain ⟨a', vs, rfl, q, rr⟩ := r.tup
    exact ⟨a', vs, rfl, .inl q, by rw [rr.length]; exact hn _ _ _ _ _ e, b, φ, s, st, xs, s', st', a, rr, e, k⟩
  | non => simp [asg] at e
  | bl _ => simp [asg] at e
  | int _ => simp [asg] at e
  | str _ => simp [asg] at e
  | ref n =>
    simp only [asg] at e
    split at e
    · rename_i xs en
      obtain ⟨a', vs, rfl, ea, eh, rr⟩ := a.hr.lst en r
      exact ⟨a', vs, rfl, .inr (.inl (.inl eh)), by rw [rr.length]; exact hn _ _ _ _ _ e, b, φ, s, st, xs, s', st', a, rr, e, k⟩
    · cases e
theorem gs_nil : PGs X [] (tGs X.K Γ G .nil) := PGsimp pgs_nil fun vs σ H Q ⟨b, φ, s, st, xs, s', st', a, r, e, k⟩ => by
  cases xs with
  | nil =>
    simp only [asgs] at e
    cases e
    exact ⟨r.nil_inv, k φ _ H (After.refl a.hr) a.es (Stays.refl _ _)⟩
  | cons x xs => simp [asgs] at e
theorem gs_cons {e : Expr} {es : List Expr} {t : CT} {ts : CTs} (hs : notStar e = true) (h1 : PG X e (tG X.K Γ G t)) (h2 : PGs X es (tGs X.K Γ G ts)) : PGs X (e :: es) (tGs X.K Γ G (.cons t ts)) :=
  PGsimp (pgs_cons h1 h2 (by cases e <;> first | rfl | cases hs)) fun vs σ H Q ⟨b, φ, s, st, xs, s', st', a, r, e, k⟩ => by
  cases xs with
  | nil => simp [asgs] at e
  | cons x xs =>
    simp only [asgs, Option.bind_eq_some_iff] at e
    obtain ⟨⟨s1, st1⟩, e1, e2⟩ := e
    obtain ⟨v, ws, rfl, rx, rr⟩ := r.cons_inv
    refine ⟨v, ws, rfl, b, φ, s, st, x, s1, st1, a, rx, e1, fun φ1 σ1 H1 f1 es1 y1 => ?_⟩
    refine ⟨b, φ1, s1, st1, xs, s', st', ⟨f1.hr, es1, Nat.le_trans a.hb f1.gr.len⟩, f1.rvs rr, e2, fun φ2 σ2 H2 f2 es2 y2 => k _ _ _ (f1.trans f2) es2 ⟨y2.1.trans y1.1, fun i hi => ?_⟩⟩
    simp only [CTs.slots, List.mem_append, not_or] at hi
    rw [y2.2 i hi.2, y1.2 i hi.1]
theorem set_of {b : Nat} {φ : List Addr} {st : Sto} {H : Hp} {n : Nat} {kk : Int} {j : Nat} {xs : List PV} {x : PV} {o i v : V} {Q : Hp → Prop} (h : HR X.K φ st H) (ro : RV X.K φ H (.ref n) o) (ri : RV X.K φ H (.int kk) i) (rv : RV X.K φ H x v) (en : st[n]? = some (.lst xs))
    (ej : ixN xs.length kk = some j) (mp : mayPut b n x = true) (k : ∀ H', After X.K φ φ H H' st (st.set n (.lst (xs.set j x))) b → Q H') : rSetL o i v H Q := by
  obtain ⟨a, vs, rfl, ea, eh, rr⟩ := h.lst en ro
  refine ⟨a, vs, kk, j, rfl, ri.int, eh, by rw [rr.length]; exact ej, k _ (After.put h ea en eh (rr.set rv j) ?_)⟩
  unfold mayPut at mp
  rw [Bool.or_eq_true, decide_eq_true_eq] at mp
  exact mp.imp id fun l m hm => PV.ltA_set (PV.lt_mono (Nat.zero_le _) l) j hm
theorem g_sub {o i : Expr} {co ci : CE} (hp : plainB i = true) (ho : PE X o (tE X.K Γ G co)) (hi : PE X i (tE X.K Γ G ci)) : PG X (.Subscript o i pos) (tG X.K Γ G (.sub co ci)) := by
  refine PGimp (pg_sub ho hi set_list (by intro v; cases i <;> first | rfl | cases hp)) fun v σ H Q ⟨b, φ, s, st, x, s', st', a, r, e, k⟩ => ?_
  simp only [asg, Option.bind_eq_some_iff] at e
  obtain ⟨⟨p, st1⟩, e1, ⟨q, st2⟩, e2, e3⟩ := e
  obtain ⟨n, kk, rfl, rfl⟩ : ∃ n kk, p = .ref n ∧ q = .int kk := by
    cases p <;> cases q <;> simp at e3 <;> exact ⟨_, _, rfl, rfl⟩
  simp only at e3
  split at e3
  · rename_i xs en
    rw [Option.bind_eq_some_iff] at e3
    obtain ⟨j, ej, e3⟩ := e3
    split at e3
    · rename_i mp
      cases e3
      refine ⟨b, φ, s, st, _, st1, a, e1, fun φ1 v1 H1 f1 r1 => ⟨b, φ1, s, st1, _, st2, f1.at_ a, e2, fun φ2 v2 H2 f2 r2 => ?_⟩⟩
      exact set_of (b := b) f2.hr (f2.rv r1) r2 (f2.rv (f1.rv r)) en ej mp fun H' f3 => k _ _ _ ((f1.trans f2).trans f3) (((f1.trans f2).trans f3).at_ a).es (Stays.refl _ _)
    · cases e3
  · cases e3
end
end MP

end
section
set_option Elab.async false
set_option linter.all false
set_option maxRecDepth 100000
set_option maxHeartbeats 4000000
/-! MP: comprehensions; the check is sound, expressions. -/
namespace MP
open PySem PySem.Spec PyProof.Rows L2
theorem wipe_len' (σ : L2.St) (is : List Nat) : (wipe σ is).length = σ.length := wipe_length σ is
theorem wipe_in {i : Nat} : ∀ {own : List Nat}, i ∈ own → ∀ (σ : L2.St), i < σ.length → (wipe σ own)[i]? = some none
  | v :: vs, h, σ, hl => by
    unfold wipe
    by_cases e : v = i
    · subst e; rw [List.getElem?_set_self (by rw [wipe_length]; exact hl)]
    · rw [List.getElem?_set_ne e]
      rcases List.mem_cons.mp h with h | h
      · exact absurd h.symm e
      · exact wipe_in h σ hl
theorem wipe_stays {own is : List Nat} {σ σ2 : L2.St} (h : Stays is (wipe σ own) σ2) (hs : ∀ i ∈ is, i ∈ own) : wipe σ2 own = wipe σ own := by
  have hl : σ2.length = σ.length := by rw [h.1, wipe_length]
  refine List.ext_getElem? fun i => ?_
  by_cases hi : i ∈ own
  · by_cases hb : i < σ.length
    · rw [wipe_in hi σ2 (by omega), wipe_in hi σ hb]
    · rw [List.getElem?_eq_none (by rw [wipe_length]; omega), List.getElem?_eq_none (by rw [wipe_length]; omega)]
  · rw [wipe_get hi σ2, h.2 i (fun z => hi (hs i z))]
section
variable {Γ : Tab} {G : Nat → Option PV} {X : Cx} {ce : CE} {t t1 : CT} {it it1 : CI} {ifs ifs1 : CA} {own : List Nat}
/-- the element comes to the new list -/
theorem push_run {b n : Nat} {φ : List Addr} {st st' : Sto} {H : Hp} {D : Addr} {u : PV} {y : V} {Nx : Hp → Prop} (h : HR X.K φ st H) (eD : φ[n]? = some D) (r : RV X.K φ H u y) (mp : mayPut b n u = true) (e : push n u st = some st')
    (k : ∀ acc, After X.K φ φ H (upd H D (.lst (acc ++ [y]))) st st' b → Nx (upd H D (.lst (acc ++ [y])))) : ∃ acc, H D = some (.lst acc) ∧ acc.length < sizeLine ∧ Nx (upd H D (.lst (acc ++ [y]))) := by
  unfold push at e
  split at e
  · rename_i xs en
    split at e
    · rename_i hl
      cases e
      obtain ⟨vs, eh, rr⟩ := h.ok n D _ eD en
      refine ⟨vs, eh, by rw [rr.length]; exact most_lt hl, k vs (After.put h eD en eh (rr.append (.cons r .nil)) ?_)⟩
      unfold mayPut at mp
      rw [Bool.or_eq_true, decide_eq_true_eq] at mp
      refine mp.imp id fun l m hm => PV.ltA_append hm ?_
      unfold PV.ltA
      rw [Bool.and_eq_true]
      exact ⟨PV.lt_mono (Nat.zero_le _) l, by unfold PV.ltA; rfl⟩
    · cases e
  · cases e
theorem Gr.watch_new {w : List (Nat × SO)} {st : Sto} {o : SO} (h : Watch w st) : Watch w (st ++ [o]) := fun p hp => by
  have := h p hp
  rw [List.getElem?_append_left (len_pos this)]; exact this
theorem lcL_nil {w : List (Nat × SO)} {f : PV → Sto → Option Sto} {st : Sto} : lcL w f [] st = some st := rfl
theorem lcL_cons {w : List (Nat × SO)} {f : PV → Sto → Option Sto} {x : PV} {xs : List PV} {st r : Sto} (h : lcL w f (x :: xs) st = some r) : ∃ st', f x st = some st' ∧ Watch w st' ∧ lcL w f xs st' = some r := by
  simp only [lcL, Option.bind_eq_some_iff] at h
  obtain ⟨st', h1, h2⟩ := h
  split at h2
  · rename_i hw
    exact ⟨st', h1, hw, h2⟩
  · cases h2
theorem drop_at {α : Type} {xs : List α} {i : Nat} (h : i < xs.length) : xs.drop i = xs[i] :: xs.drop (i + 1) := List.drop_eq_getElem_cons h
theorem lc_run (hs : ∀ i ∈ t.slots, i ∈ own) {σ : L2.St} {H : Hp} {Q : VK} (h : tE X.K Γ G (.lc ce t it ifs own) σ H Q) : tLc (tI X.K Γ G it) (tG X.K Γ G t) (tF X.K Γ G ifs) (tE X.K Γ G ce) own σ H Q := by
  obtain ⟨b, φ, s, st, r, st', a, e, k⟩ := h
  simp only [den, Option.bind_eq_some_iff] at e
  obtain ⟨⟨xs, w, st1⟩, e1, st2, e2, e3⟩ := e
  cases e3
  have hw0 := denI_watch e1
  refine ⟨b, φ, s, st, xs, w, st1, a, e1, fun φ1 J H1 f1 wk D hD => ?_⟩
  have hlen : φ1.length = st1.length := f1.hr.len
  obtain ⟨g0, r0⟩ := After.lst (b := b) f1.hr (f1.at_ a).hb hD (RVs.nil (K := X.K))
  let W : Nat → Nat → Hp → Prop := fun i m Hc => m = xs.length - i ∧ i ≤ xs.length ∧ ∃ φc stc, After X.K (φ1 ++ [D]) φc (upd H1 D (.lst [])) Hc (st1 ++ [.lst []]) stc b ∧ Watch w stc ∧
    lcL w (fun x s_1 => (asg Γ G t b x (wipeS s own) s_1).bind fun q => (denF Γ G ifs b q.1 q.2).bind fun r =>
        if r.1 = true then (den Γ G ce b q.1 r.2).bind fun u => if mayPut b (List.length st1) u.1 = true then push (List.length st1) u.1 u.2 else none else some r.2) (xs.drop i) stc = some st'
  refine ⟨W, ⟨_, rfl, Nat.zero_le _, _, _, After.refl g0.hr, Gr.watch_new hw0, e2⟩, ?_⟩
  rintro i m Hc ⟨rfl, hi, φc, stc, fc, hw, el⟩
  have pre1 : φ1 <+: φc := pre_one.trans fc.pre
  have tp1 : Tp X.K H1 Hc := g0.tp.trans fc.tp
  have full : After X.K φ φc H Hc st stc b := (f1.trans g0).trans fc
  by_cases hlt : i < xs.length
  · refine .inr ⟨wk.go φc stc Hc i pre1 tp1 fc.hr hw hlt, W (i + 1) (xs.length - (i + 1)), fun H' p => ⟨xs.length - (i + 1), by omega, p⟩, fun x H' hy => ?_⟩
    obtain ⟨ty, hry, ry⟩ := wk.yld φc stc Hc i x H' pre1 tp1 fc.hr hw hlt hy
    have fy : After X.K (φ1 ++ [D]) φc (upd H1 D (.lst [])) H' (st1 ++ [.lst []]) stc b := ⟨fc.pre, fc.tp.trans ty, hry, fc.gr⟩
    have fully : After X.K φ φc H H' st stc b := ⟨full.pre, full.tp.trans ty, hry, full.gr⟩
    rw [drop_at hlt] at el
    obtain ⟨stn, e4, hwn, eln⟩ := lcL_cons el
    rw [Option.bind_eq_some_iff] at e4
    obtain ⟨⟨s2, st3⟩, e5, e6⟩ := e4
    rw [Option.bind_eq_some_iff] at e6
    obtain ⟨⟨c, st4⟩, e7, e8⟩ := e6
    refine ⟨b, φc, wipeS s own, stc, xs[i], s2, st3, ⟨hry, (a.es.mono fully.pre fully.tp).wipe own, Nat.le_trans a.hb fully.gr.len⟩, ry _ (List.getElem?_eq_getElem hlt), e5, fun φ2 σ2 H2 f2 es2 y2 => ⟨wipe_stays y2 hs, ?_⟩⟩
    have a2 : At X.K b φ2 s2 st3 H2 σ2 := ⟨f2.hr, es2, Nat.le_trans (Nat.le_trans a.hb fully.gr.len) f2.gr.len⟩
    refine ⟨b, φ2, s2, st3, c, st4, a2, e7, fun φ3 H3 f3 => ?_⟩
    cases c with
    | false =>
      simp at e8
      subst e8
      exact ⟨rfl, hlt, φ3, _, (fy.trans f2).trans f3, hwn, eln⟩
    | true =>
      simp only [if_true, Option.bind_eq_some_iff] at e8
      obtain ⟨⟨u, st5⟩, e9, e10⟩ := e8
      show tE X.K Γ G ce σ2 H3 _
      refine ⟨b, φ3, s2, st4, u, st5, f3.at_ a2, e9, fun φ4 y H4 f4 r4 => ?_⟩
      split at e10
      · rename_i mp
        have all := ((fy.trans f2).trans f3).trans f4
        refine push_run (Nx := W (i + 1) (xs.length - (i + 1))) f4.hr (pre_get all.pre (by rw [← hlen, List.getElem?_append_right (Nat.le_refl _), Nat.sub_self]; rfl)) r4 mp e10 fun acc f5 => ⟨rfl, hlt, φ4, _, all.trans f5, hwn, eln⟩
      · cases e10
  · have ei : i = xs.length := by omega
    subst ei
    rw [List.drop_length] at el
    have el' : stc = st' := Option.some.inj el
    subst el'
    refine .inl ⟨wk.stop φc stc Hc pre1 tp1 fc.hr hw, k _ _ _ full (rv_ref (pre_get fc.pre (by rw [← hlen, List.getElem?_append_right (Nat.le_refl _), Nat.sub_self]; rfl)))⟩
theorem lc2_run (hs : ∀ i ∈ t.slots, i ∈ own) {σ : L2.St} {H : Hp} {Q : VK} (h : tE X.K Γ G (.lc2 ce t it ifs t1 it1 ifs1 own) σ H Q) :
    tLc2 (tI X.K Γ G it) (tG X.K Γ G t) (tF X.K Γ G ifs) (tI X.K Γ G it1) (tG X.K Γ G t1) (tF X.K Γ G ifs1) (tE X.K Γ G ce) own t1.slots σ H Q := by
  obtain ⟨b, φ, s, st, r, st', a, e, k⟩ := h
  simp only [den, Option.bind_eq_some_iff] at e
  obtain ⟨⟨xs, w, st1⟩, e1, st2, e2, e3⟩ := e
  cases e3
  have hw0 := denI_watch e1
  refine ⟨b, φ, s, st, xs, w, st1, a, e1, fun φ1 J H1 f1 wk D hD => ?_⟩
  have hlen : φ1.length = st1.length := f1.hr.len
  obtain ⟨g0, r0⟩ := After.lst (b := b) f1.hr (f1.at_ a).hb hD (RVs.nil (K := X.K))
  have atD : ∀ {φc : List Addr}, φ1 ++ [D] <+: φc → φc[st1.length]? = some D := fun hp => pre_get hp (by rw [← hlen, List.getElem?_append_right (Nat.le_refl _), Nat.sub_self]; rfl)
  generalize hstep : (fun (x : PV) (s_1 : Sto) => (asg Γ G t b x (wipeS s own) s_1).bind fun q => (denF Γ G ifs b q.1 q.2).bind fun r =>
        if r.1 = true then (denI Γ G it1 b q.1 r.2).bind fun p1 =>
          lcL (p1.2.1 ++ w) (fun x1 s1 => (asg Γ G t1 b x1 (wipeS q.1 t1.slots) s1).bind fun q1 => (denF Γ G ifs1 b q1.1 q1.2).bind fun r1 =>
            if r1.1 = true then (den Γ G ce b q1.1 r1.2).bind fun u => if mayPut b (List.length st1) u.1 = true then push (List.length st1) u.1 u.2 else none else some r1.2) p1.1 p1.2.2
        else some r.2) = step at e2
  let W : Nat → Nat → Hp → Prop := fun i m Hc => m = xs.length - i ∧ i ≤ xs.length ∧ ∃ φc stc, After X.K (φ1 ++ [D]) φc (upd H1 D (.lst [])) Hc (st1 ++ [.lst []]) stc b ∧ Watch w stc ∧ lcL w step (xs.drop i) stc = some st'
  refine ⟨W, ⟨_, rfl, Nat.zero_le _, _, _, After.refl g0.hr, Gr.watch_new hw0, e2⟩, ?_⟩
  rintro i m Hc ⟨rfl, hi, φc, stc, fc, hw, el⟩
  have pre1 : φ1 <+: φc := pre_one.trans fc.pre
  have tp1 : Tp X.K H1 Hc := g0.tp.trans fc.tp
  have full : After X.K φ φc H Hc st stc b := (f1.trans g0).trans fc
  by_cases hlt : i < xs.length
  · refine .inr ⟨wk.go φc stc Hc i pre1 tp1 fc.hr hw hlt, W (i + 1) (xs.length - (i + 1)), fun H' p => ⟨xs.length - (i + 1), by omega, p⟩, fun x H' hy => ?_⟩
    obtain ⟨ty, hry, ry⟩ := wk.yld φc stc Hc i x H' pre1 tp1 fc.hr hw hlt hy
    have fy : After X.K (φ1 ++ [D]) φc (upd H1 D (.lst [])) H' (st1 ++ [.lst []]) stc b := ⟨fc.pre, fc.tp.trans ty, hry, fc.gr⟩
    have fully : After X.K φ φc H H' st stc b := ⟨full.pre, full.tp.trans ty, hry, full.gr⟩
    rw [drop_at hlt] at el
    obtain ⟨stn, e4, hwn, eln⟩ := lcL_cons el
    rw [← hstep, Option.bind_eq_some_iff] at e4
    obtain ⟨⟨s2, st3⟩, e5, e6⟩ := e4
    rw [Option.bind_eq_some_iff] at e6
    obtain ⟨⟨c, st4⟩, e7, e8⟩ := e6
    refine ⟨b, φc, wipeS s own, stc, xs[i], s2, st3, ⟨hry, (a.es.mono fully.pre fully.tp).wipe own, Nat.le_trans a.hb fully.gr.len⟩, ry _ (List.getElem?_eq_getElem hlt), e5, fun φ2 σ2 H2 f2 es2 y2 => ⟨wipe_stays y2 hs, ?_⟩⟩
    have a2 : At X.K b φ2 s2 st3 H2 σ2 := ⟨f2.hr, es2, Nat.le_trans (Nat.le_trans a.hb fully.gr.len) f2.gr.len⟩
    refine ⟨b, φ2, s2, st3, c, st4, a2, e7, fun φ3 H3 f3 => ?_⟩
    cases c with
    | false =>
      simp at e8
      subst e8
      exact ⟨rfl, hlt, φ3, _, (fy.trans f2).trans f3, hwn, eln⟩
    | true =>
      simp only [if_true, Option.bind_eq_some_iff] at e8
      obtain ⟨⟨ys, w1, st5⟩, e9, e10⟩ := e8
      have a3 := f3.at_ a2
      show tI X.K Γ G it1 σ2 H3 _
      refine ⟨b, φ3, s2, st4, ys, w1, st5, a3, e9, fun φ4 J1 H4 f4 wk1 => ?_⟩
      have hw1 := denI_watch e9
      have to4 : After X.K (φ1 ++ [D]) φ4 (upd H1 D (.lst [])) H4 (st1 ++ [.lst []]) st5 b := ((fy.trans f2).trans f3).trans f4
      have a4 := f4.at_ a3
      generalize hin : (fun (x1 : PV) (s1 : Sto) => (asg Γ G t1 b x1 (wipeS s2 t1.slots) s1).bind fun q1 => (denF Γ G ifs1 b q1.1 q1.2).bind fun r1 =>
            if r1.1 = true then (den Γ G ce b q1.1 r1.2).bind fun u => if mayPut b (List.length st1) u.1 = true then push (List.length st1) u.1 u.2 else none else some r1.2) = inner at e10
      -- the first turn needs w kept: where there is a turn, the loop looks at it; where there is none, nothing is asked
      let W1 : Nat → Nat → Hp → Prop := fun j m Hc => m = ys.length - j ∧ j ≤ ys.length ∧ ∃ φc stc, After X.K φ4 φc H4 Hc st5 stc b ∧ Watch w1 stc ∧ lcL (w1 ++ w) inner (ys.drop j) stc = some stn
      refine ⟨W1, ⟨_, rfl, Nat.zero_le _, _, _, After.refl f4.hr, hw1, e10⟩, ?_⟩
      rintro j m Hd ⟨rfl, hj, φd, std, fd, hwd, eld⟩
      by_cases hlj : j < ys.length
      · refine .inr ⟨wk1.go φd std Hd j fd.pre fd.tp fd.hr hwd hlj, W1 (j + 1) (ys.length - (j + 1)), fun H' p => ⟨ys.length - (j + 1), by omega, p⟩, fun x1 H' hy1 => ?_⟩
        obtain ⟨ty1, hry1, ry1⟩ := wk1.yld φd std Hd j x1 H' fd.pre fd.tp fd.hr hwd hlj hy1
        have fy1 : After X.K φ4 φd H4 H' st5 std b := ⟨fd.pre, fd.tp.trans ty1, hry1, fd.gr⟩
        rw [drop_at hlj] at eld
        obtain ⟨stm, e11, hwm, elm⟩ := lcL_cons eld
        rw [← hin, Option.bind_eq_some_iff] at e11
        obtain ⟨⟨s3, st6⟩, e12, e13⟩ := e11
        rw [Option.bind_eq_some_iff] at e13
        obtain ⟨⟨c1, st7⟩, e14, e15⟩ := e13
        have a5 := fy1.at_ a4
        refine ⟨b, φd, wipeS s2 t1.slots, std, ys[j], s3, st6, ⟨hry1, a5.es.wipe _, a5.hb⟩, ry1 _ (List.getElem?_eq_getElem hlj), e12, fun φ5 σ5 H5 f5 es5 y5 => ⟨wipe_stays y5 (fun _ z => z), ?_⟩⟩
        have a6 : At X.K b φ5 s3 st6 H5 σ5 := ⟨f5.hr, es5, Nat.le_trans a5.hb f5.gr.len⟩
        refine ⟨b, φ5, s3, st6, c1, st7, a6, e14, fun φ6 H6 f6 => ?_⟩
        cases c1 with
        | false =>
          simp at e15
          subst e15
          exact ⟨rfl, hlj, φ6, _, (fy1.trans f5).trans f6, (watch_app hwm).1, elm⟩
        | true =>
          simp only [if_true, Option.bind_eq_some_iff] at e15
          obtain ⟨⟨u, st8⟩, e16, e17⟩ := e15
          show tE X.K Γ G ce σ5 H6 _
          refine ⟨b, φ6, s3, st7, u, st8, f6.at_ a6, e16, fun φ7 y H7 f7 r7 => ?_⟩
          split at e17
          · rename_i mp
            have all := ((fy1.trans f5).trans f6).trans f7
            exact push_run (Nx := W1 (j + 1) (ys.length - (j + 1))) f7.hr (atD (to4.pre.trans all.pre)) r7 mp e17 fun acc f8 => ⟨rfl, hlj, φ7, _, all.trans f8, (watch_app hwm).1, elm⟩
          · cases e17
      · have ej : j = ys.length := by omega
        subst ej
        rw [List.drop_length] at eld
        have eld' : std = stn := Option.some.inj eld
        subst eld'
        exact .inl ⟨wk1.stop φd std Hd fd.pre fd.tp fd.hr hwd, rfl, hlt, φd, std, to4.trans fd, hwn, eln⟩
  · have ei : i = xs.length := by omega
    subst ei
    rw [List.drop_length] at el
    have el' : stc = st' := Option.some.inj el
    subst el'
    exact .inl ⟨wk.stop φc stc Hc pre1 tp1 fc.hr hw, k _ _ _ full (rv_ref (atD fc.pre))⟩
end
end MP

end
section
set_option Elab.async false
set_option linter.all false
set_option maxRecDepth 100000
set_option maxHeartbeats 4000000
/-! MP: the check is sound: expressions, arguments, targets, what is walked. -/
namespace MP
open PySem PySem.Spec PyProof.Rows L2
theorem kw_all : ∀ {kws : List Keyword} (h : kws.all (fun k => k.arg.isSome) = true) (pos : Pos) (env : Env), (backToKw pos (keywordEach kws env)).all (·.1.isSome) = true ∧ (backToKw pos (keywordEach kws env)).any (·.1.isNone) = false ∧
    (backToKw pos (keywordEach kws env)).filterMap (·.1) = kws.filterMap (·.arg)
  | [], _, _, _ => ⟨rfl, rfl, rfl⟩
  | ⟨nm, v, p⟩ :: kws, h, pos, env => by
    rw [List.all_cons, Bool.and_eq_true] at h
    obtain ⟨a, b, c⟩ := kw_all h.2 pos env
    unfold backToKw at a b c ⊢
    show ((List.map _ ((nm, eval v env) :: keywordEach kws env)).all _ = true) ∧ _ ∧ _
    cases nm with
    | none => cases h.1
    | some x =>
      refine ⟨?_, ?_, ?_⟩
      · rw [List.map_cons, List.all_cons, a]; rfl
      · show (List.map _ ((some x, eval v env) :: keywordEach kws env)).any _ = false
        rw [List.map_cons, List.any_cons, b]; rfl
      · show (List.map _ ((some x, eval v env) :: keywordEach kws env)).filterMap _ = _
        rw [List.map_cons, List.filterMap_cons, List.filterMap_cons, c]
theorem swap_false {e : Expr} {t : Option Expr} {l : Nat} {env : Env} (h : (match e with | .ListComp .. => false | .SetComp .. => false | .DictComp .. => false | _ => true) = true) : swapsWith e t l env = pure false := by
  cases e <;> first | rfl | cases h
theorem denA_len {Γ : Tab} {G : Nat → Option PV} {Ω : Om} {lim : Nat} {N : List Str} : ∀ {as : CA} {sc : Nms} {es : List Expr} {b : Nat} {σ : Sl} {st st' : Sto} {rs : List PV}, okA Ω lim N as sc es = true → denA Γ G as b σ st = some (rs, st') → rs.length = es.length
  | .nil, sc, es, b, σ, st, st', rs, h, e => by
    simp only [okA, List.isEmpty_iff] at h
    simp only [denA] at e
    cases e; subst h; rfl
  | .cons c r, sc, es, b, σ, st, st', rs, h, e => by
    cases es with
    | nil => simp [okA] at h
    | cons x xs =>
      simp only [okA, Bool.and_eq_true] at h
      simp only [denA, Option.bind_eq_some_iff] at e
      obtain ⟨⟨p, st1⟩, e1, ⟨q, st2⟩, e2, e3⟩ := e
      cases e3
      rw [List.length_cons, List.length_cons, denA_len h.2 e2]
theorem asgs_len {Γ : Tab} {G : Nat → Option PV} {Ω : Om} {lim : Nat} {N : List Str} {ow : Str → Bool} : ∀ {ts : CTs} {sc : Nms} {es : List Expr} {b : Nat} {xs : List PV} {σ : Sl} {st : Sto} {r : Sl × Sto}, okTs Ω lim N ts sc ow es = true → asgs Γ G ts b xs σ st = some r → xs.length = es.length
  | .nil, sc, es, b, xs, σ, st, r, h, e => by
    simp only [okTs, List.isEmpty_iff] at h
    subst h
    cases xs with
    | nil => rfl
    | cons x xs => simp [asgs] at e
  | .cons t r, sc, es, b, xs, σ, st, r', h, e => by
    cases es with
    | nil => simp [okTs] at h
    | cons x es =>
      simp only [okTs, Bool.and_eq_true] at h
      cases xs with
      | nil => simp [asgs] at e
      | cons y ys =>
        simp only [asgs, Option.bind_eq_some_iff] at e
        obtain ⟨p, e1, e2⟩ := e
        rw [List.length_cons, List.length_cons, asgs_len h.2 e2]
theorem okTs_star {Ω : Om} {lim : Nat} {N : List Str} {ow : Str → Bool} : ∀ {ts : CTs} {sc : Nms} {es : List Expr}, okTs Ω lim N ts sc ow es = true → es.all notStar = true
  | .nil, _, es, h => by
    simp only [okTs, List.isEmpty_iff] at h
    subst h; rfl
  | .cons e r, sc, es, h => by
    cases es with
    | nil => simp [okTs] at h
    | cons x xs =>
      simp only [okTs, Bool.and_eq_true] at h
      rw [List.all_cons, Bool.and_eq_true]
      exact ⟨h.1.1, okTs_star h.2⟩
section
variable {Ω : Om} {Γ : Tab} {G : Nat → Option PV} {lim k : Nat} {N : List Str}
/-- what is shown of an expression -/
def Fine (X : Cx) (Γ : Tab) (G : Nat → Option PV) (ce : CE) (e : Expr) : Prop :=
  PE X e (tE X.K Γ G ce) ∧ (ce.tst = true → PT X e (tT X.K Γ G ce) ∧ ∀ op es pos, e = .BoolOp op es pos → PW X e (tT X.K Γ G ce))
theorem Fine.plain {X : Cx} {ce : CE} {e : Expr} (h : PE X e (tE X.K Γ G ce)) (he : ∀ whole, isTrue e X.env whole = (do let v ← whole; standAt e.pos; holding [v] (truthy v))) (hb : ∀ op es pos, e ≠ .BoolOp op es pos) : Fine X Γ G ce e :=
  ⟨h, fun _ => ⟨pt_of h he, fun op es pos q => absurd q (hb op es pos)⟩⟩
theorem Fine.no {X : Cx} {ce : CE} {e : Expr} (h : PE X e (tE X.K Γ G ce)) (ht : ce.tst = false) : Fine X Γ G ce e := ⟨h, fun z => by rw [ht] at z; cases z⟩
theorem tT_test {K : PySem.W.Frag} {ce : CE} {t : TE} (f : ∀ σ H Q, tE K Γ G ce σ H Q → t σ H Q) (σ : L2.St) (H : Hp) (Q : Bool → Hp → Prop) (h : tT K Γ G ce σ H Q) : tTest t σ H Q := by
  refine f _ _ _ ?_
  obtain ⟨b, φ, s, st, c, st', a, e, k⟩ := h
  exact ⟨b, φ, s, st, _, st', a, e, fun φ' v H' f r => ⟨c, r.bl, k _ _ f⟩⟩
theorem mem_blt {x : Str} {f : Bl} (h : f ≠ .sset) (h2 : f ≠ .gcd) : bltN f ∈ bltNames := by
  cases f <;> first | exact absurd rfl h | exact absurd rfl h2 | decide +kernel
theorem boot_of (f : Bl) : (f = .int1 ∨ f = .list1 ∨ f = .tuple1 ∨ f = .gcd ∨ f = .sset) ∨ bootBuiltins (bltN f) = some (.builtin (match f with | .len => "len" | .abs => "abs" | .max2 => "max" | .divmod => "divmod" | .repr => "repr" | .all1 => "all" | .any1 => "any" | _ => "")) := by
  cases f <;> first | (right; decide +kernel) | simp
theorem nn (f : Bl) : bltN f ≠ "__name__" := by cases f <;> decide +kernel
theorem okI_noset {it : CI} {sc : Nms} {tg e : Expr} (h : okI Ω lim N it sc tg e = true) : noSet e = true := by
  cases it with
  | seq a =>
    simp only [okI, Bool.and_eq_true] at h
    exact h.1.2
  | rng1 a => unfold okI at h; split at h <;> first | rfl | cases h
  | rng2 a b => unfold okI at h; split at h <;> first | rfl | cases h
  | enum a => unfold okI at h; split at h <;> first | rfl | cases h
  | zip a b => unfold okI at h; split at h <;> first | rfl | cases h
theorem gc_runT {X : Cx} {ca : CE} {σ : L2.St} {H : Hp} {Q : Bool → Hp → Prop} (h : tT X.K Γ G (.gc ca) σ H Q) : tT X.K Γ G ca σ H Q := by
  obtain ⟨b, φ, s, st, c, st', a, e, k⟩ := h
  simp only [den, Option.bind_eq_some_iff] at e
  obtain ⟨⟨p, st1⟩, e1, e2⟩ := e
  have e3 : fin st.length p st1 = (.bl c, st') := by simpa using e2
  have hp : p = .bl c := by
    cases p with
    | bl d =>
      unfold fin at e3
      simp only at e3
      split at e3 <;> (cases e3; rfl)
    | ref n =>
      unfold fin at e3
      simp only at e3
      split at e3
      · cases e3
      · split at e3
        · split at e3 <;> cases e3
        · cases e3
    | non => unfold fin at e3; simp only at e3; split at e3 <;> cases e3
    | int _ => unfold fin at e3; simp only at e3; split at e3 <;> cases e3
    | str _ => unfold fin at e3; simp only at e3; split at e3 <;> cases e3
    | tup _ => unfold fin at e3; simp only at e3; split at e3 <;> cases e3
  subst hp
  refine ⟨st.length, φ, s, st, c, st1, ⟨a.hr, a.es, Nat.le_refl _⟩, e1, fun φ1 H1 f1 => ?_⟩
  obtain ⟨c', q1, q2⟩ := gc_run.fin_run (Q := fun v H' => ∃ c', v = V.bl c' ∧ Q c' H') a.hr a.hb f1 (rv_bl c) e3 fun φ' v H' f r => ⟨c, r.bl, k _ _ f⟩
  cases q1
  exact q2
mutual
theorem sE : ∀ (ce : CE) {X : Cx} {sc : Nms} {ow : Str → Bool} {e : Expr}, Good Ω Γ G lim k N sc ow X → okE Ω lim N ce sc e = true → Fine X Γ G ce e
  | .var i, X, sc, ow, e, g, h => by
    unfold okE at h
    split at h
    · rename_i x pos
      simp only [Bool.and_eq_true, beq_iff_eq, Bool.not_eq_true'] at h
      obtain ⟨⟨⟨h1, h2⟩, h3⟩, h4⟩ := h
      refine Fine.plain (PEimp (pe_var (i := i) (by rw [g.hN]; exact h1) (g.vis h2) h3 h4) fun σ H Q ⟨b, φ, s, st, r, st', a, e, k⟩ => ?_) (fun _ => rfl) (fun _ _ _ => by intro z; cases z)
      simp only [den] at e
      split at e
      · rename_i v ev
        cases e
        obtain ⟨u, eu, ru⟩ := a.es.get i _ ev
        exact ⟨u, eu, k φ u H (After.refl a.hr) ru⟩
      · cases e
    · cases h
  | .non, X, sc, ow, e, g, h => by
    unfold okE at h
    split at h
    · refine Fine.no (PEimp pe_non fun σ H Q ⟨b, φ, s, st, r, st', a, e, k⟩ => ?_) rfl
      simp only [den] at e; cases e
      exact k φ _ H (After.refl a.hr) rv_non
    · cases h
  | .bl c, X, sc, ow, e, g, h => by
    unfold okE at h
    split at h
    · have := beq_iff_eq.mp h
      subst this
      refine Fine.plain (PEimp pe_bl fun σ H Q ⟨b, φ, s, st, r, st', a, e, k⟩ => ?_) (fun _ => rfl) (fun _ _ _ => by intro z; cases z)
      simp only [den] at e; cases e
      exact k φ _ H (After.refl a.hr) (rv_bl _)
    · cases h
  | .int c, X, sc, ow, e, g, h => by
    unfold okE at h
    split at h
    · have := beq_iff_eq.mp h
      subst this
      refine Fine.no (PEimp pe_int fun σ H Q ⟨b, φ, s, st, r, st', a, e, k⟩ => ?_) rfl
      simp only [den] at e; cases e
      exact k φ _ H (After.refl a.hr) (rv_int _)
    · cases h
  | .str c, X, sc, ow, e, g, h => by
    unfold okE at h
    split at h
    · have := beq_iff_eq.mp h
      subst this
      refine Fine.no (PEimp pe_str fun σ H Q ⟨b, φ, s, st, r, st', a, e, k⟩ => ?_) rfl
      simp only [den] at e; cases e
      exact k φ _ H (After.refl a.hr) (rv_str _)
    · cases h
  | .glb n, X, sc, ow, e, g, h => by
    unfold okE at h
    split at h
    · rename_i x pos
      simp only [Bool.and_eq_true, beq_iff_eq] at h
      obtain ⟨h1, rfl⟩ := h
      obtain ⟨g1, g2⟩ := g.gl h1
      refine Fine.no ⟨fun pins s σ H Q I q => ?_⟩ rfl
      obtain ⟨b, φ, s', st, r, st', a, e, k⟩ := q
      simp only [den, Option.bind_eq_some_iff] at e
      obtain ⟨v, e1, e2⟩ := e
      cases e2
      obtain ⟨u, x, m1, m2, m3⟩ := g.facts.glb n _ e1
      exact (pe_glob g1 m1 m2 g2).run pins s σ H Q I (k φ x H (After.refl a.hr) (m3 _ _))
    · cases h
  | .bin o a b, X, sc, ow, e, g, h => by
    unfold okE at h
    split at h
    · simp only [Bool.and_eq_true, decide_eq_true_eq] at h
      obtain ⟨⟨h1, h2⟩, h3⟩ := h
      subst h1
      exact Fine.no (x_bin o (sE a g h2).1 (sE b g h3).1) rfl
    · cases h
  | .neg a, X, sc, ow, e, g, h => by
    unfold okE at h
    split at h
    · exact Fine.no (x_neg (sE a g h).1) rfl
    · cases h
  | .not a, X, sc, ow, e, g, h => by
    unfold okE at h
    split at h
    · have q := sE a g h
      exact ⟨x_not q.1, fun t => ⟨x_notT (q.2 t).1, fun op es pos z => by cases z⟩⟩
    · cases h
  | .and a c, X, sc, ow, e, g, h => by
    unfold okE at h
    split at h
    · rename_i x y pos
      simp only [Bool.and_eq_true] at h
      have q1 := sE a g h.1
      have q2 := sE c g h.2
      refine ⟨PEimp (pe_and q1.1 (pe_one q2.1)) fun _ _ _ => and_run, fun t => ?_⟩
      have t' : a.tst = true ∧ c.tst = true := by simpa [CE.tst] using t
      have w : PW X (.BoolOp .And [x, y] pos) (tT X.K Γ G (.and a c)) := ⟨fun wh pins s σ H Q I q => (pw_and (q1.2 t'.1).1 (pw_and1 (q2.2 t'.2).1)).run wh pins s σ H Q I (and_runT q)⟩
      exact ⟨w.pt, fun op es pos z => by cases z; exact w⟩
    · rename_i x y z r pos
      simp only [Bool.and_eq_true] at h
      have q1 := sE a g h.1
      have q2 := sE c g h.2
      refine ⟨PEimp (pe_and q1.1 q2.1) fun _ _ _ => and_run, fun t => ?_⟩
      have t' : a.tst = true ∧ c.tst = true := by simpa [CE.tst] using t
      have w : PW X (.BoolOp .And (x :: y :: z :: r) pos) (tT X.K Γ G (.and a c)) := ⟨fun wh pins s σ H Q I q => (pw_and (q1.2 t'.1).1 ((q2.2 t'.2).2 _ _ _ rfl)).run wh pins s σ H Q I (and_runT q)⟩
      exact ⟨w.pt, fun op es pos z => by cases z; exact w⟩
    · cases h
  | .or a c, X, sc, ow, e, g, h => by
    unfold okE at h
    split at h
    · rename_i x y pos
      simp only [Bool.and_eq_true] at h
      have q1 := sE a g h.1
      have q2 := sE c g h.2
      refine ⟨PEimp (pe_or q1.1 (pe_one q2.1)) fun _ _ _ => or_run, fun t => ?_⟩
      have t' : a.tst = true ∧ c.tst = true := by simpa [CE.tst] using t
      have w : PW X (.BoolOp .Or [x, y] pos) (tT X.K Γ G (.or a c)) := ⟨fun wh pins s σ H Q I q => (pw_or (q1.2 t'.1).1 (pw_or1 (q2.2 t'.2).1)).run wh pins s σ H Q I (or_runT q)⟩
      exact ⟨w.pt, fun op es pos z => by cases z; exact w⟩
    · rename_i x y z r pos
      simp only [Bool.and_eq_true] at h
      have q1 := sE a g h.1
      have q2 := sE c g h.2
      refine ⟨PEimp (pe_or q1.1 q2.1) fun _ _ _ => or_run, fun t => ?_⟩
      have t' : a.tst = true ∧ c.tst = true := by simpa [CE.tst] using t
      have w : PW X (.BoolOp .Or (x :: y :: z :: r) pos) (tT X.K Γ G (.or a c)) := ⟨fun wh pins s σ H Q I q => (pw_or (q1.2 t'.1).1 ((q2.2 t'.2).2 _ _ _ rfl)).run wh pins s σ H Q I (or_runT q)⟩
      exact ⟨w.pt, fun op es pos z => by cases z; exact w⟩
    · cases h
  | .cmp o a b, X, sc, ow, e, g, h => by
    unfold okE at h
    split at h
    · rename_i x op y pos
      simp only [Bool.and_eq_true, decide_eq_true_eq] at h
      obtain ⟨⟨h1, h2⟩, h3⟩ := h
      subst h1
      have q1 := (sE a g h2).1
      have q2 := (sE b g h3).1
      have nm : behindInMarks (cmOf o) y = false := by cases o <;> exact nomark y
      exact ⟨PEimp (pe_cmpR (op_cmp g.un o) q1 q2 nm) fun _ _ _ => cmp_run, fun _ => ⟨PTimp (pt_cmpR (op_cmp g.un o) q1 q2 nm) (tT_test fun _ _ _ => cmp_run), fun op es pos z => by cases z⟩⟩
    · cases h
  | .chain o o' a b c, X, sc, ow, e, g, h => by
    unfold okE at h
    split at h
    · rename_i x op op' y z pos
      simp only [Bool.and_eq_true, decide_eq_true_eq] at h
      obtain ⟨⟨⟨⟨h1, h2⟩, h3⟩, h4⟩, h5⟩ := h
      subst h1; subst h2
      have q1 := (sE a g h3).1
      have q2 := (sE b g h4).1
      have q3 := (sE c g h5).1
      have nm : lastMarks [cmOf o, cmOf o'] [y, z] = false := by
        show behindInMarks (cmOf o') z = false
        cases o' <;> exact nomark z
      exact ⟨PEimp (pe_chain (op_cmp g.un o) (op_cmp g.un o') q1 q2 q3 nm) fun _ _ _ => chain_run, fun _ => ⟨PTimp (pt_chain (op_cmp g.un o) (op_cmp g.un o') q1 q2 q3 nm) (tT_test fun _ _ _ => chain_run), fun op es pos z => by cases z⟩⟩
    · cases h
  | .ite c a b, X, sc, ow, e, g, h => by
    unfold okE at h
    split at h
    · simp only [Bool.and_eq_true] at h
      obtain ⟨⟨⟨h1, h2⟩, h3⟩, h4⟩ := h
      exact Fine.no (x_ite ((sE c g h2).2 h1).1 (sE a g h3).1 (sE b g h4).1) rfl
    · cases h
  | .tup as, X, sc, ow, e, g, h => by
    unfold okE at h
    split at h
    · exact Fine.no (x_tup (sA as g h)) rfl
    · cases h
  | .lst as, X, sc, ow, e, g, h => by
    unfold okE at h
    split at h
    · exact Fine.no (x_lst (sA as g h)) rfl
    · cases h
  | .edict, X, sc, ow, e, g, h => by
    unfold okE at h
    split at h
    · exact Fine.no x_edict rfl
    · cases h
  | .idx a b, X, sc, ow, e, g, h => by
    unfold okE at h
    split at h
    · simp only [Bool.and_eq_true] at h
      obtain ⟨⟨h1, h2⟩, h3⟩ := h
      exact Fine.plain (x_idx h1 (sE a g h2).1 (sE b g h3).1) (fun _ => rfl) (fun _ _ _ => by intro z; cases z)
    · cases h
  | .sl a lo hi, X, sc, ow, e, g, h => by
    unfold okE at h
    split at h
    · simp only [Bool.and_eq_true] at h
      obtain ⟨⟨h1, h2⟩, h3⟩ := h
      exact Fine.plain (x_sl (sE a g h1).1 (sO lo g h2) (sO hi g h3)) (fun _ => rfl) (fun _ _ _ => by intro z; cases z)
    · cases h
  | .call j as, X, sc, ow, e, g, h => by
    unfold okE at h
    split at h
    · simp only [Bool.and_eq_true, decide_eq_true_eq, beq_iff_eq] at h
      obtain ⟨⟨⟨h1, h2⟩, h3⟩, h4⟩ := h
      subst h2
      obtain ⟨g1, g2⟩ := g.gl h3
      obtain ⟨f, fd, m1, m2, m3, _, m5⟩ := g.facts.fns j h1
      have st := okA_star h4
      rw [List.all_cons, Bool.and_eq_true] at st
      exact Fine.plain (PEimp (pe_callG m5 g.room g.gds g1 m1 m2 m3 (sA as g h4) g2 (star_one st.1 _ _) (back_any st.2 _ _)) fun _ _ _ => call_run fun ps st r => g.facts.args j ps st r) (fun _ => rfl) (fun _ _ _ => by intro z; cases z)
    · cases h
  | .callk j as perm, X, sc, ow, e, g, h => by
    unfold okE at h
    split at h
    · rename_i x p kws pos
      simp only [Bool.and_eq_true, decide_eq_true_eq, beq_iff_eq] at h
      obtain ⟨⟨⟨⟨⟨⟨h1, h2⟩, h3⟩, h4⟩, h5⟩, h6⟩, h7⟩ := h
      subst h2
      obtain ⟨g1, g2⟩ := g.gl h3
      obtain ⟨f, fd, m1, m2, m3, m4, m5⟩ := g.facts.fns j h1
      obtain ⟨k1, k2, k3⟩ := kw_all h4 pos X.env
      have hl : ∀ l : List Keyword, l.all (fun k => k.arg.isSome) = true → (l.filterMap (·.arg)).length = l.length := fun l => by
        induction l with
        | nil => intro _; rfl
        | cons y ys ih =>
          intro hy
          rw [List.all_cons, Bool.and_eq_true] at hy
          rw [List.filterMap_cons]
          cases hz : y.arg with
          | none => rw [hz] at hy; cases hy.1
          | some z => show (z :: _).length = _; rw [List.length_cons, List.length_cons, ih hy.2]
      refine Fine.plain (PEimp (pe_callKG m5 g.room g.gds g1 m1 m2 (m4 (j, kws.filterMap (·.arg), perm) (by simpa using h5) rfl) (sK as g h6) k1 k3 ?_ g2 (by rw [k2]; rfl)) fun _ _ _ => callk_run fun ps st r => g.facts.args j ps st r) (fun _ => rfl) (fun _ _ _ => by intro z; cases z)
      rintro σ H Q ⟨b, φ, s, st, rs, st', a, e, q⟩
      refine ⟨b, φ, s, st, rs, st', a, e, fun φ' vs H' f r => ⟨q _ _ _ f r, ?_⟩⟩
      rw [r.length, denA_len h6 e, List.length_map, hl _ h4]
    · cases h
  | .blt f as, X, sc, ow, e, g, h => by
    unfold okE at h
    split at h
    · rename_i hf
      have hf : f = .sset := by simpa using hf
      subst hf
      split at h
      · rename_i x p y p2 z pos2 pos
        simp only [Bool.and_eq_true, beq_iff_eq] at h
        obtain ⟨⟨⟨⟨h1, h2⟩, h3⟩, h4⟩, h5⟩ := h
        subst h1; subst h2
        obtain ⟨g1, g2⟩ := g.gl h3
        obtain ⟨g3, g4⟩ := g.gl h4
        have st := okA_star h5
        rw [List.all_cons, Bool.and_eq_true] at st
        have pset := pe_callTy (pos := pos2) (p := p2) (cr_setOfT (X := X) g.calm g.un) g3 (g.facts.blt _ (by decide +kernel)) (by decide +kernel) (sA as g h5) (by decide +kernel) g4 (star_one st.1 _ _) (back_any st.2 _ _)
        refine Fine.plain (PEimp (pe_callB (cr_sortedT g.calm) g1 (g.facts.blt _ (by decide +kernel)) (by decide +kernel) (pa_cons pset pa_nil) (by decide +kernel) g2) fun σ H Q q => ?_) (fun _ => rfl) (fun _ _ _ => by intro z; cases z)
        obtain ⟨b, φ, s, st', rs, st'', a, e, k⟩ := blt_run q
        exact ⟨b, φ, s, st', rs, st'', a, e, fun φ' vs H' f r => ss_run (k φ' vs H' f r)⟩
      · cases h
    · rename_i h1'
      have h1 : f ≠ .sset := by simpa using h1'
      split at h
      case h_2 => cases h
      rename_i x p y ys pos
      simp only [Bool.and_eq_true, decide_eq_true_eq, beq_iff_eq] at h
      obtain ⟨⟨h2, h3⟩, h4⟩ := h
      subst h2
      obtain ⟨g1, g2⟩ := g.gl h3
      have st := okA_star h4
      rw [List.all_cons, Bool.and_eq_true] at st
      have pa := sA as g h4
      have bi : ∀ {id : String}, f ≠ .gcd → bootBuiltins (bltN f) = some (.builtin id) → CallR X (.builtin id) (rB X.K f) → Fine X Γ G (.blt f as) (.Call (.Name (bltN f) p) (y :: ys) [] pos) := fun hn hb hc =>
        Fine.plain (PEimp (pe_callB hc g1 (g.facts.blt _ (mem_blt (x := bltN f) h1 hn)) hb pa (nn f) g2 (star_one st.1 _ _) (back_any st.2 _ _)) fun _ _ _ => blt_run) (fun _ => rfl) (fun _ _ _ => by intro z; cases z)
      have ty : ∀ {id : String}, f ≠ .gcd → bootBuiltins (bltN f) = some (.type id) → CallR X (.type id) (rB X.K f) → Fine X Γ G (.blt f as) (.Call (.Name (bltN f) p) (y :: ys) [] pos) := fun hn hb hc =>
        Fine.plain (PEimp (pe_callTy hc g1 (g.facts.blt _ (mem_blt (x := bltN f) h1 hn)) hb pa (nn f) g2 (star_one st.1 _ _) (back_any st.2 _ _)) fun _ _ _ => blt_run) (fun _ => rfl) (fun _ _ _ => by intro z; cases z)
      cases f with
      | len => exact bi (by decide) (by decide +kernel) cb_len
      | abs => exact bi (by decide) (by decide +kernel) cb_abs
      | max2 => exact bi (by decide) (by decide +kernel) (cb_max g.calm)
      | int1 => exact ty (by decide) (by decide +kernel) cb_int
      | divmod => exact bi (by decide) (by decide +kernel) cb_divmod
      | list1 => exact ty (by decide) (by decide +kernel) cb_list
      | tuple1 => exact ty (by decide) (by decide +kernel) cb_tuple
      | repr => exact bi (by decide) (by decide +kernel) (cb_repr g.facts.sys g.gds g.un)
      | all1 => exact bi (by decide) (by decide +kernel) (cb_all g.calm)
      | any1 => exact bi (by decide) (by decide +kernel) (cb_any g.calm)
      | gcd => exact Fine.plain (PEimp (pe_callBfun cb_gcd g1 g.facts.gcd pa g2 (star_one st.1 _ _) (back_any st.2 _ _)) fun _ _ _ => blt_run) (fun _ => rfl) (fun _ _ _ => by intro z; cases z)
      | sset => exact absurd rfl h1
  | .spc f as, X, sc, ow, e, g, h => by
    unfold okE at h
    split at h
    · simp only [Bool.and_eq_true, beq_iff_eq] at h
      obtain ⟨⟨⟨⟨h1, h2⟩, h3⟩, h4⟩, h5⟩ := h
      subst h1; subst h2
      obtain ⟨g1, g2⟩ := g.gl h3
      obtain ⟨g3, g4⟩ := g.gl h4
      have st := okA_star h5
      simp only [List.all_cons, List.all_nil, Bool.and_true, Bool.and_eq_true] at st
      refine Fine.no (PEimp (pe_listRg g.calm g1 (g.facts.blt _ (by decide +kernel)) (prg_A1 g3 (g.facts.blt _ (by decide +kernel)) (sA as g h5) (star_one st _ _))) fun σ H Q q => ?_) rfl
      obtain ⟨b, φ, s, st', rs, st'', a, e, k⟩ := spc_run q
      exact ⟨b, φ, s, st', rs, st'', a, e, fun φ' vs H' f r => by
        obtain ⟨j, rfl, q1, q2⟩ := rS_rng1 (k φ' vs H' f r)
        exact ⟨j, rfl, q1, q2⟩⟩
    · simp only [Bool.and_eq_true, beq_iff_eq] at h
      obtain ⟨⟨⟨⟨h1, h2⟩, h3⟩, h4⟩, h5⟩ := h
      subst h1; subst h2
      obtain ⟨g1, g2⟩ := g.gl h3
      obtain ⟨g3, g4⟩ := g.gl h4
      have st := okA_star h5
      simp only [List.all_cons, List.all_nil, Bool.and_true, Bool.and_eq_true] at st
      refine Fine.no (PEimp (pe_listRg g.calm g1 (g.facts.blt _ (by decide +kernel)) (prg_A2 g3 (g.facts.blt _ (by decide +kernel)) (sA as g h5) (by rw [star_one st.1, star_one st.2]; rfl) (star_one st.2 _ _))) fun σ H Q q => ?_) rfl
      obtain ⟨b, φ, s, st', rs, st'', a, e, k⟩ := spc_run q
      exact ⟨b, φ, s, st', rs, st'', a, e, fun φ' vs H' f r => by
        obtain ⟨i, j, rfl, q1, q2⟩ := rS_rng2 (k φ' vs H' f r)
        exact ⟨i, j, rfl, q1, q2⟩⟩
    · simp only [Bool.and_eq_true, beq_iff_eq] at h
      obtain ⟨⟨⟨⟨h1, h2⟩, h3⟩, h4⟩, h5⟩ := h
      subst h1; subst h2
      obtain ⟨g1, g2⟩ := g.gl h3
      obtain ⟨g3, g4⟩ := g.gl h4
      have st := okA_star h5
      simp only [List.all_cons, List.all_nil, Bool.and_true, Bool.and_eq_true] at st
      refine Fine.no (PEimp (pe_listZip g.calm g1 (g.facts.blt _ (by decide +kernel)) g3 (g.facts.blt _ (by decide +kernel)) (sA as g h5) (star_one st.1 _ _) (by rw [star_one st.2]; rfl)) fun σ H Q q => ?_) rfl
      obtain ⟨b, φ, s, st', rs, st'', a, e, k⟩ := spc_run q
      exact ⟨b, φ, s, st', rs, st'', a, e, fun φ' vs H' f r => rS_zip (k φ' vs H' f r)⟩
    · cases h
  | .isi a t, X, sc, ow, e, g, h => by
    unfold okE at h
    split at h
    · simp only [Bool.and_eq_true, beq_iff_eq] at h
      obtain ⟨⟨⟨⟨⟨h1, h2⟩, h3⟩, h4⟩, h5⟩, h6⟩ := h
      subst h1; subst h3
      obtain ⟨g1, g2⟩ := g.gl h2
      obtain ⟨g3, g4⟩ := g.gl h4
      refine Fine.plain (PEimp (pe_callB (cb_isi t) g1 (g.facts.blt _ (by decide +kernel)) (by decide +kernel) (pa_cons (sE a g h6).1 (pa_cons (pe_bltn g3 (g.facts.blt _ (by cases t <;> decide +kernel)) (u := .type (tyName t)) (v := .ty (tyName t)) (by cases t <;> decide +kernel) rfl (by cases t <;> decide +kernel) g4) pa_nil) (star_one h5 _ _)) (by decide +kernel) g2 (star_one h5 _ _) rfl) fun _ _ _ => isi_run) (fun _ => rfl) (fun _ _ _ => by intro z; cases z)
    · cases h
  | .lc e t it ifs own, X, sc, ow, ex, g, h => by
    unfold okE at h
    split at h
    · rename_i elt tg iter ifs' scope pos
      simp only [Bool.and_eq_true, List.all_eq_true] at h
      obtain ⟨⟨⟨⟨⟨h1, h2⟩, h3⟩, h4⟩, h5⟩, h6⟩ := h
      obtain ⟨b1, b2⟩ := blk_ok (X := X) g.names.symm h1
      have gb := g.blk h1
      have key := pe_lc (X := X) (te := tE X.K Γ G e) (g := tG X.K Γ G t) (tt := tF X.K Γ G ifs) (own := own.map fun i => (N[i]?.getD "", i)) (pos := pos) g.calm (by rw [g.hN]; exact g.nd) (sI it tg g h2) (by rw [g.hN]; exact b1) (fun s H C cl fp => sG t (gb s H C cl fp) h3) (fun s H C cl fp => sF ifs (gb s H C cl fp) h5) (fun s H C cl fp => (sE e (gb s H C cl fp) h6).1) ?_
      · refine Fine.no (PEimp key fun σ H Q q => ?_) rfl
        rw [b2]
        exact lc_run (fun i hi => by simpa using h4 i hi) q
      · intro x
        have : noSet iter = true := okI_noset h2
        cases iter <;> first | rfl | cases this
    · cases h
  | .lc2 e t it ifs t1 it1 ifs1 own, X, sc, ow, ex, g, h => by
    unfold okE at h
    split at h
    · rename_i elt tg iter ifs' tg1 iter1 ifs1' scope pos
      simp only [Bool.and_eq_true, List.all_eq_true] at h
      obtain ⟨⟨⟨⟨⟨⟨⟨⟨⟨h1, h2⟩, h3⟩, h4⟩, h5⟩, h6⟩, h7⟩, h8⟩, h9⟩, h10⟩ := h
      obtain ⟨b1, b2⟩ := blk_ok (X := X) g.names.symm h1
      have gb := g.blk h1
      have key := pe_lc2 (X := X) (te := tE X.K Γ G e) (g := tG X.K Γ G t) (tt := tF X.K Γ G ifs) (wi1 := tI X.K Γ G it1) (g1 := tG X.K Γ G t1) (tt1 := tF X.K Γ G ifs1) (own := own.map fun i => (N[i]?.getD "", i)) (vs1 := t1.slots) (pos := pos) g.calm (by rw [g.hN]; exact g.nd) (sI it tg g h2) (by rw [g.hN]; exact b1) (fun i hi => by rw [b2]; simpa using h8 i hi) (fun s H C cl fp => sG t (gb s H C cl fp) h3) (fun s H C cl fp => sF ifs (gb s H C cl fp) h5)
        (fun s H C cl fp => sI it1 tg1 (gb s H C cl fp) h6) (fun s H C cl fp => sG t1 (gb s H C cl fp) h7) (fun s H C cl fp => sF ifs1 (gb s H C cl fp) h9) (fun s H C cl fp => (sE e (gb s H C cl fp) h10).1) ?_ ?_
      · refine Fine.no (PEimp key fun σ H Q q => ?_) rfl
        rw [b2]
        exact lc2_run (fun i hi => by simpa using h4 i hi) q
      · intro x
        have : noSet iter = true := okI_noset h2
        cases iter <;> first | rfl | cases this
      · intro env x
        have : noSet iter1 = true := okI_noset h6
        cases iter1 <;> first | rfl | cases this
    · cases h
  | .gc e, X, sc, ow, ex, g, h => by
    unfold okE at h
    have q := sE e g h
    refine ⟨PEimp q.1 fun _ _ _ => gc_run, fun t => ?_⟩
    have q2 := q.2 (by simpa [CE.tst] using t)
    have down : ∀ σ H Q, tT X.K Γ G (.gc e) σ H Q → tT X.K Γ G e σ H Q := fun σ H Q q => gc_runT q
    exact ⟨PTimp q2.1 down, fun op es pos z => ⟨fun wh pins s σ H Q I r => (q2.2 op es pos z).run wh pins s σ H Q I (down _ _ _ r)⟩⟩
theorem sA : ∀ (as : CA) {X : Cx} {sc : Nms} {ow : Str → Bool} {es : List Expr}, Good Ω Γ G lim k N sc ow X → okA Ω lim N as sc es = true → PA X es (tA X.K Γ G as)
  | .nil, X, sc, ow, es, g, h => by
    simp only [okA, List.isEmpty_iff] at h
    subst h
    refine PAimp pa_nil fun σ H Q ⟨b, φ, s, st, r, st', a, e, k⟩ => ?_
    simp only [denA] at e; cases e
    exact k φ _ H (After.refl a.hr) .nil
  | .cons e r, X, sc, ow, es, g, h => by
    cases es with
    | nil => simp [okA] at h
    | cons x xs =>
      simp only [okA, Bool.and_eq_true] at h
      refine PAimp (pa_cons (sE e g h.1.2).1 (sA r g h.2) (star_one h.1.1 _ _)) fun σ H Q ⟨b, φ, s, st, r, st', a, e, k⟩ => ?_
      simp only [denA, Option.bind_eq_some_iff] at e
      obtain ⟨⟨p, st1⟩, e1, ⟨q, st2⟩, e2, e3⟩ := e
      cases e3
      exact ⟨b, φ, s, st, p, st1, a, e1, fun φ1 v H1 f1 r1 => ⟨b, φ1, s, st1, q, _, f1.at_ a, e2, fun φ2 vs H2 f2 r2 => k _ _ _ (f1.trans f2) (.cons (f2.rv r1) r2)⟩⟩
theorem sK : ∀ (as : CA) {X : Cx} {sc : Nms} {ow : Str → Bool} {kws : List Keyword}, Good Ω Γ G lim k N sc ow X → okA Ω lim N as sc (kws.map (·.value)) = true → PK X kws (tA X.K Γ G as)
  | .nil, X, sc, ow, kws, g, h => by
    simp only [okA, List.isEmpty_iff, List.map_eq_nil_iff] at h
    subst h
    refine PKimp pk_nil fun σ H Q ⟨b, φ, s, st, r, st', a, e, k⟩ => ?_
    simp only [denA] at e; cases e
    exact k φ _ H (After.refl a.hr) .nil
  | .cons e r, X, sc, ow, kws, g, h => by
    cases kws with
    | nil => simp [okA] at h
    | cons x xs =>
      obtain ⟨nm, v, p⟩ := x
      rw [List.map_cons] at h
      simp only [okA, Bool.and_eq_true] at h
      refine PKimp (pk_cons (sE e g h.1.2).1 (sK r g h.2)) fun σ H Q ⟨b, φ, s, st, r, st', a, e, k⟩ => ?_
      simp only [denA, Option.bind_eq_some_iff] at e
      obtain ⟨⟨p, st1⟩, e1, ⟨q, st2⟩, e2, e3⟩ := e
      cases e3
      exact ⟨b, φ, s, st, p, st1, a, e1, fun φ1 v H1 f1 r1 => ⟨b, φ1, s, st1, q, _, f1.at_ a, e2, fun φ2 vs H2 f2 r2 => k _ _ _ (f1.trans f2) (.cons (f2.rv r1) r2)⟩⟩
theorem sF : ∀ (as : CA) {X : Cx} {sc : Nms} {ow : Str → Bool} {es : List Expr}, Good Ω Γ G lim k N sc ow X → okF Ω lim N as sc es = true → PTs X es (tF X.K Γ G as)
  | .nil, X, sc, ow, es, g, h => by
    simp only [okF, List.isEmpty_iff] at h
    subst h
    refine PTsimp pts_nil fun σ H Q ⟨b, φ, s, st, r, st', a, e, k⟩ => ?_
    simp only [denF] at e; cases e
    exact k φ H (After.refl a.hr)
  | .cons e r, X, sc, ow, es, g, h => by
    unfold okF at h
    split at h
    · simp only [Bool.and_eq_true] at h
      obtain ⟨⟨h1, h2⟩, h3⟩ := h
      have hr : r = .nil := by
        cases r with
        | nil => rfl
        | cons _ _ => cases h3
      subst hr
      refine PTsimp (pts_one ((sE e g h2).2 h1).1) fun σ H Q ⟨b, φ, s, st, r, st', a, e, k⟩ => ?_
      simp only [denF, Option.bind_eq_some_iff] at e
      obtain ⟨⟨p, st1⟩, e1, t, e2, e3⟩ := e
      have := boolOf_eq e2
      simp only at this e3; subst this
      refine ⟨b, φ, s, st, t, st1, a, e1, fun φ1 H1 f1 => ?_⟩
      cases t <;> simp at e3 <;> obtain ⟨rfl, rfl⟩ := e3 <;> exact k _ _ f1
    · cases h
theorem sO : ∀ (o : CO) {X : Cx} {sc : Nms} {ow : Str → Bool} {e : Option Expr}, Good Ω Γ G lim k N sc ow X → okO Ω lim N o sc e = true → PO X e (tO' X.K Γ G o)
  | .no, X, sc, ow, e, g, h => by
    cases e with
    | none =>
      refine POimp po_none fun σ H Q ⟨b, φ, s, st, r, st', a, e, k⟩ => ?_
      simp only [denO] at e; cases e
      exact k φ H (After.refl a.hr)
    | some x => simp [okO] at h
  | .yes c, X, sc, ow, e, g, h => by
    cases e with
    | none => simp [okO] at h
    | some x =>
      simp only [okO] at h
      refine POimp (po_some (sE c g h).1) fun σ H Q ⟨b, φ, s, st, r, st', a, e, k⟩ => ?_
      simp only [denO, Option.bind_eq_some_iff] at e
      obtain ⟨⟨p, st1⟩, e1, t, e2, e3⟩ := e
      cases e3
      have := intOf_eq e2
      simp only at this; subst this
      exact ⟨b, φ, s, st, _, st1, a, e1, fun φ1 v H1 f1 r1 => ⟨t, r1.int, k _ _ f1⟩⟩
theorem sI : ∀ (it : CI) (tg : Expr) {X : Cx} {sc : Nms} {ow : Str → Bool} {e : Expr}, Good Ω Γ G lim k N sc ow X → okI Ω lim N it sc tg e = true → PI X tg e (tI X.K Γ G it)
  | .seq a, tg, X, sc, ow, e, g, h => by
    simp only [okI, Bool.and_eq_true] at h
    exact i_seq (sE a g h.2).1
  | .rng1 a, tg, X, sc, ow, e, g, h => by
    unfold okI at h
    split at h
    · simp only [Bool.and_eq_true, beq_iff_eq] at h
      obtain ⟨⟨⟨h1, h2⟩, h3⟩, h4⟩ := h
      subst h1
      exact i_rng1 (g.gl h2).1 (g.facts.blt _ (by decide +kernel)) h3 (sE a g h4).1
    · cases h
  | .rng2 a b, tg, X, sc, ow, e, g, h => by
    unfold okI at h
    split at h
    · simp only [Bool.and_eq_true, beq_iff_eq] at h
      obtain ⟨⟨⟨⟨⟨h1, h2⟩, h3⟩, h4⟩, h5⟩, h6⟩ := h
      subst h1
      exact i_rng2 (g.gl h2).1 (g.facts.blt _ (by decide +kernel)) h3 h4 (sE a g h5).1 (sE b g h6).1
    · cases h
  | .enum a, tg, X, sc, ow, e, g, h => by
    unfold okI at h
    split at h
    · simp only [Bool.and_eq_true, beq_iff_eq] at h
      obtain ⟨⟨⟨h1, h2⟩, h3⟩, h4⟩ := h
      subst h1
      exact i_enum (g.gl h2).1 (g.facts.blt _ (by decide +kernel)) h3 (sE a g h4).1
    · cases h
  | .zip a b, tg, X, sc, ow, e, g, h => by
    unfold okI at h
    split at h
    · simp only [Bool.and_eq_true, beq_iff_eq] at h
      obtain ⟨⟨⟨⟨⟨h1, h2⟩, h3⟩, h4⟩, h5⟩, h6⟩ := h
      subst h1
      exact i_zip (g.gl h2).1 (g.facts.blt _ (by decide +kernel)) h3 h4 (sE a g h5).1 (sE b g h6).1
    · cases h
theorem sG : ∀ (t : CT) {X : Cx} {sc : Nms} {ow : Str → Bool} {e : Expr}, Good Ω Γ G lim k N sc ow X → okT Ω lim N t sc ow e = true → PG X e (tG X.K Γ G t)
  | .name i, X, sc, ow, e, g, h => by
    unfold okT at h
    split at h
    · simp only [Bool.and_eq_true, beq_iff_eq] at h
      obtain ⟨o1, o2⟩ := g.ow _ h.2
      exact g_name (by rw [g.hN]; exact g.nd) (by rw [g.hN]; exact h.1) o1 o2
    · cases h
  | .tup ts, X, sc, ow, e, g, h => by
    unfold okT at h
    split at h
    · exact g_tup g.calm (sGs ts g h) (fun b xs σ st r q => asgs_len h q) (okTs_star h)
    · cases h
  | .sub o i, X, sc, ow, e, g, h => by
    unfold okT at h
    split at h
    · simp only [Bool.and_eq_true] at h
      exact g_sub h.1.1 (sE o g h.1.2).1 (sE i g h.2).1
    · cases h
theorem sGs : ∀ (ts : CTs) {X : Cx} {sc : Nms} {ow : Str → Bool} {es : List Expr}, Good Ω Γ G lim k N sc ow X → okTs Ω lim N ts sc ow es = true → PGs X es (tGs X.K Γ G ts)
  | .nil, X, sc, ow, es, g, h => by
    simp only [okTs, List.isEmpty_iff] at h
    subst h
    exact gs_nil
  | .cons t r, X, sc, ow, es, g, h => by
    cases es with
    | nil => simp [okTs] at h
    | cons x xs =>
      simp only [okTs, Bool.and_eq_true] at h
      exact gs_cons h.1.1 (sG t g h.1.2) (sGs r g h.2)
end
end
end MP

end
section
set_option Elab.async false
set_option linter.all false
set_option maxRecDepth 100000
set_option maxHeartbeats 4000000
/-! MP: statements: the check, and that it is sound. -/
namespace MP
open PySem PySem.Spec PyProof.Rows L2
def notStarred : Expr → Bool
  | .Starred .. => true
  | _ => false
def nmAt (sc : Nms) (line : Nat) : Expr → Option Str
  | .Name id pos => if sc.lookup id == some .local && pos.line == line then some id else none
  | _ => none
/-- how a, b = x, y is stored: none: not served; some none: by a tuple; some names: swapped -/
def swN (sc : Nms) (tg e : Expr) : Option (Option (List Str)) :=
  match tg, e with
  | .List .., _ => none
  | .Tuple ts _ _, .Tuple vs _ _ =>
    if !(ts.length == 2 || ts.length == 3) || vs.length != ts.length then some none
    else if vs.any notStarred then some none
    else
      let names := ts.filterMap (nmAt sc ((ts.head?.map (·.pos.line)).getD 0))
      if names.length != ts.length || names.eraseDups.length != names.length then some none
      else if vs.all (foldedForSure 8) then some none
      else if vs.all (constantsAlone 8) then none
      else some (some names)
  | _, _ => some none
theorem swN_ok {sc : Nms} {env : Env} (hn : env.scope.names = sc) (hk : env.scope.kind = .function) {tg e : Expr} {r : Option (List Str)} (h : swN sc tg e = some r) : swappedStores [tg] e env = pure r := by
  have bk : env.blockKind = .function := by unfold Env.blockKind; rw [hk]; rfl
  unfold swN at h
  split at h
  · cases h
  · rename_i ts k p vs k2 p2
    have key : ∀ (f : Expr → Option Str) (g : Expr → Bool), f = nmAt sc ((ts.head?.map (·.pos.line)).getD 0) → g = notStarred →
        (if (!(ts.length == 2 || ts.length == 3) || vs.length != ts.length) = true then (pure none : Sem (Option (List Str)))
        else if (vs.any g) = true then pure none
        else if ((ts.filterMap f).length != ts.length || (ts.filterMap f).eraseDups.length != (ts.filterMap f).length) = true then pure none
        else if vs.all (foldedForSure 8) = true then pure none
        else if vs.all (constantsAlone 8) = true then (do unsupported "assign.tuple-of-constant-expressions:order-of-the-stores"; pure (some (ts.filterMap f)))
        else pure (some (ts.filterMap f))) = pure r := by
      intro f g hf hg
      subst hf; subst hg
      split at h
      · rename_i c
        cases h
        rw [if_pos c]
      · rename_i c
        rw [if_neg c]
        split at h
        · rename_i c2
          cases h
          rw [if_pos c2]
        · rename_i c2
          rw [if_neg c2]
          simp only at h
          split at h
          · rename_i c3
            cases h
            rw [if_pos c3]
          · rename_i c3
            rw [if_neg c3]
            split at h
            · rename_i c4
              cases h
              rw [if_pos c4]
            · rename_i c4
              rw [if_neg c4]
              split at h
              · cases h
              · rename_i c5
                cases h
                rw [if_neg c5]
    unfold swappedStores
    simp only [pure_bind, bk, bne_self_eq_false, Bool.or_false]
    refine key _ _ ?_ ?_
    · funext x
      cases x <;> first | rfl | (unfold nmAt Env.kindOf; rw [hn])
    · funext x
      cases x <;> rfl
  · rename_i h1 h2
    cases h
    cases tg with
    | List ts p => exact absurd rfl (h1 ts p)
    | Tuple ts k p =>
      cases e with
      | Tuple vs k2 p2 => exact absurd rfl (h2 ts k p vs k2 p2 rfl)
      | _ => rfl
    | _ => rfl

/-! ### the check of statements -/
/-- does name = value swap a comprehension's frame? -/
def swL (sc : Nms) (tg e : Expr) : Bool :=
  match e with
  | .ListComp _ _ s p => match tg with
    | .Name t pos => sc.lookup t == some .local && pos.line == p.line && !(s.names.any fun x => x.1 == t && (x.2 == .local || x.2 == .cell))
    | _ => false
  | .SetComp .. => true
  | .DictComp .. => true
  | _ => false
theorem swL_ok {sc : Nms} {env : Env} (hn : env.scope.names = sc) (hk : env.scope.kind = .function) {tg e : Expr} {l : Nat} (h : swL sc tg e = false) : swapsWithSole [tg] e l env = pure false := by
  show swapsWith e (some tg) l env = pure false
  have bk : env.blockKind = .function := by unfold Env.blockKind; rw [hk]; rfl
  cases e with
  | ListComp elt gens s p =>
    cases tg with
    | Name t pos =>
      unfold swL at h
      simp only at h
      unfold swapsWith
      simp only [pure_bind, bk]
      refine congrArg pure ?_
      have e1 : env.kindOf t = sc.lookup t := by unfold Env.kindOf; rw [hn]
      have ep : (Expr.ListComp elt gens s p).pos = p := rfl
      rw [e1, ep]
      simpa using h
    | _ => rfl
  | SetComp _ _ _ _ => cases h
  | DictComp _ _ _ _ _ => cases h
  | _ => rfl
theorem swL_yes {sc : Nms} {env : Env} (hn : env.scope.names = sc) (hk : env.scope.kind = .function) {t : Str} {pos : Pos} {elt : Expr} {gens : List Comprehension} {s : Scope} {p : Pos} {l : Nat} (h : swL sc (.Name t pos) (.ListComp elt gens s p) = true) :
    swapsWith (.ListComp elt gens s p) (some (.Name t pos)) l env = pure true ∧ sc.lookup t = some .local := by
  have bk : env.blockKind = .function := by unfold Env.blockKind; rw [hk]; rfl
  unfold swL at h
  simp only at h
  refine ⟨?_, ?_⟩
  · unfold swapsWith
    simp only [pure_bind, bk]
    refine congrArg pure ?_
    have e1 : env.kindOf t = sc.lookup t := by unfold Env.kindOf; rw [hn]
    have ep : (Expr.ListComp elt gens s p).pos = p := rfl
    rw [e1, ep]
    simpa using h
  · simp only [Bool.and_eq_true, beq_iff_eq] at h
    exact h.1.1
def baseB : Expr → Bool
  | .Name .. => true
  | .Subscript .. => true
  | _ => false
section
variable (Ω : Om) (lim : Nat) (N : List Str) (sc : Nms)
mutual
def okS : CS → Stmt → Bool
  | .asg t e, s => match s with
    | .Assign [tg] ex _ => notStar tg && okT Ω lim N t sc (ownB sc) tg && okE Ω lim N e sc ex && swN sc tg ex == some none &&
        (if swL sc tg ex then (match t, e, ex with | .name _, .lc .., .ListComp .. => true | _, _, _ => false) else true)
    | _ => false
  | .par is as, s => match s with
    | .Assign [.Tuple ts k p] (.Tuple vs k2 p2) _ => okA Ω lim N as sc vs && (match is, ts, vs with
      | [i, j], [.Name x _, .Name y _], [_, _] => swN sc (.Tuple ts k p) (.Tuple vs k2 p2) == some (some [x, y]) && N[i]? == some x && N[j]? == some y && decide (i ≠ j) && sc.lookup x == some .local && sc.lookup y == some .local
      | [i, j, l], [.Name x _, .Name y _, .Name z _], [_, _, _] => swN sc (.Tuple ts k p) (.Tuple vs k2 p2) == some (some [x, y, z]) && N[i]? == some x && N[j]? == some y && N[l]? == some z && decide (i ≠ j) && decide (i ≠ l) && decide (j ≠ l) &&
          sc.lookup x == some .local && sc.lookup y == some .local && sc.lookup z == some .local
      | _, _, _ => false)
    | _ => false
  | .ret e, s => match s with
    | .Return (some ex) _ => okE Ω lim N e sc ex
    | _ => false
  | .retN, s => match s with
    | .Return none _ => true
    | _ => false
  | .expr e, s => match s with
    | .Expr ex _ => !(match ex with | .ListComp .. => true | .SetComp .. => true | .DictComp .. => true | _ => false) && okE Ω lim N e sc ex
    | _ => false
  | .app o e, s => match s with
    | .Expr (.Call (.Attribute ox nm ap) [ex] [] cp) _ => nm == ("append" : Str) && baseB ox && notStar ex && ap.endLine == cp.line && okE Ω lim N o sc ox && okE Ω lim N e sc ex
    | _ => false
  | .ext o e, s => match s with
    | .Expr (.Call (.Attribute ox nm ap) [ex] [] cp) _ => nm == ("extend" : Str) && baseB ox && notStar ex && ap.endLine == cp.line && okE Ω lim N o sc ox && okE Ω lim N e sc ex
    | _ => false
  | .ite c a b, s => match s with
    | .If t x y _ => c.tst && okE Ω lim N c sc t && okB a x && okB b y
    | _ => false
  | .loop t it body, s => match s with
    | .For tg iter bs [] _ => okI Ω lim N it sc tg iter && okT Ω lim N t sc (ownB sc) tg && okB body bs
    | _ => false
  | .whl c body, s => match s with
    | .While t bs [] _ => c.tst && okE Ω lim N c sc t && okB body bs
    | _ => false
  | .pass, s => match s with
    | .Pass _ => true
    | _ => false
  | .brk, s => match s with
    | .Break _ => true
    | _ => false
  | .cnt, s => match s with
    | .Continue _ => true
    | _ => false
  | .nev, _ => true
def okB : CB → List Stmt → Bool
  | .nil, ss => ss.isEmpty
  | .cons s r, ss => match ss with
    | x :: xs => okS s x && okB r xs
    | [] => false
end
end
/-! ### readings -/
/-- what is wanted at an end -/
def EndOk (K : PySem.W.Frag) (φ : List Addr) (H : Hp) (st : Sto) (b : Nat) (D : Ends) : Fl → Prop
  | .nx σ' st' => ∀ φ' σv' H', After K φ φ' H H' st st' b → ES K φ' H' σ' σv' → D.nx σv' H'
  | .bk σ' st' => ∀ φ' σv' H', After K φ φ' H H' st st' b → ES K φ' H' σ' σv' → D.bk σv' H'
  | .ct σ' st' => ∀ φ' σv' H', After K φ φ' H H' st st' b → ES K φ' H' σ' σv' → D.ct σv' H'
  | .rt v st' => ∀ φ' v' H', After K φ φ' H H' st st' b → RV K φ' H' v v' → D.rt v' H'
def tS (K : PySem.W.Frag) (f : Nat → Sl → Sto → Option Fl) : TS := fun D σv H => ∃ b φ σ st fl, At K b φ σ st H σv ∧ f b σ st = some fl ∧ EndOk K φ H st b D fl
theorem EndOk.back {K : PySem.W.Frag} {φ φ1 : List Addr} {H H1 : Hp} {st st1 : Sto} {b : Nat} {D : Ends} {fl : Fl} (f : After K φ φ1 H H1 st st1 b) (h : EndOk K φ H st b D fl) : EndOk K φ1 H1 st1 b D fl := by
  cases fl with
  | nx σ' st' => exact fun φ' σv' H' a e => h φ' σv' H' (f.trans a) e
  | bk σ' st' => exact fun φ' σv' H' a e => h φ' σv' H' (f.trans a) e
  | ct σ' st' => exact fun φ' σv' H' a e => h φ' σv' H' (f.trans a) e
  | rt v st' => exact fun φ' v' H' a e => h φ' v' H' (f.trans a) e
section
variable {Ω : Om} {Γ : Tab} {G : Nat → Option PV} {lim k : Nat} {N : List Str} {sc : Nms} {X : Cx}
theorem whileD_of {test : Sl → Sto → Option (Bool × Sto)} {body : Sl → Sto → Option Fl} {σ : Sl} {st : Sto} {f : Fl} (h : whileD test body σ st = some f) : ∃ n, whileN test body n σ st = some f := by
  unfold whileD at h
  split at h
  · rename_i hx
    have := hx.choose_spec.choose_spec
    cases h
    exact ⟨_, this⟩
  · cases h
theorem s_seq {K : PySem.W.Frag} {r : CB} {s : CS} {D : Ends} {σv : L2.St} {H : Hp} (h : tS K (denB Γ G (.cons s r)) D σv H) : tSeq (tS K (denS Γ G s)) (tS K (denB Γ G r)) D σv H := by
  obtain ⟨b, φ, σ, st, fl, a, e, k⟩ := h
  simp only [denB, Option.bind_eq_some_iff] at e
  obtain ⟨f1, e1, e2⟩ := e
  refine ⟨b, φ, σ, st, f1, a, e1, ?_⟩
  cases f1 with
  | nx σ' st' => exact fun φ' σv' H' f es => ⟨b, φ', σ', st', fl, ⟨f.hr, es, Nat.le_trans a.hb f.gr.len⟩, e2, k.back f⟩
  | bk σ' st' => cases e2; exact k
  | ct σ' st' => cases e2; exact k
  | rt v st' => cases e2; exact k
theorem set_len {is : List Nat} {vs : List PV} {σ σ' : Sl} (h : setAll is vs σ = some σ') : vs.length = is.length := by
  induction is generalizing vs σ' with
  | nil => cases vs with
    | nil => rfl
    | cons _ _ => simp [setAll] at h
  | cons i is ih => cases vs with
    | nil => simp [setAll] at h
    | cons v vs =>
      simp only [setAll, Option.bind_eq_some_iff] at h
      obtain ⟨s1, h1, _⟩ := h
      rw [List.length_cons, List.length_cons, ih h1]
theorem forL_nil {w : List (Nat × SO)} {f : PV → Sl → Sto → Option Fl} {σ : Sl} {st : Sto} : forL w f [] σ st = some (.nx σ st) := rfl
/-- a for's reading -/
theorem loop_run {t : CT} {it : CI} {body : CB} {D : Ends} {σv : L2.St} {H : Hp} (h : tS X.K (denS Γ G (.loop t it body)) D σv H) : tFor (tI X.K Γ G it) (tG X.K Γ G t) (tS X.K (denB Γ G body)) D σv H := by
  obtain ⟨b, φ, σ, st, fl, a, e, k⟩ := h
  simp only [denS, Option.bind_eq_some_iff] at e
  obtain ⟨⟨xs, w, st1⟩, e1, e2⟩ := e
  have hw0 := denI_watch e1
  refine ⟨b, φ, σ, st, xs, w, st1, a, e1, fun φ1 J H1 f1 wk => ?_⟩
  simp only at e2
  generalize hstep : (fun (x : PV) (σ1 : Sl) (s1 : Sto) => (asg Γ G t b x σ1 s1).bind fun q => denB Γ G body b q.1 q.2) = step at e2
  let W : Nat → Nat → L2.St → Hp → Prop := fun i m σc Hc => m = xs.length - i ∧ i ≤ xs.length ∧ ∃ φc sl stc, After X.K φ1 φc H1 Hc st1 stc b ∧ ES X.K φc Hc sl σc ∧ Watch w stc ∧ forL w step (xs.drop i) sl stc = some fl
  refine ⟨W, ⟨_, rfl, Nat.zero_le _, φ1, σ, st1, After.refl f1.hr, a.es.mono f1.pre f1.tp, hw0, e2⟩, ?_⟩
  rintro i m σc Hc ⟨rfl, hi, φc, sl, stc, fc, es, hw, el⟩
  by_cases hlt : i < xs.length
  · refine .inr ⟨wk.go φc stc Hc i fc.pre fc.tp fc.hr hw hlt, W (i + 1) (xs.length - (i + 1)), fun σ' H' p => ⟨xs.length - (i + 1), by omega, p⟩, fun x H' hy => ?_⟩
    obtain ⟨ty, hry, ry⟩ := wk.yld φc stc Hc i x H' fc.pre fc.tp fc.hr hw hlt hy
    have fy : After X.K φ1 φc H1 H' st1 stc b := ⟨fc.pre, fc.tp.trans ty, hry, fc.gr⟩
    rw [drop_at hlt] at el
    simp only [forL, Option.bind_eq_some_iff] at el
    obtain ⟨f2, e3, e4⟩ := el
    rw [← hstep, Option.bind_eq_some_iff] at e3
    obtain ⟨⟨s2, st2⟩, e5, e6⟩ := e3
    have bnd : b ≤ List.length stc := Nat.le_trans (Nat.le_trans a.hb f1.gr.len) fc.gr.len
    refine ⟨b, φc, sl, stc, xs[i], s2, st2, ⟨hry, es.mono (List.prefix_refl _) ty, bnd⟩, ry _ (List.getElem?_eq_getElem hlt), e5, fun φ2 σ2 H2 fa es2 _ => ?_⟩
    refine ⟨b, φ2, s2, st2, f2, ⟨fa.hr, es2, Nat.le_trans bnd fa.gr.len⟩, e6, ?_⟩
    cases f2 with
    | nx s3 st3 =>
      simp only at e4
      split at e4
      · rename_i hw'
        exact fun φ3 σ3 H3 fb es3 => ⟨rfl, hlt, φ3, s3, st3, (fy.trans fa).trans fb, es3, hw', e4⟩
      · cases e4
    | ct s3 st3 =>
      simp only at e4
      split at e4
      · rename_i hw'
        exact fun φ3 σ3 H3 fb es3 => ⟨rfl, hlt, φ3, s3, st3, (fy.trans fa).trans fb, es3, hw', e4⟩
      · cases e4
    | bk s3 st3 =>
      cases e4
      exact fun φ3 σ3 H3 fb es3 => k φ3 σ3 H3 (((f1.trans fy).trans fa).trans fb) es3
    | rt v st3 =>
      cases e4
      exact fun φ3 v3 H3 fb r3 => k φ3 v3 H3 (((f1.trans fy).trans fa).trans fb) r3
  · have ei : i = xs.length := by omega
    subst ei
    rw [List.drop_length] at el
    have el' : Fl.nx sl stc = fl := Option.some.inj el
    subst el'
    exact .inl ⟨wk.stop φc stc Hc fc.pre fc.tp fc.hr hw, k φc σc Hc (f1.trans fc) es⟩
/-- a while's reading -/
theorem whl_run {c : CE} {body : CB} {D : Ends} {σv : L2.St} {H : Hp} (h : tS X.K (denS Γ G (.whl c body)) D σv H) : tWhile (tT X.K Γ G c) (tS X.K (denB Γ G body)) D σv H := by
  obtain ⟨b, φ, σ, st, fl, a, e, k⟩ := h
  simp only [denS] at e
  obtain ⟨n, e⟩ := whileD_of e
  generalize htest : (fun (σ1 : Sl) (s1 : Sto) => (den Γ G c b σ1 s1).bind fun p => (boolOf p.1).bind fun t => some (t, p.2)) = test at e
  generalize hbody : (fun (σ1 : Sl) (s1 : Sto) => denB Γ G body b σ1 s1) = bd at e
  let W : Nat → L2.St → Hp → Prop := fun m σc Hc => ∃ φc sl stc, After X.K φ φc H Hc st stc b ∧ ES X.K φc Hc sl σc ∧ whileN test bd m sl stc = some fl
  refine ⟨W, ⟨n, φ, σ, st, After.refl a.hr, a.es, e⟩, ?_⟩
  rintro m σc Hc ⟨φc, sl, stc, fc, es, el⟩
  cases m with
  | zero => cases el
  | succ m =>
    simp only [whileN, Option.bind_eq_some_iff] at el
    obtain ⟨⟨t, st1⟩, e1, e2⟩ := el
    rw [← htest, Option.bind_eq_some_iff] at e1
    obtain ⟨⟨p, st1'⟩, e3, e4⟩ := e1
    rw [Option.bind_eq_some_iff] at e4
    obtain ⟨t', e5, e6⟩ := e4
    cases e6
    have := boolOf_eq e5
    simp only at this; subst this
    have bnd : b ≤ List.length stc := Nat.le_trans a.hb fc.gr.len
    refine ⟨b, φc, sl, stc, t, st1', ⟨fc.hr, es, bnd⟩, e3, fun φ1 H1 f1 => ?_⟩
    cases t with
    | false =>
      simp at e2
      subst e2
      exact k φ1 σc H1 (fc.trans f1) (es.mono f1.pre f1.tp)
    | true =>
      simp only [if_true, Option.bind_eq_some_iff] at e2
      obtain ⟨f2, e7, e8⟩ := e2
      rw [if_pos rfl]
      refine ⟨W m, fun σ' H' p => ⟨m, Nat.lt_succ_self m, p⟩, b, φ1, sl, st1', f2, ⟨f1.hr, es.mono f1.pre f1.tp, Nat.le_trans bnd f1.gr.len⟩, by rw [← hbody] at e7; exact e7, ?_⟩
      cases f2 with
      | nx s3 st3 => exact fun φ3 σ3 H3 fb es3 => ⟨φ3, s3, st3, (fc.trans f1).trans fb, es3, e8⟩
      | ct s3 st3 => exact fun φ3 σ3 H3 fb es3 => ⟨φ3, s3, st3, (fc.trans f1).trans fb, es3, e8⟩
      | bk s3 st3 => cases e8; exact fun φ3 σ3 H3 fb es3 => k φ3 σ3 H3 ((fc.trans f1).trans fb) es3
      | rt v st3 => cases e8; exact fun φ3 v3 H3 fb r3 => k φ3 v3 H3 ((fc.trans f1).trans fb) r3
end

section
variable {Ω : Om} {Γ : Tab} {G : Nat → Option PV} {lim k : Nat} {N : List Str}
theorem asg_run {X : Cx} {t : CT} {e : CE} {D : Ends} {σv : L2.St} {H : Hp} (h : tS X.K (denS Γ G (.asg t e)) D σv H) : tAsg (tE X.K Γ G e) (tG X.K Γ G t) D σv H := by
  obtain ⟨b, φ, σ, st, fl, a, e, k⟩ := h
  simp only [denS, Option.bind_eq_some_iff] at e
  obtain ⟨⟨v, st1⟩, e1, ⟨s2, st2⟩, e2, e3⟩ := e
  cases e3
  exact ⟨b, φ, σ, st, v, st1, a, e1, fun φ1 u H1 f1 r1 => ⟨b, φ1, σ, st1, v, s2, st2, f1.at_ a, r1, e2, fun φ2 σ2 H2 f2 es _ => k _ _ _ (f1.trans f2) es⟩⟩
theorem rvs2 {K : PySem.W.Frag} {φ : List Addr} {H : Hp} {ps : List PV} {vs : List V} (r : RVs K φ H ps vs) (h : ps.length = 2) : ∃ v w, vs = [v, w] := by
  have := r.length
  rw [h] at this
  match vs, this with
  | [v, w], _ => exact ⟨v, w, rfl⟩
theorem rvs3 {K : PySem.W.Frag} {φ : List Addr} {H : Hp} {ps : List PV} {vs : List V} (r : RVs K φ H ps vs) (h : ps.length = 3) : ∃ u v w, vs = [u, v, w] := by
  have := r.length
  rw [h] at this
  match vs, this with
  | [u, v, w], _ => exact ⟨u, v, w, rfl⟩
theorem set_es {K : PySem.W.Frag} {φ : List Addr} {H : Hp} : ∀ {is : List Nat} {ps : List PV} {vs : List V} {σ σ' : Sl} {σv : L2.St}, ES K φ H σ σv → RVs K φ H ps vs → setAll is ps σ = some σ' → ES K φ H σ' ((is.zip vs).foldr (fun p s => s.set p.1 (some p.2)) σv)
  | [], ps, vs, σ, σ', σv, es, r, h => by
    cases ps with
    | nil => simp only [setAll] at h; cases h; exact es
    | cons _ _ => simp [setAll] at h
  | i :: is, ps, vs, σ, σ', σv, es, r, h => by
    cases ps with
    | nil => simp [setAll] at h
    | cons p ps =>
      simp only [setAll, Option.bind_eq_some_iff] at h
      obtain ⟨s1, h1, h2⟩ := h
      obtain ⟨v, ws, rfl, rx, rr⟩ := r.cons_inv
      split at h2
      · cases h2
        rw [List.zip_cons_cons, List.foldr_cons]
        exact (set_es es rr h1).set rx
      · cases h2
theorem app_run {X : Cx} {o e : CE} {D : Ends} {σv : L2.St} {H : Hp} (h : tS X.K (denS Γ G (.app o e)) D σv H) : tDrop (tBM X.K "list" rAppend (tE X.K Γ G o) (tCons (tE X.K Γ G e) tNil)) D σv H := by
  obtain ⟨b, φ, σ, st, fl, a, e, q⟩ := h
  simp only [denS, Option.bind_eq_some_iff] at e
  obtain ⟨⟨p, st1⟩, e1, zs, e0, ⟨v, st2⟩, e2, e3⟩ := e
  obtain ⟨n, rfl⟩ : ∃ n, p = .ref n := by
    cases p <;> simp [lstOf] at e0
    exact ⟨_, rfl⟩
  simp only at e3
  split at e3
  · rename_i mp
    rw [Option.bind_eq_some_iff] at e3
    obtain ⟨st3, e4, e5⟩ := e3
    cases e5
    refine ⟨b, φ, σ, st, _, st1, a, e1, fun φ1 u H1 f1 r1 => ?_⟩
    unfold push at e4
    split at e4
    · rename_i xs en
      split at e4
      · rename_i hl
        cases e4
        obtain ⟨ad, ws, rfl, ql, _⟩ := f1.hr.lstOf e0 r1
        obtain ⟨ad', ea, e9⟩ := r1.ref
        cases e9
        refine ⟨.inl ⟨rfl, ws, ql⟩, b, φ1, σ, st1, v, st2, f1.at_ a, e2, fun φ2 u2 H2 f2 r2 => ?_⟩
        obtain ⟨vs, eh, rr⟩ := f2.hr.ok n ad _ (pre_get f2.pre ea) en
        refine ⟨ad, vs, u2, rfl, rfl, eh, by rw [rr.length]; exact most_lt hl, ?_⟩
        unfold mayPut at mp
        rw [Bool.or_eq_true, decide_eq_true_eq] at mp
        have f3 := After.put (b := b) f2.hr (pre_get f2.pre ea) en eh (rr.append (.cons r2 .nil)) (mp.imp id fun l m hm => PV.ltA_append hm (by
          unfold PV.ltA
          rw [Bool.and_eq_true]
          exact ⟨PV.lt_mono (Nat.zero_le _) l, by unfold PV.ltA; rfl⟩))
        exact q _ _ _ ((f1.trans f2).trans f3) (a.es.mono ((f1.trans f2).trans f3).pre ((f1.trans f2).trans f3).tp)
      · cases e4
    · cases e4
  · cases e3
theorem lstOf_ref {p : PV} {st : Sto} {xs : List PV} (h : lstOf p st = some xs) : ∃ n, p = .ref n ∧ st[n]? = some (.lst xs) := by
  unfold lstOf at h
  split at h
  · rename_i n
    split at h
    · rename_i e; cases h; exact ⟨n, rfl, e⟩
    · cases h
  · cases h
theorem ext_run {X : Cx} {o e : CE} {D : Ends} {σv : L2.St} {H : Hp} (h : tS X.K (denS Γ G (.ext o e)) D σv H) : tDrop (tBM X.K "list" rExtend (tE X.K Γ G o) (tCons (tE X.K Γ G e) tNil)) D σv H := by
  obtain ⟨b, φ, σ, st, fl, a, e, q⟩ := h
  simp only [denS, Option.bind_eq_some_iff] at e
  obtain ⟨⟨p, st1⟩, e1, zs, e0, ⟨v, st2⟩, e2, ys, e6, e3⟩ := e
  obtain ⟨n, rfl, _⟩ := lstOf_ref e0
  simp only at e3
  split at e3
  · rename_i xs en
    split at e3
    · rename_i mp
      cases e3
      simp only [Bool.and_eq_true, Bool.or_eq_true, decide_eq_true_eq] at mp
      refine ⟨b, φ, σ, st, _, st1, a, e1, fun φ1 u H1 f1 r1 => ?_⟩
      obtain ⟨ad, ws, rfl, ql, _⟩ := f1.hr.lstOf e0 r1
      obtain ⟨ad', ea, e9⟩ := r1.ref
      cases e9
      refine ⟨.inl ⟨rfl, ws, ql⟩, b, φ1, σ, st1, v, st2, f1.at_ a, e2, fun φ2 u2 H2 f2 r2 => ?_⟩
      obtain ⟨vs, eh, rr⟩ := f2.hr.ok n ad _ (pre_get f2.pre ea) en
      obtain ⟨m, rfl, em⟩ := lstOf_ref e6
      obtain ⟨a2, us, rfl, _, eh2, rr2⟩ := f2.hr.lst em r2
      refine ⟨ad, a2, vs, us, rfl, rfl, eh, eh2, by rw [rr.length, rr2.length]; exact most_le mp.2, ?_⟩
      have f3 := After.put (b := b) f2.hr (pre_get f2.pre ea) en eh (rr.append rr2) (mp.1.imp id fun l m hm => PV.ltA_append hm (PV.ltA_mono (Nat.zero_le _) l))
      exact q _ _ _ ((f1.trans f2).trans f3) (a.es.mono ((f1.trans f2).trans f3).pre ((f1.trans f2).trans f3).tp)
    · cases e3
  · cases e3
mutual
theorem sS : ∀ (cs : CS) {X : Cx} {sc : Nms} {s : Stmt}, Good Ω Γ G lim k N sc (ownB sc) X → (∀ x, X.fn x = true) → okS Ω lim N sc cs s = true → PS X s (tS X.K (denS Γ G cs))
  | .asg t e, X, sc, s, g, hfn, h => by
    unfold okS at h
    split at h
    · rename_i tg ex pos
      simp only [Bool.and_eq_true, beq_iff_eq] at h
      obtain ⟨⟨⟨⟨h1, h2⟩, h3⟩, h4⟩, h5⟩ := h
      cases hsw : swL sc tg ex with
      | false =>
        exact PSimp (ps_asg (sE e g h3).1 (sG t g h2) (swL_ok g.names g.kind hsw) (swN_ok g.names g.kind h4) (by cases tg <;> first | rfl | cases h1)) fun _ _ _ => asg_run
      | true =>
        rw [if_pos hsw] at h5
        split at h5
        · rename_i i c ct cit cifs own elt gens scope p
          unfold okT at h2
          split at h2
          · rename_i y py
            simp only [Bool.and_eq_true, beq_iff_eq] at h2
            obtain ⟨w1, w2⟩ := swL_yes (l := pos.line) g.names g.kind hsw
            unfold okE at h3
            split at h3
            · rename_i elt' tg' iter ifs' scope' pos' heq
              cases heq
              simp only [Bool.and_eq_true, List.all_eq_true] at h3
              obtain ⟨⟨⟨⟨⟨q1, q2⟩, q3⟩, q4⟩, q5⟩, q6⟩ := h3
              obtain ⟨b1, b2⟩ := blk_ok (X := X) g.names.symm q1
              have gb := g.blk q1
              have key := ps_setLc (X := X) (te := tE X.K Γ G c) (g := tG X.K Γ G ct) (tt := tF X.K Γ G cifs) (own := own.map fun i => (N[i]?.getD "", i)) (spos := pos) g.calm (by rw [g.hN]; exact g.nd) (by rw [g.hN]; exact h2.1) (by rw [g.names]; exact w2) w1 (sI cit _ g q2) (by rw [g.hN]; exact b1)
                (fun s H C cl fp => sG ct (gb s H C cl fp) q3) (fun s H C cl fp => sF cifs (gb s H C cl fp) q5) (fun s H C cl fp => (sE c (gb s H C cl fp) q6).1) (by
                  intro x
                  have : noSet iter = true := okI_noset q2
                  cases iter <;> first | rfl | cases this)
              refine PSimp key fun D σv H q => ?_
              have q' := asg_run q
              rw [b2]
              obtain ⟨b, φ, σ, st, r, st', a, e, kk⟩ := q'
              refine lc_run (fun i hi => by simpa using q4 i hi) ⟨b, φ, σ, st, r, st', a, e, fun φ' v H' f r' => ?_⟩
              obtain ⟨b2, φ2, σ2, st2, x2, σ3, st3, a2, r2, e2, k2⟩ := kk φ' v H' f r'
              simp only [asg] at e2
              split at e2
              · cases e2
                refine k2 φ2 _ H' (After.refl a2.hr) (a2.es.set r2) ⟨by rw [List.length_set], fun j hj => ?_⟩
                rw [List.getElem?_set_ne (by simpa [CT.slots] using fun e => hj (by rw [e]; simp [CT.slots]))]
              · cases e2
            · cases h3
          · cases h2
        · cases h5
    · cases h
  | .par is as, X, sc, s, g, hfn, h => by
    unfold okS at h
    split at h
    · rename_i ts kk p vs k2 p2 pos
      rw [Bool.and_eq_true] at h
      obtain ⟨h1, h2⟩ := h
      split at h2
      · rename_i i j x px y py e1 e2
        simp only [Bool.and_eq_true, beq_iff_eq, decide_eq_true_eq] at h2
        obtain ⟨⟨⟨⟨⟨w1, w2⟩, w3⟩, w4⟩, w5⟩, w6⟩ := h2
        refine PSimp (ps_par g.calm (by rw [g.hN]; exact g.nd) (by rw [g.hN]; exact w2) (by rw [g.hN]; exact w3) w4 (by rw [g.names]; exact w5) (by rw [g.names]; exact w6) (sA as g h1) (swN_ok g.names g.kind w1)) fun D σv H ⟨b, φ, σ, st, fl, a, e, q⟩ => ?_
        simp only [denS, Option.bind_eq_some_iff] at e
        obtain ⟨⟨ps, st1⟩, f1, s2, f2, f3⟩ := e
        cases f3
        refine ⟨b, φ, σ, st, ps, st1, a, f1, fun φ1 vs H1 g1 r1 => ?_⟩
        obtain ⟨v, w, rfl⟩ := rvs2 r1 (set_len f2)
        refine ⟨v, w, rfl, q φ1 _ H1 g1 ?_⟩
        have := set_es (a.es.mono g1.pre g1.tp) r1 f2
        rw [List.set_comm _ _ w4]
        exact this
      · rename_i i j l x px y py z pz e1 e2 e3
        simp only [Bool.and_eq_true, beq_iff_eq, decide_eq_true_eq] at h2
        obtain ⟨⟨⟨⟨⟨⟨⟨⟨⟨w1, w2⟩, w3⟩, w4⟩, w5⟩, w6⟩, w7⟩, w8⟩, w9⟩, w10⟩ := h2
        refine PSimp (ps_par3 g.calm (by rw [g.hN]; exact g.nd) (by rw [g.hN]; exact w2) (by rw [g.hN]; exact w3) (by rw [g.hN]; exact w4) w5 w6 w7 (by rw [g.names]; exact w8) (by rw [g.names]; exact w9) (by rw [g.names]; exact w10) (sA as g h1) (swN_ok g.names g.kind w1)) fun D σv H ⟨b, φ, σ, st, fl, a, e, q⟩ => ?_
        simp only [denS, Option.bind_eq_some_iff] at e
        obtain ⟨⟨ps, st1⟩, f1, s2, f2, f3⟩ := e
        cases f3
        refine ⟨b, φ, σ, st, ps, st1, a, f1, fun φ1 vs H1 g1 r1 => ?_⟩
        obtain ⟨u, v, w, rfl⟩ := rvs3 r1 (set_len f2)
        · refine ⟨u, v, w, rfl, q φ1 _ H1 g1 ?_⟩
          have := set_es (a.es.mono g1.pre g1.tp) r1 f2
          have e0 : ((σv.set i (some u)).set j (some v)).set l (some w) = ((σv.set l (some w)).set j (some v)).set i (some u) := by
            rw [List.set_comm _ _ w5, List.set_comm _ _ w6, List.set_comm (some v) (some w) w7]
          rw [e0]
          exact this
      · cases h2
    · cases h
  | .ret e, X, sc, s, g, hfn, h => by
    unfold okS at h
    split at h
    · refine PSimp (ps_ret (sE e g h).1) fun D σv H ⟨b, φ, σ, st, fl, a, e, q⟩ => ?_
      simp only [denS, Option.bind_eq_some_iff] at e
      obtain ⟨⟨v, st1⟩, e1, e2⟩ := e
      cases e2
      exact ⟨b, φ, σ, st, v, st1, a, e1, fun φ1 u H1 f1 r1 => q φ1 u H1 f1 r1⟩
    · cases h
  | .retN, X, sc, s, g, hfn, h => by
    unfold okS at h
    split at h
    · refine PSimp ps_retN fun D σv H ⟨b, φ, σ, st, fl, a, e, q⟩ => ?_
      simp only [denS] at e
      cases e
      exact q φ _ H (After.refl a.hr) rv_non
    · cases h
  | .expr e, X, sc, s, g, hfn, h => by
    unfold okS at h
    split at h
    · rename_i ex pos
      rw [Bool.and_eq_true] at h
      refine PSimp (ps_expr (sE e g h.2).1 (by
        cases ex <;> first | rfl | (exact absurd h.1 Bool.false_ne_true))) fun D σv H ⟨b, φ, σ, st, fl, a, e, q⟩ => ?_
      simp only [denS, Option.bind_eq_some_iff] at e
      obtain ⟨⟨v, st1⟩, e1, e2⟩ := e
      cases e2
      exact ⟨b, φ, σ, st, v, _, a, e1, fun φ1 u H1 f1 r1 => q φ1 _ H1 f1 (a.es.mono f1.pre f1.tp)⟩
    · cases h
  | .app o e, X, sc, s, g, hfn, h => by
    unfold okS at h
    split at h
    · rename_i ox nm ap ex cp pos
      simp only [Bool.and_eq_true, beq_iff_eq] at h
      obtain ⟨⟨⟨⟨⟨h1, h2⟩, h3⟩, h4⟩, h5⟩, h6⟩ := h
      subst h1
      have hb : attributeBase ox "append" X.env (eval ox X.env) = eval ox X.env := by cases ox <;> first | rfl | cases h2
      refine PSimp (ps_expr (pe_bm PySem.F.plainAttrs_list PySem.F.slot_list_append PySem.F.type_list_append mt_append (sE o g h5).1 (pa_cons (sE e g h6).1 pa_nil (star_one h3 _ _)) hb (by rw [star_one h3]; rfl) (by rw [h4]; exact beq_self_eq_true _) (star_one h3 _ _) rfl)) fun D σv H ⟨b, φ, σ, st, fl, a, e, q⟩ => ?_
      exact app_run ⟨b, φ, σ, st, fl, a, e, q⟩
    · cases h
  | .ext o e, X, sc, s, g, hfn, h => by
    unfold okS at h
    split at h
    · rename_i ox nm ap ex cp pos
      simp only [Bool.and_eq_true, beq_iff_eq] at h
      obtain ⟨⟨⟨⟨⟨h1, h2⟩, h3⟩, h4⟩, h5⟩, h6⟩ := h
      subst h1
      have hb : attributeBase ox "extend" X.env (eval ox X.env) = eval ox X.env := by cases ox <;> first | rfl | cases h2
      exact PSimp (ps_expr (pe_bm PySem.F.plainAttrs_list PySem.F.slot_list_extend PySem.F.type_list_extend mt_extend (sE o g h5).1 (pa_cons (sE e g h6).1 pa_nil (star_one h3 _ _)) hb (by rw [star_one h3]; rfl) (by rw [h4]; exact beq_self_eq_true _) (star_one h3 _ _) rfl)) fun D σv H q => ext_run q
    · cases h
  | .ite c x y, X, sc, s, g, hfn, h => by
    unfold okS at h
    split at h
    · simp only [Bool.and_eq_true] at h
      obtain ⟨⟨⟨h1, h2⟩, h3⟩, h4⟩ := h
      refine PSimp (ps_if ((sE c g h2).2 h1).1 (sB x g hfn h3) (sB y g hfn h4)) fun D σv H ⟨b, φ, σ, st, fl, a, e, q⟩ => ?_
      simp only [denS, Option.bind_eq_some_iff] at e
      obtain ⟨⟨p, st1⟩, e1, t, e2, e3⟩ := e
      have := boolOf_eq e2
      simp only at this e3; subst this
      refine ⟨b, φ, σ, st, t, st1, a, e1, fun φ1 H1 f1 => ?_⟩
      cases t with
      | true => exact ⟨b, φ1, σ, st1, fl, f1.at_ a, e3, q.back f1⟩
      | false => exact ⟨b, φ1, σ, st1, fl, f1.at_ a, e3, q.back f1⟩
    · cases h
  | .loop t it body, X, sc, s, g, hfn, h => by
    unfold okS at h
    split at h
    · rename_i tg iter bs pos
      simp only [Bool.and_eq_true] at h
      obtain ⟨⟨h1, h2⟩, h3⟩ := h
      refine PSimp (ps_for (by rw [g.xe]; exact PassesOwn.never) g.calm (sI it tg g h1) (sG t g h2) (sB body g hfn h3) (by
        intro x
        have : noSet iter = true := okI_noset h1
        cases iter <;> first | rfl | cases this)) fun _ _ _ => loop_run
    · cases h
  | .whl c body, X, sc, s, g, hfn, h => by
    unfold okS at h
    split at h
    · simp only [Bool.and_eq_true] at h
      obtain ⟨⟨h1, h2⟩, h3⟩ := h
      exact PSimp (ps_while (by rw [g.xe]; exact PassesOwn.never) ((sE c g h2).2 h1).1 (sB body g hfn h3)) fun _ _ _ => whl_run
    · cases h
  | .pass, X, sc, s, g, hfn, h => by
    unfold okS at h
    split at h
    · refine PSimp ps_pass fun D σv H ⟨b, φ, σ, st, fl, a, e, q⟩ => ?_
      simp only [denS] at e
      cases e
      exact q φ _ H (After.refl a.hr) a.es
    · cases h
  | .brk, X, sc, s, g, hfn, h => by
    unfold okS at h
    split at h
    · refine PSimp ps_break fun D σv H ⟨b, φ, σ, st, fl, a, e, q⟩ => ?_
      simp only [denS] at e
      cases e
      exact q φ _ H (After.refl a.hr) a.es
    · cases h
  | .cnt, X, sc, s, g, hfn, h => by
    unfold okS at h
    split at h
    · refine PSimp ps_continue fun D σv H ⟨b, φ, σ, st, fl, a, e, q⟩ => ?_
      simp only [denS] at e
      cases e
      exact q φ _ H (After.refl a.hr) a.es
    · cases h
  | .nev, X, sc, s, g, hfn, h => PSimp ps_never fun D σv H ⟨b, φ, σ, st, fl, a, e, q⟩ => by simp [denS] at e
theorem sB : ∀ (cb : CB) {X : Cx} {sc : Nms} {ss : List Stmt}, Good Ω Γ G lim k N sc (ownB sc) X → (∀ x, X.fn x = true) → okB Ω lim N sc cb ss = true → PSs X ss (tS X.K (denB Γ G cb))
  | .nil, X, sc, ss, g, hfn, h => by
    simp only [okB, List.isEmpty_iff] at h
    subst h
    refine PSsimp pss_nil fun D σv H ⟨b, φ, σ, st, fl, a, e, q⟩ => ?_
    simp only [denB] at e
    cases e
    exact q φ _ H (After.refl a.hr) a.es
  | .cons s r, X, sc, ss, g, hfn, h => by
    cases ss with
    | nil => simp [okB] at h
    | cons x xs =>
      simp only [okB, Bool.and_eq_true] at h
      exact PSsimp (pss_cons (sS s g hfn h.1) (sB r g hfn h.2)) fun _ _ _ => s_seq
end
end
end MP

end
section
set_option Elab.async false
set_option linter.all false
set_option maxRecDepth 100000
set_option maxHeartbeats 4000000
/-! MP: a table of defs, each calling the ones before it. -/
namespace MP
open PySem PySem.Spec PyProof.Rows L2
/-- the table's functions, those below n -/
noncomputable def Gat (G : Nat → Option PV) (tbl : List CD) : Nat → Tab
  | 0 => fun _ _ _ => none
  | n + 1 => fun j args st => if j < n then Gat G tbl n j args st else if j = n then (tbl[n]?).bind fun d => runD (Gat G tbl n) G d args st else none
/-- the j-th function -/
noncomputable def Gf (G : Nat → Option PV) (tbl : List CD) (j : Nat) : List PV → Sto → Option (PV × Sto) := Gat G tbl (j + 1) j
theorem Gat_lt {G : Nat → Option PV} {tbl : List CD} {n j : Nat} (h : j < n) : Gat G tbl n j = Gf G tbl j := by
  induction n with
  | zero => exact absurd h (by omega)
  | succ n ih =>
    rcases Nat.lt_or_ge j n with q | q
    · rw [← ih q]
      funext args st
      show (if j < n then _ else _) = _
      rw [if_pos q]
    · have : j = n := by omega
      subst this
      rfl
theorem Gat_ge {G : Nat → Option PV} {tbl : List CD} {n j : Nat} (h : ¬ j < n) (args : List PV) (st : Sto) : Gat G tbl n j args st = none := by
  cases n with
  | zero => rfl
  | succ n =>
    show (if j < n then _ else if j = n then _ else none) = none
    rw [if_neg (by omega), if_neg (by omega)]
theorem Gf_eq {G : Nat → Option PV} {tbl : List CD} {j : Nat} {d : CD} (h : tbl[j]? = some d) (args : List PV) (st : Sto) : Gf G tbl j args st = runD (Gat G tbl j) G d args st := by
  show (if j < j then _ else if j = j then (tbl[j]?).bind _ else none) = _
  rw [if_neg (Nat.lt_irrefl j), if_pos rfl, h]
  rfl
/-- a def of the text and its term -/
structure Dfn where
  name : Str
  st : Stmt
  N : List Str
  ps : List Str
  cd : CD
def Dfn.fine (d : Dfn) : Prop := FnScope d.N d.ps (defScope d.st) ∧ d.cd.slots = d.N.length ∧ d.cd.pars = d.ps.length
def omOf (ds : List Dfn) (gname : Nat → Str) (kws : List (Nat × List Str × List Nat)) : Om where
  fname j := ((ds[j]?).map (·.name)).getD ""
  fpars j := ((ds[j]?).map (·.ps)).getD []
  gname := gname
  kws := kws
section
variable {P : Program} {w : World} {K : PySem.W.Frag} {mg : Str → Option Value} {base : Heap} {ds : List Dfn} {gname : Nat → Str} {kws : List (Nat × List Str × List Nat)} {G : Nat → Option PV}
/-- what the head tells -/
structure Around0 (ds : List Dfn) (gname : Nat → Str) (kws : List (Nat × List Str × List Nat)) (G : Nat → Option PV) (K : PySem.W.Frag) (mg : Str → Option Value) : Prop where
  fn : ∀ (j : Nat) d, ds[j]? = some d → ∃ (f : Addr) (fd : FuncData), FunD K d.name d.name (defArgs d.st) (defBody d.st) (defScope d.st) [] [] f fd ∧ mg d.name = some (.ref f)
  kw : ∀ e ∈ kws, ∀ d, ds[e.1]? = some d → ∀ (kV doc pm : Value) (an : Option Addr) (cdv ct : Value) (ws : List Value), ws.length = e.2.1.length →
    bindArgs (PySem.W.fnOf d.name d.name (defArgs d.st) (defBody d.st) (defScope d.st) .none kV doc pm an cdv ct) ⟨[], e.2.1.zip ws⟩ = pure (d.ps.zip (pick e.2.2 ws))
  glb : ∀ g v, G g = some v → ∃ u x, mg (gname g) = some u ∧ RelV x u ∧ ∀ φ H, RV K φ H v x
  blt : ∀ x, x ∈ bltNames → mg x = none
  gcd : mg "gcd" = some (.builtin "math.gcd")
  sys : SysOk K
/-- every def binds its positional values -/
def BindAll (d : Dfn) : Prop := ∀ (kV doc pm : Value) (an : Option Addr) (cdv ct : Value) (us : List Value), us.length = d.ps.length →
  bindArgs (PySem.W.fnOf d.name d.name (defArgs d.st) (defBody d.st) (defScope d.st) .none kV doc pm an cdv ct) ⟨us, []⟩ = pure (d.ps.zip us)
theorem FunD.bindsK0 {x qual : Str} {params : Arguments} {body : List Stmt} {scope : Scope} {f : Addr} {fd : FuncData} {ks : List Str} {bs : List Value → List (Str × Value)} (F : FunD K x qual params body scope [] [] f fd)
    (h : ∀ (kV doc pm : Value) (an : Option Addr) (cdv ct : Value) (ws : List Value), ws.length = ks.length → bindArgs (PySem.W.fnOf x qual params body scope .none kV doc pm an cdv ct) ⟨[], ks.zip ws⟩ = pure (bs ws)) (s : Shared) (ws : List Value) (hl : ws.length = ks.length) :
    BindsTo s fd ⟨[], ks.zip ws⟩ (bs ws) := by
  obtain ⟨oc, od, dV, kV, doc, pm, an, cdv, ct, osl, rfl, lk, hcd, hD, hK⟩ := F.ex
  rcases hD with ⟨_, rfl⟩ | ⟨e, _⟩
  · exact .of_eq (h kV doc pm an cdv ct ws hl)
  · exact absurd rfl e
theorem args_len {j : Nat} {ps : List PV} {st : Sto} {r : PV × Sto} (hf : ∀ (j : Nat) d, ds[j]? = some d → d.fine) {n : Nat} (h : Gat G (ds.map (·.cd)) n j ps st = some r) : ps.length = ((omOf ds gname kws).fpars j).length := by
  rcases Nat.lt_or_ge j n with q | q
  · rw [Gat_lt q] at h
    cases e : ds[j]? with
    | none =>
      have : (ds.map (·.cd))[j]? = none := by rw [List.getElem?_map, e]; rfl
      unfold Gf Gat at h
      rw [if_neg (Nat.lt_irrefl j), if_pos rfl, this] at h
      cases h
    | some d =>
      have : (ds.map (·.cd))[j]? = some d.cd := by rw [List.getElem?_map, e]; rfl
      rw [Gf_eq this] at h
      unfold runD at h
      split at h
      · rename_i hl
        show ps.length = (((ds[j]?).map (·.ps)).getD []).length
        rw [e, hl, (hf j d e).2.2]; rfl
      · cases h
  · rw [Gat_ge (by omega)] at h; cases h
theorem es_start {φ : List Addr} {H : Hp} {n : Nat} : ∀ {ps : List PV} {vs : List V}, RVs K φ H ps vs → ES K φ H (ps.map some ++ List.replicate n none) (vs.map some ++ List.replicate n none)
  | ps, vs, h => by
    refine ⟨by simp [h.length], fun i v e => ?_⟩
    rcases Nat.lt_or_ge i ps.length with q | q
    · rw [List.getElem?_append_left (by simpa using q), List.getElem?_map, Option.map_eq_some_iff] at e
      obtain ⟨x, e1, e2⟩ := e
      cases e2
      obtain ⟨u, h1, h2⟩ := h.get e1
      exact ⟨u, by rw [List.getElem?_append_left (by rw [List.length_map, h.length]; exact q), List.getElem?_map, h1]; rfl, h2⟩
    · rw [List.getElem?_append_right (by simpa using q)] at e
      have := List.mem_of_getElem? e
      have := List.eq_of_mem_replicate this
      cases this
/-- every def of the table keeps its promise -/
theorem table_ok (A0 : Around0 ds gname kws G K mg) (hf : ∀ (j : Nat) d, ds[j]? = some d → d.fine) (hb : ∀ (j : Nat) d, ds[j]? = some d → BindAll d)
    (hc : ∀ (j : Nat) d, ds[j]? = some d → okB (omOf ds gname kws) j d.N (defScope d.st).names d.cd.body (defBody d.st) = true) :
    ∀ n, n ≤ ds.length → Facts (omOf ds gname kws) (Gat G (ds.map (·.cd)) n) G n n P w K mg base := by
  intro n
  induction n with
  | zero => exact fun _ => ⟨fun j h => absurd h (by omega), fun j ps st r h => args_len hf h, A0.glb, A0.blt, A0.gcd, A0.sys⟩
  | succ n ih =>
    intro hn
    have F0 := ih (by omega)
    refine ⟨fun j hj => ?_, fun j ps st r h => args_len hf h, A0.glb, A0.blt, A0.gcd, A0.sys⟩
    rcases Nat.lt_or_ge j n with q | q
    · obtain ⟨f, fd, h1, h2, h3, h4, h5⟩ := F0.fns j q
      refine ⟨f, fd, h1, h2, h3, h4, ?_⟩
      have e : Gat G (ds.map (·.cd)) (n + 1) j = Gat G (ds.map (·.cd)) n j := by rw [Gat_lt hj, Gat_lt q]
      have e2 : spT K (Gat G (ds.map (·.cd)) (n + 1)) ((omOf ds gname kws).fpars j).length j = spT K (Gat G (ds.map (·.cd)) n) ((omOf ds gname kws).fpars j).length j := by unfold spT; rw [e]
      rw [e2]
      exact h5.mono (by omega)
    · have hjn : j = n := by omega
      subst hjn
      have hd : ds[j]? = some ds[j] := List.getElem?_eq_getElem (by omega)
      generalize ds[j] = d at hd
      obtain ⟨f, fd, F, hm⟩ := A0.fn j d hd
      have en : (omOf ds gname kws).fname j = d.name := by unfold omOf; simp only [hd]; rfl
      have ep : (omOf ds gname kws).fpars j = d.ps := by unfold omOf; simp only [hd]; rfl
      obtain ⟨hS, hsl, hpr⟩ := hf j d hd
      rw [en, ep]
      refine ⟨f, fd, hm, F.kp, F.bindsN (hb j d hd), fun e he ej s ws _ hl => ?_, ?_⟩
      · subst ej
        exact FunD.bindsK0 (bs := fun ws => d.ps.zip (pick e.2.2 ws)) F (fun kV doc pm an cdv ct ws hl => A0.kw e he d hd kV doc pm an cdv ct ws hl) s ws hl
      · refine fnD_okG F hS (fun vs H Q E h => ?_) fun cdv A outer s H vs Q E hr hg h => ?_
        · obtain ⟨φ, ps, st, r, st', hl, _, hv, _⟩ := h
          rw [hv.length, hl]
        · obtain ⟨φ, ps, st, r, st', hl, hh, hv, hrun, hQ⟩ := h
          refine ⟨_, PSs.nox (sB (Ω := omOf ds gname kws) (Γ := Gat G (ds.map (·.cd)) j) (G := G) (lim := j) (k := j) (N := d.N) d.cd.body (sc := (defScope d.st).names) ⟨F0, hr, hg, rfl, hS.nd, rfl, hS.kind, rfl, rfl, fun x hx => ?_⟩ (fun _ => rfl) (hc j d hd)), ?_⟩
          · have hx' : ((defScope d.st).names.lookup x == some .local || (defScope d.st).names.lookup x == some .cell) = true := hx
            rw [Bool.or_eq_true, beq_iff_eq, beq_iff_eq] at hx'
            exact ⟨hx', .inl rfl⟩
          · have hcd : (ds.map (·.cd))[j]? = some d.cd := by rw [List.getElem?_map, hd]; rfl
            have e0 : Gat G (ds.map (·.cd)) (j + 1) j = Gf G (ds.map (·.cd)) j := rfl
            rw [e0, Gf_eq hcd] at hrun
            unfold runD at hrun
            rw [if_pos (by rw [hl, hpr]), Option.bind_eq_some_iff] at hrun
            obtain ⟨fl, h1, h2⟩ := hrun
            have hes : ES K φ H (ps.map some ++ List.replicate (d.cd.slots - d.cd.pars) none) (L2.start d.N vs) := by
              have e1 : L2.start d.N vs = vs.map some ++ List.replicate (d.cd.slots - d.cd.pars) none := by
                unfold L2.start
                rw [hv.length, hl, hsl, hpr]
              rw [e1]
              exact es_start hv
            refine ⟨st.length, φ, _, st, fl, ⟨hh, hes, Nat.le_refl _⟩, h1, ?_⟩
            cases fl with
            | nx σ' st1 =>
              have h2' : fin st.length .non st1 = (r, st') := by simpa using h2
              exact fun φ1 σv1 H1 fa _ => gc_run.fin_run (X := (cxOf CX0 P w K mg base d.N d.name (defScope d.st) f cdv A outer s H E).nox) hh (Nat.le_refl _) fa (v := .non) (by unfold RV; rfl) h2' fun φ' v H' a b => hQ φ' v H' a b
            | rt v st1 =>
              have h2' : fin st.length v st1 = (r, st') := by simpa using h2
              exact fun φ1 v1 H1 fa rv => gc_run.fin_run (X := (cxOf CX0 P w K mg base d.N d.name (defScope d.st) f cdv A outer s H E).nox) hh (Nat.le_refl _) fa rv h2' fun φ' v H' a b => hQ φ' v H' a b
            | bk σ' st1 => cases h2
            | ct σ' st1 => cases h2
end
end MP

end
section
set_option Elab.async false
set_option linter.all false
set_option maxRecDepth 100000
set_option maxHeartbeats 4000000
/-! MP: the head's hook (defs, constants, the built-ins' names), the law's end. -/
namespace MP
open PySem PySem.Spec PyProof.Rows L2
/-! ### constants of the module -/
mutual
def cvB (K : PySem.W.Frag) : PV → Value → Bool
  | .non, u => (match u with | .none => true | _ => false)
  | .bl b, u => (match u with | .bool c => b == c | _ => false)
  | .int i, u => (match u with | .int j _ => decide (i = j) | _ => false)
  | .str s, u => (match u with | .str t _ => decide (s = t) | _ => false)
  | .tup xs, u => (match u with
    | .ref a => (match K.lookup a with
      | some ⟨.type c, _, .seq its _, _⟩ => decide (c = "tuple") && (decide (its.size ≤ sizeLine) && cvA K xs its.toList)
      | _ => false)
    | _ => false)
  | .ref _, _ => false
def cvA (K : PySem.W.Frag) : List PV → List Value → Bool
  | [], us => us.isEmpty
  | x :: xs, us => (match us with
    | u :: ur => cvB K x u && cvA K xs ur
    | [] => false)
end
mutual
theorem cvB_ok {K : PySem.W.Frag} : ∀ {x : PV} {u : Value}, cvB K x u = true → ∃ v, RelV v u ∧ ∀ φ H, RV K φ H x v
  | .non, u, h => by
    unfold cvB at h
    split at h
    · exact ⟨.non, rfl, fun _ _ => by unfold RV; rfl⟩
    · cases h
  | .bl b, u, h => by
    unfold cvB at h
    split at h
    · rename_i c
      exact ⟨.bl b, by rw [eq_of_beq h]; rfl, fun _ _ => by unfold RV; rfl⟩
    · cases h
  | .int i, u, h => by
    unfold cvB at h
    split at h
    · rename_i j t
      exact ⟨.int i, ⟨t, by rw [of_decide_eq_true h]⟩, fun _ _ => by unfold RV; rfl⟩
    · cases h
  | .str s, u, h => by
    unfold cvB at h
    split at h
    · rename_i j t
      exact ⟨.str s, ⟨t, by rw [of_decide_eq_true h]⟩, fun _ _ => by unfold RV; rfl⟩
    · cases h
  | .tup xs, u, h => by
    unfold cvB at h
    split at h
    · rename_i a
      split at h
      · rename_i c d its n sl q
        simp only [Bool.and_eq_true, decide_eq_true_eq] at h
        obtain ⟨h1, h2, h3⟩ := h
        obtain ⟨vs, hv, hr⟩ := cvA_ok h3
        exact ⟨.ref a, rfl, fun φ H => by unfold RV; exact ⟨a, vs, rfl, .inr ⟨_, its, n, q, congrArg Value.type h1, rfl, h2, hv⟩, hr φ H⟩⟩
      · cases h
    · cases h
  | .ref _, u, h => by unfold cvB at h; cases h
theorem cvA_ok {K : PySem.W.Frag} : ∀ {xs : List PV} {us : List Value}, cvA K xs us = true → ∃ vs, Vals vs us ∧ ∀ φ H, RVs K φ H xs vs
  | [], us, h => by
    unfold cvA at h
    rw [List.isEmpty_iff] at h
    subst h
    exact ⟨[], .nil, fun _ _ => .nil⟩
  | x :: xs, us, h => by
    unfold cvA at h
    split at h
    · rename_i u ur
      rw [Bool.and_eq_true] at h
      obtain ⟨v, h1, h2⟩ := cvB_ok h.1
      obtain ⟨vs, h3, h4⟩ := cvA_ok h.2
      exact ⟨v :: vs, .cons h1 h3, fun φ H => .cons (h2 φ H) (h4 φ H)⟩
    · cases h
end
/-! ### the hook -/
def cnB (K : PySem.W.Frag) (c : Str × PV) : Bool := match PySem.W.nsIn K mainGlobals c.1 with
  | some (some u) => cvB K c.2 u
  | _ => false
def gcdB (K : PySem.W.Frag) : Bool := He.eqO (PySem.W.nsIn K mainGlobals "gcd") (some (some (.builtin "math.gcd")))
def sysB (K : PySem.W.Frag) : Bool := match K.lookup sysModules with
  | some ⟨_, _, .dict _ _, _⟩ => true
  | _ => false
theorem sysB_ok {K : PySem.W.Frag} (h : sysB K = true) : SysOk K := by
  unfold sysB at h
  split at h
  · rename_i c d es n sl q
    exact ⟨_, es, n, q, rfl⟩
  · cases h
def obsM (fa : List He.Fa) (cs : List (Str × PV)) (fn : List He.DefD) (K : PySem.W.Frag) : He.AlD :=
  ((fa.all fun f => f.ok K) && ((fn.all fun d => d.ok K && (He.Fa.glo d.name).ok K) && (cs.all (cnB K) && (gcdB K && sysB K))), fn.map fun d => He.fnW K d.at_)
def obsMG (n : Nat) (fa : List He.Fa) (cs : List (Str × PV)) (fn : List He.DefD) (g : Addr → Option Obj) : He.AlD := obsM fa cs fn (He.frG g (He.asD g n ++ [sysModules]))
def hookM (n : Nat) (fa : List He.Fa) (cs : List (Str × PV)) (fn : List He.DefD) : PySem.W.Hook where
  α := He.AlD
  obs := fun s => obsMG n fa cs fn s.heap.get?
  val := fun _ => He.valD fn
  says := fun _ h => ∃ K : PySem.W.Frag, K.In h ∧ obsM fa cs fn K = He.valD fn
  of := fun _ _ e => ⟨_, He.frG_in, e⟩
  keeps := fun _ _ _ ⟨K, hK, c⟩ k => ⟨K, PySem.W.Frag.In.keeps hK k, c⟩
theorem obsMG_eq {n : Nat} {fa : List He.Fa} {cs : List (Str × PV)} {fn : List He.DefD} {g : Addr → Option Obj} {s : Shared} (h : ∀ a, g a = s.heap.get? a) : obsMG n fa cs fn g = (hookM n fa cs fn).obs s := by
  have e : g = s.heap.get? := funext h
  rw [e] <;> rfl
def bltFa : List He.Fa := bltNames.map He.Fa.free
def dfOf (d : Dfn) : He.DefD := ⟨(d.name, none), d.name, d.name, defArgs d.st, defBody d.st, defScope d.st, [], []⟩
section
variable {P : Program} {w : World} {K : PySem.W.Frag} {mg : Str → Option Value} {base h : Heap} {ds : List Dfn} {gname : Nat → Str} {kws : List (Nat × List Str × List Nat)} {G : Nat → Option PV} {cs : List (Str × PV)}
theorem around_of (KX : K.In h) (hns : h.Ns mainGlobals mg) (e : obsM bltFa cs (ds.map dfOf) K = He.valD (ds.map dfOf)) (hG : ∀ g v, G g = some v → (gname g, v) ∈ cs)
    (hkw : ∀ e ∈ kws, ∀ d, ds[e.1]? = some d → ∀ (kV doc pm : Value) (an : Option Addr) (cdv ct : Value) (ws : List Value), ws.length = e.2.1.length →
      bindArgs (PySem.W.fnOf d.name d.name (defArgs d.st) (defBody d.st) (defScope d.st) .none kV doc pm an cdv ct) ⟨[], e.2.1.zip ws⟩ = pure (d.ps.zip (pick e.2.2 ws))) : Around0 ds gname kws G K mg := by
  have e1 : _ = true := congrArg (fun z : He.AlD => z.1) e
  have e2 : (ds.map dfOf).map (fun d => He.fnW K d.at_) = (ds.map dfOf).map He.DefD.val := congrArg (fun z : He.AlD => z.2) e
  have e1' : ((bltFa.all fun f => f.ok K) && (((ds.map dfOf).all fun d => d.ok K && (He.Fa.glo d.name).ok K) && (cs.all (cnB K) && (gcdB K && sysB K)))) = true := e1
  simp only [Bool.and_eq_true] at e1'
  obtain ⟨h1, h2, h3, h4, h5⟩ := e1'
  refine ⟨fun j d hd => ?_, hkw, fun g v hg => ?_, fun x hx => ?_, ?_, sysB_ok h5⟩
  · have hm : dfOf d ∈ ds.map dfOf := List.mem_map_of_mem (List.mem_of_getElem? hd)
    have q := List.all_eq_true.mp h2 _ hm
    simp only [Bool.and_eq_true] at q
    have ee : He.fnW K (dfOf d).at_ = (dfOf d).val := by
      have e3 : ((ds.map dfOf).map fun d => He.fnW K d.at_)[j]? = ((ds.map dfOf).map He.DefD.val)[j]? := by rw [e2]
      simp only [List.getElem?_map, hd, Option.map_some] at e3
      exact Option.some.inj e3
    obtain ⟨fd, F⟩ := He.DefD.funD ee q.1
    exact ⟨_, fd, F, He.glo_ok KX hns q.2⟩
  · have q := List.all_eq_true.mp h3 _ (hG g v hg)
    unfold cnB at q
    simp only at q
    split at q
    · rename_i u hu
      obtain ⟨x, r1, r2⟩ := cvB_ok q
      exact ⟨u, x, PySem.W.mg_of KX hns hu, r1, r2⟩
    · cases q
  · exact He.free_ok KX hns (List.all_eq_true.mp h1 _ (List.mem_map_of_mem hx))
  · exact PySem.W.mg_of KX hns (He.eqO_ok h4)
end
/-! ### the law's end -/
theorem rvs_ints {K : PySem.W.Frag} {φ : List Addr} {H : Hp} : ∀ ns : List Int, RVs K φ H (ns.map PV.int) (ns.map V.int)
  | [] => .nil
  | n :: ns => .cons (by unfold RV; rfl) (rvs_ints ns)
/-- the script's heap: it stands there as it was, or it is the module's own -/
theorem law_callM {P : Program} {w : World} {K : PySem.W.Frag} {mg mb : Str → Option Value} {k : Nat} {fa a : Addr} {x : Str} {Γ : Tab} {j : Nat} {s₁ : Shared} {vs : List Value} {ns : List Int}
    (KX : K.In s₁.heap) (hns : s₁.heap.Ns mainGlobals mg) (hb : s₁.heap.Ns builtinsNs mb) (hbb : ∀ x : Str, x ≠ "__name__" → mb x = bootBuiltins x) (hlim : s₁.heap.NoLimit) (hg : s₁.gens = #[])
    (ha : s₁.heap.get? a = some { cls := .type "list", data := .seq vs.toArray }) (hi : IntsAre vs ns) (hl : ns.length ≤ sizeLine) (hr : Room k callerA)
    (F : ∀ base : Heap, K.In base → base.Ns mainGlobals mg → ∃ fd, FnG P w K mg base k fa fd [x] (spT K Γ 1 j) ∧ ∀ (s : Shared) (u : Value), K.In s.heap → BindsTo s fd ⟨[u], []⟩ [(x, u)])
    (hrun : ∃ st', Γ j [.ref 0] [.fzl (ns.map .int)] = some (.bl true, st')) :
    codeAny (model P w) callerA (.call (.ref fa) ⟨[.ref a], []⟩) (fun r s' => r = .ok (.ret (.bool true)) ∧ OldK s₁.heap s'.heap ∧ s'.os = s₁.os ∧ AllBare s'.gens) s₁ := by
  have rv := vals_ints hi
  obtain ⟨st', hrun⟩ := hrun
  -- an abstract heap in which at most the script is told, as it stands
  have main : ∀ H : Hp, HOk P w H s₁.heap → (∀ b u, H b = some u → b = a ∧ K.lookup a = none ∧ ∃ o, u = .frz o (.lst (ns.map V.int))) →
      ((∃ o, H a = some (.frz o (.lst (ns.map V.int)))) ∨ ∀ H', SqL K H' a (ns.map V.int)) →
      codeAny (model P w) callerA (.call (.ref fa) ⟨[.ref a], []⟩) (fun r s' => r = .ok (.ret (.bool true)) ∧ OldK s₁.heap s'.heap ∧ s'.os = s₁.os ∧ AllBare s'.gens) s₁ := by
    intro H hok hA hS
    have free : ∀ {b : Addr}, (∀ o, s₁.heap.get? b = some o → (∃ es n, o.data = .dict es n) ∨ K.lookup b = some o) → (∃ o, s₁.heap.get? b = some o) → H b = none := fun {b} h ⟨o, ho⟩ => by
      cases q : H b with
      | none => rfl
      | some u =>
        obtain ⟨rfl, hk, _⟩ := hA b u q
        rcases h o ho with ⟨es, n, hd⟩ | hd
        · rw [ha] at ho; cases ho; cases hd
        · rw [hk] at hd; cases hd
    have nsB : ∀ {b : Addr} {m : Str → Option Value}, s₁.heap.Ns b m → (hidT s₁.heap H).Ns b m := fun {b m} ⟨o, es, ep, e, d, r⟩ =>
      ⟨o, es, ep, hidT_get e (free (fun o' e' => by rw [e] at e'; cases e'; exact .inl ⟨es, ep, d⟩) ⟨o, e⟩), d, r⟩
    have KB : K.In (hidT s₁.heap H) := fun b o e => hidT_get (KX b o e) (free (fun o' e' => .inr (by rw [KX b o e] at e'; cases e'; exact e)) ⟨o, KX b o e⟩)
    have M : Mod K mg (hidT s₁.heap H) := ⟨KB, nsB hns, ⟨mb, nsB hb, hbb⟩, let ⟨mc, h1, h2⟩ := hlim; ⟨mc, nsB h1, h2⟩⟩
    have e0 : Env0 P w K mg (hidT s₁.heap H) callerA [] s₁ H := ⟨rfl, M, fun b o e => of_hidT e, Nat.le_of_eq (hidT_size _ _), trivial, fun b hb => (nomatch hb), hok, .of_eq hg⟩
    have hHR : HR K [a] [.fzl (ns.map PV.int)] H := by
      refine ⟨rfl, fun i j b h1 h2 => ?_, fun n b o h1 h2 => ?_⟩
      · have hi0 : i = 0 := by
          cases i with
          | zero => rfl
          | succ i => simp at h1
        have hj0 : j = 0 := by
          cases j with
          | zero => rfl
          | succ j => simp at h2
        exact .inr (.inr (hi0.trans hj0.symm))
      · have hn0 : n = 0 := by
          cases n with
          | zero => rfl
          | succ n => simp at h1
        subst hn0
        cases h1; cases h2
        exact ⟨ns.map V.int, hS, rvs_ints ns⟩
    have sp0 : spT K Γ 1 j [V.ref a] H (fun v _ => v = .bl true) E0 := by
      refine ⟨[a], [.ref 0], [.fzl (ns.map PV.int)], .bl true, st', rfl, hHR, .cons (by unfold RV; exact ⟨a, rfl, rfl⟩) .nil, hrun, fun φ' v H' _ r => ?_⟩
      unfold RV at r
      exact r
    obtain ⟨fd, hF, hbind⟩ := F _ KB (nsB hns)
    refine codeAny_mono (hF.run callerA [] s₁ H ⟨[.ref a], []⟩ [.ref a] [.ref a] _ _ hr rfl e0 (hbind s₁ (.ref a) KX) (.cons rfl .nil) sp0) fun r s' h => ?_
    cases r with
    | error e => exact False.elim h
    | ok fl =>
      cases fl with
      | next => exact False.elim h
      | brk => exact False.elim h
      | cont => exact False.elim h
      | ret u =>
        obtain ⟨v, H', os, bare, un, hok', r', q⟩ := h
        cases (show v = .bl true from q)
        cases (show u = Value.bool true from r')
        refine ⟨rfl, OldK.of_keep fun b o e => ?_, os, bare⟩
        cases q : H b with
        | none => exact un.keep b o e q (fun z => nomatch (show b ∈ ([] : List Addr) from z)) (by simp)
        | some u =>
          obtain ⟨_, _, ob, rfl⟩ := hA b u q
          obtain ⟨e1, _⟩ := hok b _ q
          obtain ⟨e2, _⟩ := hok' b _ (un.frzs b ob _ q)
          rw [e] at e1; cases e1
          exact e2
  cases hk : K.lookup a with
  | some o =>
    have e := KX a o hk
    rw [ha] at e
    cases e
    exact main (fun _ => none) (fun b u z => by cases (show (none : Option HO) = some u from z)) (fun b u z => by cases (show (none : Option HO) = some u from z)) (.inr fun H' => .inr ⟨_, vs.toArray, _, hk, rfl, rfl, rfl, by rw [List.size_toArray, hi.length]; exact hl, by simpa using rv⟩)
  | none =>
    have at_ : ∀ {b : Addr} {u : HO}, (if b = a then some (HO.frz { cls := .type "list", data := .seq vs.toArray } (.lst (ns.map V.int))) else none) = some u → b = a ∧ u = .frz { cls := .type "list", data := .seq vs.toArray } (.lst (ns.map V.int)) := fun {b u} z => by
      split at z
      · cases z; exact ⟨by assumption, rfl⟩
      · cases z
    refine main (fun b => if b = a then some (.frz { cls := .type "list", data := .seq vs.toArray } (.lst (ns.map V.int))) else none) (fun b u z => ?_) (fun b u z => ?_) (.inl ⟨_, if_pos rfl⟩)
    · obtain ⟨rfl, rfl⟩ := at_ z
      exact ⟨ha, by rw [List.length_map]; exact hl, vs, _, rv, ha⟩
    · obtain ⟨rfl, rfl⟩ := at_ z
      exact ⟨rfl, hk, _, rfl⟩
/-- the end of a law whose table stands -/
theorem walk_M {l : PySem.W.OpenLaw} {q : Program} {loose : List Str} {XP : (Str → Option Value) → Heap → Prop} {d : DefRec} {ds : List Dfn} {gname : Nat → Str} {kws : List (Nat × List Str × List Nat)} {G : Nat → Option PV} {cs : List (Str × PV)} {j m : Nat} {dl : Dfn}
    (hn : l.most = some 63) (hdf : d.params.defaults = []) (hr : Room ds.length callerA) (hdl : ds[j]? = some dl) (hname : d.name = dl.name) (hps : dl.ps.length = 1)
    (hf : ∀ (j : Nat) d, ds[j]? = some d → d.fine) (hb : ∀ (j : Nat) d, ds[j]? = some d → BindAll d) (hc : ∀ (j : Nat) d, ds[j]? = some d → okB (omOf ds gname kws) j d.N (defScope d.st).names d.cd.body (defBody d.st) = true)
    (hG : ∀ g v, G g = some v → (gname g, v) ∈ cs)
    (hkw : ∀ e ∈ kws, ∀ d, ds[e.1]? = some d → ∀ (kV doc pm : Value) (an : Option Addr) (cdv ct : Value) (ws : List Value), ws.length = e.2.1.length →
      bindArgs (PySem.W.fnOf d.name d.name (defArgs d.st) (defBody d.st) (defScope d.st) .none kV doc pm an cdv ct) ⟨[], e.2.1.zip ws⟩ = pure (d.ps.zip (pick e.2.2 ws)))
    (hrun : ∀ ns : List Int, ns.length ≤ 63 → ∃ st', Gf G (ds.map (·.cd)) j [.ref 0] [.fzl (ns.map .int)] = some (.bl true, st')) :
    PySem.W.WalkO q loose XP (hookM m bltFa cs (ds.map dfOf)).says l.row.toRowW d [] (fun f vs => PySem.call f vs) := by
  refine Att.attach_call hn hdf fun w s₀ s₁ mg mb fa o pm cd doc a vs ns Gr Y ho hd hcd hmg hobj hints hlen hg => ?_
  obtain ⟨K, KX, e⟩ := Y
  have A0 := around_of (gname := gname) (kws := kws) (G := G) KX Gr.T.g e hG hkw
  obtain ⟨f, fd, F, hm⟩ := A0.fn j dl hdl
  rw [hname] at hmg
  rw [hmg] at hm; cases hm
  have hj : j < ds.length := by
    rcases Nat.lt_or_ge j ds.length with h | h
    · exact h
    · rw [List.getElem?_eq_none h] at hdl; cases hdl
  obtain ⟨x, hx⟩ : ∃ x, dl.ps = [x] := by
    match dl.ps, hps with
    | [x], _ => exact ⟨x, rfl⟩
  have eG : ∀ args st, Gat G (ds.map (·.cd)) ds.length j args st = Gf G (ds.map (·.cd)) j args st := fun args st => by rw [Gat_lt hj]
  refine law_callM (Γ := Gat G (ds.map (·.cd)) ds.length) (j := j) (x := x) KX Gr.T.g Gr.T.b Gr.T.builtins Gr.T.nolimit hg hobj hints (Nat.le_trans hlen (by decide)) hr (fun base KB NB => ?_) ?_
  · have Fs := table_ok (P := l.prog) (w := w) (base := base) A0 hf hb hc ds.length (Nat.le_refl _)
    obtain ⟨f', fd', h1, h2, h3, h4, h5⟩ := Fs.fns j hj
    have en : (omOf ds gname kws).fname j = dl.name := by unfold omOf; simp only [hdl]; rfl
    have ep : (omOf ds gname kws).fpars j = [x] := by unfold omOf; simp only [hdl]; exact hx
    rw [en, hmg] at h1; cases h1
    rw [ep] at h5 h3
    exact ⟨fd', h5, fun s u hs => h3 s [u] hs rfl⟩
  · obtain ⟨st', h⟩ := hrun ns hlen
    exact ⟨st', by rw [eG]; exact h⟩
end MP

end
section
set_option Elab.async false
set_option linter.all false
set_option maxRecDepth 100000
set_option maxHeartbeats 4000000
/-! MP: a table's checks, one def behind another. -/
namespace MP
open PySem PySem.Spec PyProof.Rows L2
def gOf (cs : List (Str × PV)) (g : Nat) : Option PV := (cs[g]?).map (·.2)
def gnOf (cs : List (Str × PV)) (g : Nat) : Str := ((cs[g]?).map (·.1)).getD Str.empty
theorem gOf_ok {cs : List (Str × PV)} : ∀ g v, gOf cs g = some v → (gnOf cs g, v) ∈ cs := fun g v h => by
  unfold gOf at h
  rw [Option.map_eq_some_iff] at h
  obtain ⟨⟨x, u⟩, h1, h2⟩ := h
  cases h2
  unfold gnOf
  rw [h1]
  exact List.mem_of_getElem? h1
def Each {α : Type} (p : α → Prop) : List α → Prop
  | [] => True
  | x :: xs => p x ∧ Each p xs
theorem Each.mem {α : Type} {p : α → Prop} : ∀ {xs : List α}, Each p xs → ∀ x ∈ xs, p x
  | [], _, x, h => nomatch h
  | y :: ys, h, x, hx => by
    rcases List.mem_cons.mp hx with e | e
    · subst e; exact h.1
    · exact Each.mem h.2 x e
theorem eachAt {α : Type} {p : α → Prop} {xs : List α} (h : Each p xs) : ∀ (j : Nat) d, xs[j]? = some d → p d := fun j d e => h.mem d (List.mem_of_getElem? e)
def EachN {α : Type} (p : Nat → α → Prop) : Nat → List α → Prop
  | _, [] => True
  | n, x :: xs => p n x ∧ EachN p (n + 1) xs
theorem EachN.at_ {α : Type} {p : Nat → α → Prop} : ∀ {xs : List α} {n : Nat}, EachN p n xs → ∀ (j : Nat) d, xs[j]? = some d → p (n + j) d
  | [], _, _, j, d, e => by simp at e
  | x :: xs, n, h, 0, d, e => by
    have : x = d := by simpa using e
    subst this
    exact h.1
  | x :: xs, n, h, j + 1, d, e => by
    have := EachN.at_ h.2 j d (by simpa using e)
    rwa [show n + 1 + j = n + (j + 1) by omega] at this
theorem eachNum {α : Type} {p : Nat → α → Prop} {xs : List α} (h : EachN p 0 xs) : ∀ (j : Nat) d, xs[j]? = some d → p j d := fun j d e => by
  have := h.at_ j d e
  rwa [Nat.zero_add] at this
def nodupB : List Str → Bool
  | [] => true
  | x :: xs => !xs.contains x && nodupB xs
theorem nodupB_ok : ∀ {xs : List Str}, nodupB xs = true → xs.Nodup
  | [], _ => List.nodup_nil
  | x :: xs, h => by
    simp only [nodupB, Bool.and_eq_true, Bool.not_eq_true'] at h
    rw [List.nodup_cons]
    exact ⟨fun e => by rw [List.contains_iff_mem.mpr e] at h; exact absurd h.1 (by simp), nodupB_ok h.2⟩
def Dfn.fineB (d : Dfn) : Bool :=
  (defScope d.st).kind == .function && !(defScope d.st).isCoroutine && !(defScope d.st).isGenerator && nodupB d.N && d.N.take d.ps.length == d.ps &&
  d.ps.all (fun x => (defScope d.st).names.lookup x == some .local || (defScope d.st).names.lookup x == some .cell) && (defScope d.st).names.all (fun y => !(y.2 == .free)) &&
  d.cd.slots == d.N.length && d.cd.pars == d.ps.length
theorem Dfn.fineB_ok {d : Dfn} (h : d.fineB = true) : d.fine := by
  unfold Dfn.fineB at h
  simp only [Bool.and_eq_true, beq_iff_eq, Bool.not_eq_true', List.all_eq_true, Bool.or_eq_true] at h
  obtain ⟨⟨⟨⟨⟨⟨⟨⟨h1, h2⟩, h3⟩, h4⟩, h5⟩, h6⟩, h7⟩, h8⟩, h9⟩ := h
  exact ⟨⟨h1, h2, h3, nodupB_ok h4, h5, h6, fun y hy e => by have := h7 y hy; rw [e] at this; cases this⟩, h8, h9⟩
theorem eachFine {ds : List Dfn} (h : ds.all Dfn.fineB = true) : ∀ (j : Nat) d, ds[j]? = some d → d.fine := fun j d e => Dfn.fineB_ok (List.all_eq_true.mp h d (List.mem_of_getElem? e))
def KwAll (d : Dfn) (ks : List Str) (perm : List Nat) : Prop := ∀ (kV doc pm : Value) (an : Option Addr) (cdv ct : Value) (ws : List Value), ws.length = ks.length →
  bindArgs (PySem.W.fnOf d.name d.name (defArgs d.st) (defBody d.st) (defScope d.st) .none kV doc pm an cdv ct) ⟨[], ks.zip ws⟩ = pure (d.ps.zip (pick perm ws))
theorem eachKw {ds : List Dfn} {kws : List (Nat × List Str × List Nat)} (h : Each (fun e : Nat × List Str × List Nat => ∀ d, ds[e.1]? = some d → KwAll d e.2.1 e.2.2) kws) : ∀ e ∈ kws, ∀ d, ds[e.1]? = some d → KwAll d e.2.1 e.2.2 := h.mem
end MP

end
section
set_option Elab.async false
set_option linter.all false
set_option maxRecDepth 100000
set_option maxHeartbeats 1000000
/-! MP: the head's run, looked at in parts. -/
namespace MP
open PySem PySem.Spec PyProof.Rows L2
def frT (n : Nat) (s : PySem.W.SharedT) : PySem.W.Frag := He.frG (HandSHeadRun.getT s) (He.asD (HandSHeadRun.getT s) n ++ [sysModules])
def obP (fn : List He.DefD) (K : PySem.W.Frag) : He.AlD := (fn.all fun d => d.ok K && (He.Fa.glo d.name).ok K, fn.map fun d => He.fnW K d.at_)
def obB (fa : List He.Fa) (cs : List (Str × PV)) (K : PySem.W.Frag) : Bool := (fa.all fun f => f.ok K) && (cs.all (cnB K) && (gcdB K && sysB K))
section
variable {S : Type} {o : Option (S × PySem.W.SharedT)} {n : Nat} {fn : List He.DefD}
def PartOk (o : Option (S × PySem.W.SharedT)) (n : Nat) (fn : List He.DefD) : Prop := o.map (fun x => obP fn (frT n x.2)) = some (He.valD fn)
theorem part_join (k : Nat) (a : PartOk o n (fn.take k)) (b : PartOk o n (fn.drop k)) : PartOk o n fn := by
  unfold PartOk at *
  obtain ⟨x, e, h1⟩ := Option.map_eq_some_iff.mp a
  rw [e] at b ⊢
  have h2 : obP (fn.drop k) (frT n x.2) = He.valD (fn.drop k) := Option.some.inj b
  have e1 : ((fn.take k).all fun d => d.ok (frT n x.2) && (He.Fa.glo d.name).ok (frT n x.2)) = true := congrArg (fun z : He.AlD => z.1) h1
  have e2 : ((fn.drop k).all fun d => d.ok (frT n x.2) && (He.Fa.glo d.name).ok (frT n x.2)) = true := congrArg (fun z : He.AlD => z.1) h2
  have e3 : ((fn.take k).map fun d => He.fnW (frT n x.2) d.at_) = (fn.take k).map He.DefD.val := congrArg (fun z : He.AlD => z.2) h1
  have e4 : ((fn.drop k).map fun d => He.fnW (frT n x.2) d.at_) = (fn.drop k).map He.DefD.val := congrArg (fun z : He.AlD => z.2) h2
  show some (obP fn (frT n x.2)) = some (He.valD fn)
  congr 1
  refine Prod.ext ?_ ?_
  · show (fn.all fun d => d.ok (frT n x.2) && (He.Fa.glo d.name).ok (frT n x.2)) = true
    rw [← List.take_append_drop k fn, List.all_append, e1, e2]; rfl
  · show (fn.map fun d => He.fnW (frT n x.2) d.at_) = fn.map He.DefD.val
    have : fn = fn.take k ++ fn.drop k := (List.take_append_drop k fn).symm
    rw [this, List.map_append, List.map_append, e3, e4]
theorem run_join {α : Type} {fa : List He.Fa} {cs : List (Str × PV)} {f : S × PySem.W.SharedT → Bool} {g : S × PySem.W.SharedT → α} {y : α} (a : o.map (fun x => (f x, g x)) = some (true, y)) (b : o.map (fun x => obB fa cs (frT n x.2)) = some true) (c : PartOk o n fn) :
    o.map (fun x => (f x, g x, obsMG n fa cs fn (HandSHeadRun.getT x.2))) = some (true, y, He.valD fn) := by
  obtain ⟨x, e, h1⟩ := Option.map_eq_some_iff.mp a
  unfold PartOk at c
  rw [e] at b c ⊢
  have h2 : obB fa cs (frT n x.2) = true := Option.some.inj b
  have h3 : obP fn (frT n x.2) = He.valD fn := Option.some.inj c
  have e0 : (f x, g x) = (true, y) := h1
  obtain ⟨e1, e2⟩ := Prod.mk.inj e0
  have e3 : (fn.all fun d => d.ok (frT n x.2) && (He.Fa.glo d.name).ok (frT n x.2)) = true := congrArg (fun z : He.AlD => z.1) h3
  have e4 : (fn.map fun d => He.fnW (frT n x.2) d.at_) = fn.map He.DefD.val := congrArg (fun z : He.AlD => z.2) h3
  show some (f x, g x, obsMG n fa cs fn (HandSHeadRun.getT x.2)) = _
  rw [e1, e2]
  congr 1
  refine Prod.ext rfl (Prod.ext rfl ?_)
  unfold obB at h2
  simp only [Bool.and_eq_true] at h2
  obtain ⟨b1, b2, b3, b4⟩ := h2
  refine Prod.ext ?_ e4
  show ((fa.all fun f => f.ok (frT n x.2)) && ((fn.all fun d => d.ok (frT n x.2) && (He.Fa.glo d.name).ok (frT n x.2)) && (cs.all (cnB (frT n x.2)) && (gcdB (frT n x.2) && sysB (frT n x.2))))) = true
  rw [b1, b2, b3, b4, e3]; rfl
end
/-- what the head is to show, of its parts -/
theorem run_joinI {r : PySem.W.OpenRow} {q : Program} {n M : Nat} {fa : List He.Fa} {cs : List (Str × PV)} {fn : List He.DefD} {loose : List Str} {w : World}
    (a : (HandSHeadRun.wholeF (fun p => HandSHeadRun.stepQ (HandSHeadRun.denQ HandSHeadRun.tabQ) p w) HandSHeadRun.fenceQ M r.prog).map (fun x => (HandSHeadRun.looksF r.prog x.1.heap x.2.abs, HandSHeadRun.seenQ q loose (importedModules r.prog.main.body) (fun s => PySem.W.xlAt q [] s && PySem.W.recOk r.toRowW.records s) x.2.abs)) = some (true, PySem.W.openGood q loose))
    (b : (HandSHeadRun.wholeF (fun p => HandSHeadRun.stepQ (HandSHeadRun.denQ HandSHeadRun.tabQ) p w) HandSHeadRun.fenceQ M r.prog).map (fun x => obB fa cs (frT n x.2)) = some true)
    (c : PartOk (HandSHeadRun.wholeF (fun p => HandSHeadRun.stepQ (HandSHeadRun.denQ HandSHeadRun.tabQ) p w) HandSHeadRun.fenceQ M r.prog) n fn) :
    HandSHeadRun.RunEqI r q (hookM n fa cs fn) (fun s => obsMG n fa cs fn (HandSHeadRun.getT s)) M loose w := run_join a b c
end MP

end
section
set_option Elab.async false
set_option linter.all false
set_option maxRecDepth 100000
set_option maxHeartbeats 4000000
/-! MP: what the small language does, step by step (plain Lean, no program in sight). -/
namespace MP
open PySem
/-- it comes through, with Q -/
def Ok {α : Type} (o : Option α) (Q : α → Prop) : Prop := ∃ a, o = some a ∧ Q a
section
variable {α β : Type} {o : Option α} {Q R : α → Prop}
@[simp] theorem ok_some {a : α} : Ok (some a) Q ↔ Q a := ⟨fun ⟨_, e, h⟩ => (Option.some.inj e) ▸ h, fun h => ⟨a, rfl, h⟩⟩
@[simp] theorem ok_none : Ok (none : Option α) Q ↔ False := ⟨fun ⟨_, e, _⟩ => (nomatch e), False.elim⟩
@[simp] theorem ok_bind {f : α → Option β} {Q : β → Prop} : Ok (o.bind f) Q ↔ Ok o (fun a => Ok (f a) Q) := by
  cases o with
  | none => simp
  | some a => simp
theorem Ok.mono (h : Ok o Q) (i : ∀ a, Q a → R a) : Ok o R := let ⟨a, e, q⟩ := h; ⟨a, e, i a q⟩
theorem Ok.eq {a : α} (h : Ok o (fun x => x = a)) : o = some a := let ⟨_, e, q⟩ := h; q ▸ e
theorem Ok.of_eq {a : α} (e : o = some a) (q : Q a) : Ok o Q := ⟨a, e, q⟩
@[simp] theorem ok_ite {c : Prop} [Decidable c] {a b : Option α} : Ok (if c then a else b) Q ↔ (c → Ok a Q) ∧ (¬ c → Ok b Q) := by
  by_cases h : c <;> simp [h]
theorem ok_cond {c : Bool} {a b : Option α} : Ok (bif c then a else b) Q ↔ (c = true → Ok a Q) ∧ (c = false → Ok b Q) := by
  cases c <;> simp
end
/-- behind a statement -/
def Sq (f : Sl → Sto → Prop) (Q : Fl → Prop) : Fl → Prop
  | .nx σ st => f σ st
  | .rt v st => Q (.rt v st)
  | .bk σ st => Q (.bk σ st)
  | .ct σ st => Q (.ct σ st)
section
variable {f : Sl → Sto → Prop} {Q : Fl → Prop} {σ : Sl} {st : Sto} {v : PV}
@[simp] theorem sq_nx : Sq f Q (.nx σ st) ↔ f σ st := Iff.rfl
@[simp] theorem sq_rt : Sq f Q (.rt v st) ↔ Q (.rt v st) := Iff.rfl
@[simp] theorem sq_bk : Sq f Q (.bk σ st) ↔ Q (.bk σ st) := Iff.rfl
@[simp] theorem sq_ct : Sq f Q (.ct σ st) ↔ Q (.ct σ st) := Iff.rfl
end
/-- a def's end -/
def Nd (L : Nat) (Q : PV × Sto → Prop) : Fl → Prop
  | .nx _ st => Q (fin L .non st)
  | .rt v st => Q (fin L v st)
  | .bk _ _ => False
  | .ct _ _ => False
@[simp] theorem nd_nx {L : Nat} {Q : PV × Sto → Prop} {σ : Sl} {st : Sto} : Nd L Q (.nx σ st) ↔ Q (fin L .non st) := Iff.rfl
@[simp] theorem nd_rt {L : Nat} {Q : PV × Sto → Prop} {v : PV} {st : Sto} : Nd L Q (.rt v st) ↔ Q (fin L v st) := Iff.rfl
/-- a loop's turn -/
def Tn (w : List (Nat × SO)) (f : Sl → Sto → Prop) (Q : Fl → Prop) : Fl → Prop
  | .nx σ st => Watch w st ∧ f σ st
  | .ct σ st => Watch w st ∧ f σ st
  | .bk σ st => Q (.nx σ st)
  | .rt v st => Q (.rt v st)
section
variable {w : List (Nat × SO)} {f : Sl → Sto → Prop} {Q : Fl → Prop} {σ : Sl} {st : Sto} {v : PV}
@[simp] theorem tn_nx : Tn w f Q (.nx σ st) ↔ Watch w st ∧ f σ st := Iff.rfl
@[simp] theorem tn_ct : Tn w f Q (.ct σ st) ↔ Watch w st ∧ f σ st := Iff.rfl
@[simp] theorem tn_bk : Tn w f Q (.bk σ st) ↔ Q (.nx σ st) := Iff.rfl
@[simp] theorem tn_rt : Tn w f Q (.rt v st) ↔ Q (.rt v st) := Iff.rfl
end
section
variable {Γ : Tab} {G : Nat → Option PV} {b : Nat} {σ : Sl} {st : Sto} {Q : PV × Sto → Prop}
variable {a c d e : CE} {as : CA}
@[simp] theorem e_var {i : Nat} : Ok (den Γ G (.var i) b σ st) Q ↔ Ok σ[i]? (fun o => Ok o (fun v => Q (v, st))) := by
  simp only [den]
  rcases h : σ[i]? with _ | _ | v <;> simp
@[simp] theorem e_non : Ok (den Γ G .non b σ st) Q ↔ Q (.non, st) := by simp only [den, ok_some]
@[simp] theorem e_bl {x : Bool} : Ok (den Γ G (.bl x) b σ st) Q ↔ Q (.bl x, st) := by simp only [den, ok_some]
@[simp] theorem e_int {i : Int} : Ok (den Γ G (.int i) b σ st) Q ↔ Q (.int i, st) := by simp only [den, ok_some]
@[simp] theorem e_str {s : Str} : Ok (den Γ G (.str s) b σ st) Q ↔ Q (.str s, st) := by simp only [den, ok_some]
@[simp] theorem e_glb {g : Nat} : Ok (den Γ G (.glb g) b σ st) Q ↔ Ok (G g) (fun v => Q (v, st)) := by simp only [den, ok_bind, ok_some]
@[simp] theorem e_bin {o : Op} : Ok (den Γ G (.bin o a c) b σ st) Q ↔ Ok (den Γ G a b σ st) (fun p => Ok (den Γ G c b σ p.2) (fun q => Ok (binop o p.1 q.1 q.2) Q)) := by simp only [den, ok_bind]
@[simp] theorem e_neg : Ok (den Γ G (.neg a) b σ st) Q ↔ Ok (den Γ G a b σ st) (fun p => Ok (intOf p.1) (fun i => Q (.int (-i), p.2))) := by simp only [den, ok_bind, ok_some]
@[simp] theorem e_not : Ok (den Γ G (.not a) b σ st) Q ↔ Ok (den Γ G a b σ st) (fun p => Ok (boolOf p.1) (fun t => Q (.bl (!t), p.2))) := by simp only [den, ok_bind, ok_some]
@[simp] theorem e_and : Ok (den Γ G (.and a c) b σ st) Q ↔ Ok (den Γ G a b σ st) (fun p => Ok (boolOf p.1) (fun t => (t = true → Ok (den Γ G c b σ p.2) Q) ∧ (t = false → Q (.bl false, p.2)))) := by simp [den]
@[simp] theorem e_or : Ok (den Γ G (.or a c) b σ st) Q ↔ Ok (den Γ G a b σ st) (fun p => Ok (boolOf p.1) (fun t => (t = true → Q (.bl true, p.2)) ∧ (t = false → Ok (den Γ G c b σ p.2) Q))) := by simp [den]
@[simp] theorem e_cmp {o : Cm} : Ok (den Γ G (.cmp o a c) b σ st) Q ↔ Ok (den Γ G a b σ st) (fun p => Ok (den Γ G c b σ p.2) (fun q => Ok (cmpop o p.1 q.1 q.2) (fun t => Q (.bl t, q.2)))) := by simp only [den, ok_bind, ok_some]
@[simp] theorem e_chain {o o' : Cm} : Ok (den Γ G (.chain o o' a c d) b σ st) Q ↔ Ok (den Γ G a b σ st) (fun p => Ok (den Γ G c b σ p.2) (fun q => Ok (cmpop o p.1 q.1 q.2) (fun t =>
    (t = true → Ok (den Γ G d b σ q.2) (fun r => Ok (cmpop o' q.1 r.1 r.2) (fun t' => Q (.bl t', r.2)))) ∧ (t = false → Q (.bl false, q.2))))) := by simp [den]
@[simp] theorem e_ite : Ok (den Γ G (.ite c a d) b σ st) Q ↔ Ok (den Γ G c b σ st) (fun p => Ok (boolOf p.1) (fun t => (t = true → Ok (den Γ G a b σ p.2) Q) ∧ (t = false → Ok (den Γ G d b σ p.2) Q))) := by simp [den]
@[simp] theorem e_tup : Ok (den Γ G (.tup as) b σ st) Q ↔ Ok (denA Γ G as b σ st) (fun p => p.1.length ≤ most ∧ Q (.tup p.1, p.2)) := by
  simp only [den, ok_bind]
  constructor <;> rintro ⟨p, e, h⟩ <;> refine ⟨p, e, ?_⟩
  · by_cases x : p.1.length ≤ most <;> simp_all
  · simp_all
@[simp] theorem e_lst : Ok (den Γ G (.lst as) b σ st) Q ↔ Ok (denA Γ G as b σ st) (fun p => p.1.length ≤ most ∧ Q (.ref p.2.length, p.2 ++ [.lst p.1])) := by
  simp only [den, ok_bind]
  constructor <;> rintro ⟨p, e, h⟩ <;> refine ⟨p, e, ?_⟩
  · by_cases x : p.1.length ≤ most <;> simp_all
  · simp_all
@[simp] theorem e_edict : Ok (den Γ G .edict b σ st) Q ↔ Q (.ref st.length, st ++ [.dct []]) := by simp only [den, ok_some]
@[simp] theorem e_idx : Ok (den Γ G (.idx a c) b σ st) Q ↔ Ok (den Γ G a b σ st) (fun p => Ok (den Γ G c b σ p.2) (fun q => Ok (intOf q.1) (fun i => Ok (seqOf p.1 q.2) (fun xs => Ok (L2.atI xs i) (fun v => Q (v, q.2)))))) := by simp only [den, ok_bind, ok_some]
@[simp] theorem e_sl {lo hi : CO} : Ok (den Γ G (.sl a lo hi) b σ st) Q ↔ Ok (den Γ G a b σ st) (fun p => Ok (denO Γ G lo b σ p.2) (fun q => Ok (denO Γ G hi b σ q.2) (fun r => Ok (slOp p.1 q.1 r.1 r.2) Q))) := by simp only [den, ok_bind]
@[simp] theorem e_call {j : Nat} : Ok (den Γ G (.call j as) b σ st) Q ↔ Ok (denA Γ G as b σ st) (fun p => Ok (Γ j p.1 p.2) Q) := by simp only [den, ok_bind]
@[simp] theorem e_callk {j : Nat} {perm : List Nat} : Ok (den Γ G (.callk j as perm) b σ st) Q ↔ Ok (denA Γ G as b σ st) (fun p => Ok (perm.mapM fun i => p.1[i]?) (fun vs => Ok (Γ j vs p.2) Q)) := by simp only [den, ok_bind]
@[simp] theorem e_blt {f : Bl} : Ok (den Γ G (.blt f as) b σ st) Q ↔ Ok (denA Γ G as b σ st) (fun p => Ok (blt f p.1 p.2) Q) := by simp only [den, ok_bind]
@[simp] theorem e_spc {f : Spc} : Ok (den Γ G (.spc f as) b σ st) Q ↔ Ok (denA Γ G as b σ st) (fun p => Ok (spc f p.1 p.2) Q) := by simp only [den, ok_bind]
@[simp] theorem e_isi {t : Ty} : Ok (den Γ G (.isi a t) b σ st) Q ↔ Ok (den Γ G a b σ st) (fun p => Ok (isi p.1 t p.2) (fun c => Q (.bl c, p.2))) := by simp only [den, ok_bind, ok_some]
@[simp] theorem e_gc : Ok (den Γ G (.gc a) b σ st) Q ↔ Ok (den Γ G a st.length σ st) (fun p => Q (fin st.length p.1 p.2)) := by simp only [den, ok_bind, ok_some]
@[simp] theorem a_nil {Q : List PV × Sto → Prop} : Ok (denA Γ G .nil b σ st) Q ↔ Q ([], st) := by simp only [denA, ok_some]
@[simp] theorem a_cons {Q : List PV × Sto → Prop} : Ok (denA Γ G (.cons a as) b σ st) Q ↔ Ok (den Γ G a b σ st) (fun p => Ok (denA Γ G as b σ p.2) (fun q => Q (p.1 :: q.1, q.2))) := by simp only [denA, ok_bind, ok_some]
@[simp] theorem f_nil {Q : Bool × Sto → Prop} : Ok (denF Γ G .nil b σ st) Q ↔ Q (true, st) := by simp only [denF, ok_some]
@[simp] theorem f_cons {Q : Bool × Sto → Prop} : Ok (denF Γ G (.cons a as) b σ st) Q ↔ Ok (den Γ G a b σ st) (fun p => Ok (boolOf p.1) (fun t => (t = true → Ok (denF Γ G as b σ p.2) Q) ∧ (t = false → Q (false, p.2)))) := by simp [denF]
@[simp] theorem o_no {Q : Option Int × Sto → Prop} : Ok (denO Γ G .no b σ st) Q ↔ Q (none, st) := by simp only [denO, ok_some]
@[simp] theorem o_yes {Q : Option Int × Sto → Prop} : Ok (denO Γ G (.yes a) b σ st) Q ↔ Ok (den Γ G a b σ st) (fun p => Ok (intOf p.1) (fun i => Q (some i, p.2))) := by simp only [denO, ok_bind, ok_some]
section
variable {Q : List PV × List (Nat × SO) × Sto → Prop}
@[simp] theorem wi_seq : Ok (denI Γ G (.seq a) b σ st) Q ↔ Ok (den Γ G a b σ st) (fun p => Ok (items p.1 p.2) (fun q => Q (q.1, q.2, p.2))) := by simp only [denI, ok_bind, ok_some]
@[simp] theorem wi_rng1 : Ok (denI Γ G (.rng1 a) b σ st) Q ↔ Ok (den Γ G a b σ st) (fun p => Ok (intOf p.1) (fun n => (-(most : Int) ≤ n ∧ n ≤ most) ∧ Q (counted 0 n.toNat, [], p.2))) := by
  simp only [denI, ok_bind]
  constructor <;> rintro ⟨p, e, ⟨n, e2, h⟩⟩ <;> refine ⟨p, e, n, e2, ?_⟩
  · by_cases x : -(most : Int) ≤ n ∧ n ≤ most
    · rw [if_pos x] at h; simp at h; exact ⟨x, h⟩
    · rw [if_neg x] at h; simp at h
  · show Ok (if _ then _ else _) Q
    rw [if_pos h.1]; simpa using h.2
@[simp] theorem wi_rng2 : Ok (denI Γ G (.rng2 a c) b σ st) Q ↔ Ok (den Γ G a b σ st) (fun p => Ok (den Γ G c b σ p.2) (fun q => Ok (intOf p.1) (fun lo => Ok (intOf q.1) (fun hi =>
    (-(most : Int) ≤ lo ∧ lo ≤ most ∧ -(most : Int) ≤ hi ∧ hi ≤ most) ∧ Q (counted lo (hi - lo).toNat, [], q.2))))) := by
  simp only [denI, ok_bind]
  constructor <;> rintro ⟨p, e, q, e', lo, e2, hi, e3, h⟩ <;> refine ⟨p, e, q, e', lo, e2, hi, e3, ?_⟩
  · by_cases x : -(most : Int) ≤ lo ∧ lo ≤ most ∧ -(most : Int) ≤ hi ∧ hi ≤ most
    · rw [if_pos x] at h; simp at h; exact ⟨x, h⟩
    · rw [if_neg x] at h; simp at h
  · show Ok (if _ then _ else _) Q
    rw [if_pos h.1]; simpa using h.2
@[simp] theorem wi_enum : Ok (denI Γ G (.enum a) b σ st) Q ↔ Ok (den Γ G a b σ st) (fun p => Ok (items p.1 p.2) (fun q => Q (numbered 0 q.1, q.2, p.2))) := by simp only [denI, ok_bind, ok_some]
@[simp] theorem wi_zip : Ok (denI Γ G (.zip a c) b σ st) Q ↔ Ok (den Γ G a b σ st) (fun p => Ok (den Γ G c b σ p.2) (fun q => Ok (items p.1 q.2) (fun x => Ok (items q.1 q.2) (fun y => (!isTupV p.1 || isTupV q.1) = true ∧ Q (paired x.1 y.1, x.2 ++ y.2, q.2))))) := by
  simp only [denI, ok_bind]
  constructor <;> rintro ⟨p, e, q, e', x, e2, y, e3, h⟩ <;> refine ⟨p, e, q, e', x, e2, y, e3, ?_⟩
  · by_cases z : (!isTupV p.1 || isTupV q.1) = true
    · rw [if_pos z] at h; simp at h; exact ⟨z, h⟩
    · rw [if_neg z] at h; simp at h
  · show Ok (if _ then _ else _) Q
    rw [if_pos h.1]; simpa using h.2
end
section
variable {Q : Sl × Sto → Prop} {v : PV} {vs : List PV} {t : CT} {ts : CTs}
@[simp] theorem t_name {i : Nat} : Ok (asg Γ G (.name i) b v σ st) Q ↔ i < σ.length ∧ Q (σ.set i (some v), st) := by
  simp only [asg]
  by_cases x : i < σ.length <;> simp [x]
@[simp] theorem t_tup {xs : List PV} : Ok (asg Γ G (.tup ts) b (.tup xs) σ st) Q ↔ Ok (asgs Γ G ts b xs σ st) Q := by simp only [asg]
@[simp] theorem t_lst {n : Nat} : Ok (asg Γ G (.tup ts) b (.ref n) σ st) Q ↔ Ok (lstOf (.ref n) st) (fun xs => Ok (asgs Γ G ts b xs σ st) Q) := by
  simp only [asg, lstOf]
  split <;> simp
/-- o[i] = v of a list -/
def put1 (b n : Nat) (k : Int) (v : PV) (st : Sto) : Option Sto :=
  match st[n]? with
  | some (.lst xs) => (L2.ixN xs.length k).bind fun j => if mayPut b n v then some (st.set n (.lst (xs.set j v))) else none
  | _ => none
@[simp] theorem t_sub : Ok (asg Γ G (.sub a c) b v σ st) Q ↔ Ok (den Γ G a b σ st) (fun p => Ok (den Γ G c b σ p.2) (fun q => ∃ n k, p.1 = .ref n ∧ q.1 = .int k ∧ Ok (put1 b n k v q.2) (fun s => Q (σ, s)))) := by
  simp only [asg, ok_bind]
  constructor <;> rintro ⟨p, e, q, e', h⟩ <;> refine ⟨p, e, q, e', ?_⟩
  · obtain ⟨p1, p2⟩ := p
    obtain ⟨q1, q2⟩ := q
    cases p1 <;> cases q1 <;> simp only [ok_none] at h
    rename_i n k
    refine ⟨n, k, rfl, rfl, ?_⟩
    simp only [put1]
    split at h
    · rename_i xs hx
      try rw [hx]
      simp only [ok_bind] at h ⊢
      obtain ⟨j, ej, h⟩ := h
      refine ⟨j, ej, ?_⟩
      by_cases m : mayPut b n v = true
      · rw [if_pos m] at h ⊢; simpa using h
      · rw [if_neg m] at h; simp at h
    · simp at h
  · obtain ⟨n, k, h1, h2, h⟩ := h
    obtain ⟨p1, p2⟩ := p
    obtain ⟨q1, q2⟩ := q
    simp only at h1 h2
    subst h1; subst h2
    simp only [put1] at h ⊢
    split at h
    · rename_i xs hx
      try rw [hx]
      rw [ok_bind] at h
      simp only [ok_bind]
      obtain ⟨j, ej, h⟩ := h
      refine ⟨j, ej, ?_⟩
      by_cases m : mayPut b n v = true
      · rw [if_pos m] at h ⊢; simpa using h
      · rw [if_neg m] at h; simp at h
    · simp at h
@[simp] theorem ts_nil : Ok (asgs Γ G .nil b vs σ st) Q ↔ vs = [] ∧ Q (σ, st) := by
  cases vs <;> simp [asgs]
@[simp] theorem ts_cons {v : PV} {vs : List PV} : Ok (asgs Γ G (.cons t ts) b (v :: vs) σ st) Q ↔ Ok (asg Γ G t b v σ st) (fun p => Ok (asgs Γ G ts b vs p.1 p.2) Q) := by simp only [asgs, ok_bind]
end
end
/-- a comprehension's turn -/
noncomputable def lcS (Γ : Tab) (G : Nat → Option PV) (e : CE) (t : CT) (ifs : CA) (own : List Nat) (b : Nat) (σ : Sl) (n : Nat) (x : PV) (s : Sto) : Option Sto :=
  (asg Γ G t b x (wipeS σ own) s).bind fun q => (denF Γ G ifs b q.1 q.2).bind fun r =>
    if r.1 then (den Γ G e b q.1 r.2).bind fun u => if mayPut b n u.1 then push n u.1 u.2 else none else some r.2
/-- .. of two walks -/
noncomputable def lcS1 (Γ : Tab) (G : Nat → Option PV) (e : CE) (t1 : CT) (ifs1 : CA) (b : Nat) (σ : Sl) (n : Nat) (x1 : PV) (s1 : Sto) : Option Sto :=
  (asg Γ G t1 b x1 (wipeS σ t1.slots) s1).bind fun q1 => (denF Γ G ifs1 b q1.1 q1.2).bind fun r1 =>
    if r1.1 then (den Γ G e b q1.1 r1.2).bind fun u => if mayPut b n u.1 then push n u.1 u.2 else none else some r1.2
noncomputable def lcS2 (Γ : Tab) (G : Nat → Option PV) (e : CE) (t : CT) (ifs : CA) (t1 : CT) (it1 : CI) (ifs1 : CA) (own : List Nat) (b : Nat) (σ : Sl) (n : Nat) (w : List (Nat × SO)) (x : PV) (s : Sto) : Option Sto :=
  (asg Γ G t b x (wipeS σ own) s).bind fun q => (denF Γ G ifs b q.1 q.2).bind fun r =>
    if r.1 then (denI Γ G it1 b q.1 r.2).bind fun p1 => lcL (p1.2.1 ++ w) (lcS1 Γ G e t1 ifs1 b q.1 n) p1.1 p1.2.2 else some r.2
/-- a for's turn -/
noncomputable def lpS (Γ : Tab) (G : Nat → Option PV) (t : CT) (body : CB) (b : Nat) (x : PV) (σ : Sl) (s : Sto) : Option Fl :=
  (asg Γ G t b x σ s).bind fun q => denB Γ G body b q.1 q.2
/-- a while's test, its turn -/
noncomputable def whT (Γ : Tab) (G : Nat → Option PV) (c : CE) (b : Nat) (σ : Sl) (s : Sto) : Option (Bool × Sto) :=
  (den Γ G c b σ s).bind fun p => (boolOf p.1).bind fun t => some (t, p.2)
section
variable {Γ : Tab} {G : Nat → Option PV} {b : Nat} {σ : Sl} {st : Sto}
@[simp] theorem e_lc {e : CE} {t : CT} {it : CI} {ifs : CA} {own : List Nat} {Q : PV × Sto → Prop} : Ok (den Γ G (.lc e t it ifs own) b σ st) Q ↔ Ok (denI Γ G it b σ st) (fun p => Ok (lcL p.2.1 (lcS Γ G e t ifs own b σ p.2.2.length) p.1 (p.2.2 ++ [.lst []])) (fun s => Q (.ref p.2.2.length, s))) := by
  simp only [den, ok_bind, ok_some]
  rfl
@[simp] theorem e_lc2 {e : CE} {t : CT} {it : CI} {ifs : CA} {t1 : CT} {it1 : CI} {ifs1 : CA} {own : List Nat} {Q : PV × Sto → Prop} : Ok (den Γ G (.lc2 e t it ifs t1 it1 ifs1 own) b σ st) Q ↔
    Ok (denI Γ G it b σ st) (fun p => Ok (lcL p.2.1 (lcS2 Γ G e t ifs t1 it1 ifs1 own b σ p.2.2.length p.2.1) p.1 (p.2.2 ++ [.lst []])) (fun s => Q (.ref p.2.2.length, s))) := by
  simp only [den, ok_bind, ok_some]
  rfl
variable {Q : Fl → Prop}
@[simp] theorem s_asg {t : CT} {e : CE} : Ok (denS Γ G (.asg t e) b σ st) Q ↔ Ok (den Γ G e b σ st) (fun p => Ok (asg Γ G t b p.1 σ p.2) (fun q => Q (.nx q.1 q.2))) := by simp only [denS, ok_bind, ok_some]
@[simp] theorem s_par {is : List Nat} {as : CA} : Ok (denS Γ G (.par is as) b σ st) Q ↔ Ok (denA Γ G as b σ st) (fun p => Ok (setAll is p.1 σ) (fun s => Q (.nx s p.2))) := by simp only [denS, ok_bind, ok_some]
@[simp] theorem s_ret {e : CE} : Ok (denS Γ G (.ret e) b σ st) Q ↔ Ok (den Γ G e b σ st) (fun p => Q (.rt p.1 p.2)) := by simp only [denS, ok_bind, ok_some]
@[simp] theorem s_retN : Ok (denS Γ G .retN b σ st) Q ↔ Q (.rt .non st) := by simp only [denS, ok_some]
@[simp] theorem s_expr {e : CE} : Ok (denS Γ G (.expr e) b σ st) Q ↔ Ok (den Γ G e b σ st) (fun p => Q (.nx σ p.2)) := by simp only [denS, ok_bind, ok_some]
/-- o.append(v) -/
def app1 (b n : Nat) (v : PV) (st : Sto) : Option Sto := if mayPut b n v then push n v st else none
@[simp] theorem s_app {o e : CE} : Ok (denS Γ G (.app o e) b σ st) Q ↔ Ok (den Γ G o b σ st) (fun p => Ok (lstOf p.1 p.2) (fun _ => Ok (den Γ G e b σ p.2) (fun q => ∃ n, p.1 = .ref n ∧ Ok (app1 b n q.1 q.2) (fun s => Q (.nx σ s))))) := by
  simp only [denS, ok_bind]
  constructor <;> rintro ⟨p, e1, x, e2, q, e3, h⟩ <;> refine ⟨p, e1, x, e2, q, e3, ?_⟩
  · obtain ⟨p1, p2⟩ := p
    cases p1 <;> simp only [ok_none] at h
    rename_i n
    refine ⟨n, rfl, ?_⟩
    unfold app1
    by_cases m : mayPut b n q.1 = true
    · rw [if_pos m] at h ⊢; simpa using h
    · rw [if_neg m] at h; simp at h
  · obtain ⟨n, h1, h⟩ := h
    obtain ⟨p1, p2⟩ := p
    simp only at h1
    subst h1
    unfold app1 at h
    simp only
    by_cases m : mayPut b n q.1 = true
    · rw [if_pos m] at h ⊢; simpa using h
    · rw [if_neg m] at h; simp at h
/-- o.extend(ys) -/
def ext1 (b n : Nat) (ys : List PV) (st : Sto) : Option Sto :=
  match st[n]? with
  | some (.lst xs) => if (b ≤ n || PV.ltA 0 ys) && decide (xs.length + ys.length ≤ most) then some (st.set n (.lst (xs ++ ys))) else none
  | _ => none
@[simp] theorem s_ext {o e : CE} : Ok (denS Γ G (.ext o e) b σ st) Q ↔ Ok (den Γ G o b σ st) (fun p => Ok (lstOf p.1 p.2) (fun _ => Ok (den Γ G e b σ p.2) (fun q => Ok (lstOf q.1 q.2) (fun ys => ∃ n, p.1 = .ref n ∧ Ok (ext1 b n ys q.2) (fun s => Q (.nx σ s)))))) := by
  simp only [denS, ok_bind]
  constructor <;> rintro ⟨p, e1, x, e2, q, e3, ys, e4, h⟩ <;> refine ⟨p, e1, x, e2, q, e3, ys, e4, ?_⟩
  · obtain ⟨p1, p2⟩ := p
    cases p1 <;> simp only [ok_none] at h
    rename_i n
    refine ⟨n, rfl, ?_⟩
    unfold ext1
    split at h
    · rename_i xs hx
      try rw [hx]
      try simp only
      split at h
      · rename_i hc
        rw [if_pos hc]; simpa using h
      · simp at h
    · simp at h
  · obtain ⟨n, h1, h⟩ := h
    obtain ⟨p1, p2⟩ := p
    simp only at h1
    subst h1
    unfold ext1 at h
    simp only
    split at h
    · rename_i xs hx
      try rw [hx]
      try simp only
      split at h
      · rename_i hc
        rw [if_pos hc]; simpa using h
      · simp at h
    · simp at h
@[simp] theorem s_ite {c : CE} {x y : CB} : Ok (denS Γ G (.ite c x y) b σ st) Q ↔ Ok (den Γ G c b σ st) (fun p => Ok (boolOf p.1) (fun t => (t = true → Ok (denB Γ G x b σ p.2) Q) ∧ (t = false → Ok (denB Γ G y b σ p.2) Q))) := by simp [denS]
@[simp] theorem s_loop {t : CT} {it : CI} {body : CB} : Ok (denS Γ G (.loop t it body) b σ st) Q ↔ Ok (denI Γ G it b σ st) (fun p => Ok (forL p.2.1 (lpS Γ G t body b) p.1 σ p.2.2) Q) := by
  simp only [denS, ok_bind]
  rfl
@[simp] theorem s_whl {c : CE} {body : CB} : Ok (denS Γ G (.whl c body) b σ st) Q ↔ Ok (whileD (whT Γ G c b) (denB Γ G body b) σ st) Q := by
  simp only [denS]
  rfl
@[simp] theorem s_pass : Ok (denS Γ G .pass b σ st) Q ↔ Q (.nx σ st) := by simp only [denS, ok_some]
@[simp] theorem s_brk : Ok (denS Γ G .brk b σ st) Q ↔ Q (.bk σ st) := by simp only [denS, ok_some]
@[simp] theorem s_cnt : Ok (denS Γ G .cnt b σ st) Q ↔ Q (.ct σ st) := by simp only [denS, ok_some]
@[simp] theorem s_nev : Ok (denS Γ G .nev b σ st) Q ↔ False := by simp only [denS, ok_none]
@[simp] theorem b_nil : Ok (denB Γ G .nil b σ st) Q ↔ Q (.nx σ st) := by simp only [denB, ok_some]
/-- what is left to do -/
def Rest (Γ : Tab) (G : Nat → Option PV) (r : CB) (b : Nat) (Q : Fl → Prop) (σ : Sl) (st : Sto) : Prop := Ok (denB Γ G r b σ st) Q
theorem rest_at {r : CB} : Rest Γ G r b Q σ st ↔ Ok (denB Γ G r b σ st) Q := Iff.rfl
@[simp] theorem rest_nil : Rest Γ G .nil b Q σ st ↔ Q (.nx σ st) := by
  unfold Rest
  exact b_nil
@[simp] theorem b_cons {s : CS} {r : CB} : Ok (denB Γ G (.cons s r) b σ st) Q ↔ Ok (denS Γ G s b σ st) (Sq (Rest Γ G r b Q) Q) := by
  simp only [denB, ok_bind]
  constructor <;> rintro ⟨f, e, h⟩ <;> refine ⟨f, e, ?_⟩ <;> cases f <;> simpa [Sq, rest_at] using h
end
section
variable {Γ : Tab} {G : Nat → Option PV}
theorem run_of {d : CD} {args : List PV} {st : Sto} {Q : PV × Sto → Prop} (hl : args.length = d.pars) (h : Ok (denB Γ G d.body st.length (args.map some ++ List.replicate (d.slots - d.pars) none) st) (Nd st.length Q)) : Ok (runD Γ G d args st) Q := by
  unfold runD
  rw [if_pos hl, ok_bind]
  refine h.mono fun f hf => ?_
  cases f with
  | nx σ' st' => simpa using hf
  | rt v st' => simpa using hf
  | bk σ' st' => exact False.elim hf
  | ct σ' st' => exact False.elim hf
end
/-! ### loops -/
open Classical in
theorem for_rule {w : List (Nat × SO)} {step : PV → Sl → Sto → Option Fl} {Q : Fl → Prop} (I : Nat → Sl → Sto → Prop) : ∀ {xs : List PV} {k : Nat} {σ : Sl} {st : Sto}, I k σ st →
    (∀ (i : Nat) x σ st, xs[i]? = some x → I (k + i) σ st → Ok (step x σ st) (Tn w (I (k + i + 1)) Q)) → (∀ σ st, I (k + xs.length) σ st → Q (.nx σ st)) → Ok (forL w step xs σ st) Q
  | [], k, σ, st, h0, _, he => by simpa [forL] using he σ st h0
  | x :: xs, k, σ, st, h0, hs, he => by
    simp only [forL, ok_bind]
    refine (hs 0 x σ st rfl h0).mono fun f hf => ?_
    have next : ∀ σ' st', Watch w st' ∧ I (k + 1) σ' st' → Ok (if Watch w st' then forL w step xs σ' st' else none) Q := fun σ' st' ⟨hw, hi⟩ => by
      rw [if_pos hw]
      exact for_rule I hi (fun i y σ st hy hI => by
        have := hs (i + 1) y σ st hy (by rwa [show k + (i + 1) = k + 1 + i by omega])
        rwa [show k + (i + 1) + 1 = k + 1 + i + 1 by omega] at this) fun σ st hI => he σ st (by rwa [List.length_cons, show k + (xs.length + 1) = k + 1 + xs.length by omega])
    cases f with
    | nx σ' st' => exact next σ' st' hf
    | ct σ' st' => exact next σ' st' hf
    | bk σ' st' => simpa using hf
    | rt v st' => simpa using hf
open Classical in
theorem lc_rule {w : List (Nat × SO)} {step : PV → Sto → Option Sto} {Q : Sto → Prop} (I : Nat → Sto → Prop) : ∀ {xs : List PV} {k : Nat} {st : Sto}, I k st →
    (∀ (i : Nat) x st, xs[i]? = some x → I (k + i) st → Ok (step x st) (fun s => Watch w s ∧ I (k + i + 1) s)) → (∀ st, I (k + xs.length) st → Q st) → Ok (lcL w step xs st) Q
  | [], k, st, h0, _, he => by simpa [lcL] using he st h0
  | x :: xs, k, st, h0, hs, he => by
    simp only [lcL, ok_bind]
    refine (hs 0 x st rfl h0).mono fun s ⟨hw, hi⟩ => ?_
    rw [if_pos hw]
    exact lc_rule I hi (fun i y st hy hI => by
      have := hs (i + 1) y st hy (by rwa [show k + (i + 1) = k + 1 + i by omega])
      rwa [show k + (i + 1) + 1 = k + 1 + i + 1 by omega] at this) fun st hI => he st (by rwa [List.length_cons, show k + (xs.length + 1) = k + 1 + xs.length by omega])
theorem whileN_det {test : Sl → Sto → Option (Bool × Sto)} {body : Sl → Sto → Option Fl} : ∀ {n m : Nat} {σ : Sl} {st : Sto} {f g : Fl}, whileN test body n σ st = some f → whileN test body m σ st = some g → f = g
  | 0, _, _, _, _, _, h, _ => by cases h
  | _ + 1, 0, _, _, _, _, _, h => by cases h
  | n + 1, m + 1, σ, st, f, g, h1, h2 => by
    simp only [whileN, Option.bind_eq_some_iff] at h1 h2
    obtain ⟨⟨t, s⟩, e1, h1⟩ := h1
    obtain ⟨⟨t', s'⟩, e2, h2⟩ := h2
    rw [e1] at e2; cases e2
    cases t with
    | false => simp at h1 h2; rw [← h1, ← h2]
    | true =>
      simp only [if_true, Option.bind_eq_some_iff] at h1 h2
      obtain ⟨x, e3, h1⟩ := h1
      obtain ⟨y, e4, h2⟩ := h2
      rw [e3] at e4; cases e4
      cases x with
      | nx σ' st' => exact whileN_det h1 h2
      | ct σ' st' => exact whileN_det h1 h2
      | bk σ' st' => simp at h1 h2; rw [← h1, ← h2]
      | rt v st' => simp at h1 h2; rw [← h1, ← h2]
theorem whileD_eq {test : Sl → Sto → Option (Bool × Sto)} {body : Sl → Sto → Option Fl} {n : Nat} {σ : Sl} {st : Sto} {f : Fl} (h : whileN test body n σ st = some f) : whileD test body σ st = some f := by
  unfold whileD
  have hx : ∃ k f, whileN test body k σ st = some f := ⟨n, f, h⟩
  rw [dif_pos hx]
  exact congrArg some (whileN_det hx.choose_spec.choose_spec h)
/-- a while: I at each turn, with a measure -/
theorem while_rule {test : Sl → Sto → Option (Bool × Sto)} {body : Sl → Sto → Option Fl} {Q : Fl → Prop} (I : Nat → Sl → Sto → Prop)
    (hs : ∀ m σ st, I m σ st → Ok (test σ st) (fun p => (p.1 = true → Ok (body σ p.2) (fun f => match f with
      | .nx σ' st' => ∃ k, k < m ∧ I k σ' st'
      | .ct σ' st' => ∃ k, k < m ∧ I k σ' st'
      | .bk σ' st' => Q (.nx σ' st')
      | .rt v st' => Q (.rt v st'))) ∧ (p.1 = false → Q (.nx σ p.2)))) {m : Nat} {σ : Sl} {st : Sto} (h0 : I m σ st) : Ok (whileD test body σ st) Q := by
  have main : ∀ m σ st, I m σ st → ∃ n f, whileN test body n σ st = some f ∧ Q f := by
    intro m
    induction m using Nat.strongRecOn with
    | ind m ih =>
      intro σ st h0
      obtain ⟨⟨t, s⟩, e1, h1, h2⟩ := hs m σ st h0
      cases t with
      | false => exact ⟨1, .nx σ s, by simp [whileN, e1], h2 rfl⟩
      | true =>
        obtain ⟨f, e2, hf⟩ := h1 rfl
        simp only at e2
        cases f with
        | nx σ' st' =>
          obtain ⟨k, hk, hI⟩ := hf
          obtain ⟨n, f, e3, hq⟩ := ih k hk σ' st' hI
          exact ⟨n + 1, f, by simp [whileN, e1, e2, e3], hq⟩
        | ct σ' st' =>
          obtain ⟨k, hk, hI⟩ := hf
          obtain ⟨n, f, e3, hq⟩ := ih k hk σ' st' hI
          exact ⟨n + 1, f, by simp [whileN, e1, e2, e3], hq⟩
        | bk σ' st' => exact ⟨1, .nx σ' st', by simp [whileN, e1, e2], hf⟩
        | rt v st' => exact ⟨1, .rt v st', by simp [whileN, e1, e2], hf⟩
  obtain ⟨n, f, e, hq⟩ := main m σ st h0
  exact ⟨f, whileD_eq e, hq⟩
end MP

end
section
set_option Elab.async false
set_option linter.all false
set_option maxRecDepth 100000
set_option maxHeartbeats 4000000
/-! MP: operators and built-ins on known values. -/
namespace MP
open PySem
@[simp] theorem most_eq : most = 1000000 := rfl
@[simp] theorem boolOf_bl {b : Bool} : boolOf (.bl b) = some b := rfl
@[simp] theorem intOf_int {i : Int} : intOf (.int i) = some i := rfl
theorem ok_guard {α : Type} {c : Prop} {inst : Decidable c} {a : α} {Q : α → Prop} : Ok (@ite _ c inst (some a) none) Q ↔ c ∧ Q a := by
  by_cases h : c
  · rw [if_pos h]; simp [h]
  · rw [if_neg h]; simp [h]
section
variable {st : Sto} {i j : Int} {xs ys : List PV} {n m : Nat} {Q : PV × Sto → Prop}
@[simp] theorem bin_add : binop .add (.int i) (.int j) st = some (.int (i + j), st) := rfl
@[simp] theorem bin_sub : binop .sub (.int i) (.int j) st = some (.int (i - j), st) := rfl
@[simp] theorem bin_mul : Ok (binop .mul (.int i) (.int j) st) Q ↔ L2.CMulW i j ∧ Q (.int (i * j), st) := ok_guard
@[simp] theorem bin_fdiv : Ok (binop .fdiv (.int i) (.int j) st) Q ↔ L2.CDivW i j ∧ Q (.int (i / j), st) := ok_guard
@[simp] theorem bin_mod : Ok (binop .mod (.int i) (.int j) st) Q ↔ j ≠ 0 ∧ Q (.int (i.fmod j), st) := ok_guard
@[simp] theorem bin_pow : Ok (binop .pow (.int i) (.int j) st) Q ↔ L2.CPow i j ∧ Q (.int (i ^ j.toNat), st) := ok_guard
@[simp] theorem bin_addT : Ok (binop .add (.tup xs) (.tup ys) st) Q ↔ (xs.length ≤ 1000000 ∧ ys.length ≤ 1000000) ∧ Q (.tup (xs ++ ys), st) := ok_guard
@[simp] theorem bin_mulT : Ok (binop .mul (.tup xs) (.int i) st) Q ↔ (xs ≠ [] ∧ 1 ≤ i ∧ i ≤ 1000 ∧ xs.length ≤ 1000) ∧ Q (.tup (List.replicate i.toNat xs).flatten, st) := ok_guard
@[simp] theorem bin_addL : Ok (binop .add (.ref n) (.ref m) st) Q ↔ Ok (lstOf (.ref n) st) (fun xs => Ok (lstOf (.ref m) st) (fun ys => (xs.length ≤ 1000000 ∧ ys.length ≤ 1000000) ∧ Q (.ref st.length, st ++ [.lst (xs ++ ys)]))) := by
  show Ok (match st[n]?, st[m]? with | some (.lst xs), some (.lst ys) => _ | _, _ => none) Q ↔ _
  simp only [lstOf]
  rcases h1 : st[n]? with _ | ⟨xs⟩ | ⟨xs⟩ | ⟨xs⟩ <;> rcases h2 : st[m]? with _ | ⟨ys⟩ | ⟨ys⟩ | ⟨ys⟩ <;> simp only [ok_none, ok_some]
  exact ok_guard
@[simp] theorem bin_mulL : Ok (binop .mul (.ref n) (.int i) st) Q ↔ Ok (lstOf (.ref n) st) (fun xs => (xs.length * i.toNat ≤ 1000000 ∧ -1000000 ≤ i ∧ i ≤ 1000000) ∧ Q (.ref st.length, st ++ [.lst (List.replicate i.toNat xs).flatten])) := by
  show Ok (match st[n]? with | some (.lst xs) => _ | _ => none) Q ↔ _
  simp only [lstOf]
  rcases h1 : st[n]? with _ | ⟨xs⟩ | ⟨xs⟩ | ⟨xs⟩ <;> simp only [ok_none, ok_some]
  exact ok_guard
@[simp] theorem cm_lt : cmpop .lt (.int i) (.int j) st = some (decide (i < j)) := rfl
@[simp] theorem cm_le : cmpop .le (.int i) (.int j) st = some (decide (i ≤ j)) := rfl
@[simp] theorem cm_gt : cmpop .gt (.int i) (.int j) st = some (decide (j < i)) := rfl
@[simp] theorem cm_ge : cmpop .ge (.int i) (.int j) st = some (decide (j ≤ i)) := rfl
@[simp] theorem cm_is {x : PV} : cmpop .isN x .non st = some (isNon x) := rfl
@[simp] theorem cm_not {x : PV} : cmpop .notN x .non st = some (!isNon x) := rfl
theorem toD_int {k : Nat} : toD st (k + 1) (.int i) = some (.int i) := by unfold toD; rfl
theorem toD_str {k : Nat} {s : Str} : toD st (k + 1) (.str s) = some (.str s) := by unfold toD; rfl
theorem toD_bl {k : Nat} {b : Bool} : toD st (k + 1) (.bl b) = some (.bool b) := by unfold toD; rfl
theorem toD_non {k : Nat} : toD st (k + 1) .non = some .none := by unfold toD; rfl
theorem toD_tup {k : Nat} : toD st (k + 1) (.tup xs) = (xs.mapM (toD st k)).map .tuple := by rw [toD]
@[simp] theorem cm_eqI : cmpop .eq (.int i) (.int j) st = some (decide (i = j)) := by
  have e1 : toD st deep (.int i) = some (.int i) := toD_int
  have e2 : toD st deep (.int j) = some (.int j) := toD_int
  simp only [cmpop, e1, e2]
  simp [SeqAt.shaped, PyData.eqv, PyData.canLay0, PyData.depth]
  first | done | (cases h : decide (i = j) <;> simp_all)
@[simp] theorem cm_neI : cmpop .ne (.int i) (.int j) st = some (!decide (i = j)) := by
  have e1 : toD st deep (.int i) = some (.int i) := toD_int
  have e2 : toD st deep (.int j) = some (.int j) := toD_int
  simp only [cmpop, e1, e2]
  simp [SeqAt.shaped, PyData.eqv, PyData.canLay0, PyData.depth]
  first | done | (cases h : decide (i = j) <;> simp_all)
@[simp] theorem blt_len {v : PV} : blt .len [v] st = (seqOf v st).bind fun xs => some (.int xs.length, st) := rfl
@[simp] theorem blt_abs : blt .abs [.int i] st = some (.int (if i < 0 then -i else i), st) := rfl
@[simp] theorem blt_max : blt .max2 [.int i, .int j] st = some (.int (if j > i then j else i), st) := rfl
@[simp] theorem blt_int : blt .int1 [.int i] st = some (.int i, st) := rfl
@[simp] theorem blt_gcd : blt .gcd [.int i, .int j] st = some (.int (Int.gcd i j), st) := rfl
@[simp] theorem blt_divmod : Ok (blt .divmod [.int i, .int j] st) Q ↔ L2.CDivW i j ∧ Q (.tup [.int (i / j), .int (i % j)], st) := ok_guard
@[simp] theorem blt_list {v : PV} : blt .list1 [v] st = (seqOf v st).bind fun xs => some (.ref st.length, st ++ [.lst xs]) := rfl
@[simp] theorem blt_tuple {v : PV} : blt .tuple1 [v] st = (seqOf v st).bind fun xs => some (.tup xs, st) := rfl
@[simp] theorem blt_all {v : PV} : blt .all1 [v] st = ((lstOf v st).bind bools?).bind fun bs => some (.bl (bs.all id), st) := rfl
@[simp] theorem blt_any {v : PV} : blt .any1 [v] st = ((lstOf v st).bind bools?).bind fun bs => some (.bl (bs.any id), st) := rfl
@[simp] theorem spc_rng1 : Ok (spc .lrng1 [.int j] st) Q ↔ (-1000000 ≤ j ∧ j ≤ 1000000) ∧ Q (.ref st.length, st ++ [.lst (counted 0 j.toNat)]) := ok_guard
@[simp] theorem spc_rng2 : Ok (spc .lrng2 [.int i, .int j] st) Q ↔ (-1000000 ≤ i ∧ i ≤ 1000000 ∧ -1000000 ≤ j ∧ j ≤ 1000000) ∧ Q (.ref st.length, st ++ [.lst (counted i (j - i).toNat)]) := ok_guard
@[simp] theorem spc_zip {a c : PV} : spc .lzip [a, c] st = (lstOf a st).bind fun xs => (lstOf c st).bind fun ys => some (.ref st.length, st ++ [.lst (paired xs ys)]) := rfl
@[simp] theorem items_tup : items (.tup xs) st = some (xs, []) := rfl
@[simp] theorem seq_tup : seqOf (.tup xs) st = some xs := rfl
theorem items_ref (h : st[n]? = some (.lst xs)) : items (.ref n) st = some (xs, [(n, .lst xs)]) := by simp [items, h]
theorem seq_ref (h : st[n]? = some (.lst xs)) : seqOf (.ref n) st = some xs := by simp [seqOf, items, h]
theorem lst_ref (h : st[n]? = some (.lst xs)) : lstOf (.ref n) st = some xs := by simp [lstOf, h]
@[simp] theorem isTup_tup : isTupV (.tup xs) = true := rfl
@[simp] theorem isTup_ref : isTupV (.ref n) = false := rfl
/-- the new place -/
@[simp] theorem new_get {o : SO} : (st ++ [o])[st.length]? = some o := by simp
@[simp] theorem lst_new : lstOf (.ref st.length) (st ++ [.lst xs]) = some xs := by simp [lstOf]
@[simp] theorem seq_new : seqOf (.ref st.length) (st ++ [.lst xs]) = some xs := by simp [seqOf, items]
@[simp] theorem items_new : items (.ref st.length) (st ++ [.lst xs]) = some (xs, [(st.length, .lst xs)]) := by simp [items]
@[simp] theorem fin_non {k : Nat} : fin k .non st = (.non, st.take k) := by simp [fin, PV.lt]
@[simp] theorem fin_bl {k : Nat} {b : Bool} : fin k (.bl b) st = (.bl b, st.take k) := by simp [fin, PV.lt]
@[simp] theorem fin_int {k : Nat} : fin k (.int i) st = (.int i, st.take k) := by simp [fin, PV.lt]
@[simp] theorem fin_str {k : Nat} {s : Str} : fin k (.str s) st = (.str s, st.take k) := by simp [fin, PV.lt]
@[simp] theorem fin_tup {k : Nat} (h : PV.ltA k xs = true) : fin k (.tup xs) st = (.tup xs, st.take k) := by simp [fin, PV.lt, h]
theorem fin_new {o : SO} (h : o.lt st.length = true) : fin st.length (.ref st.length) (st ++ [o]) = (.ref st.length, st ++ [o]) := by simp [fin, h]
theorem fin_ref {k n : Nat} {o : SO} (h1 : k ≤ n) (h2 : st[n]? = some o) (h3 : o.lt k = true) : fin k (.ref n) st = (.ref k, st.take k ++ [o]) := by
  simp [fin, h2, h3, Nat.not_lt.mpr h1]
@[simp] theorem take_self : st.take st.length = st := List.take_length
@[simp] theorem take_set {n : Nat} {o : SO} : (st.set n o).take st.length = st.set n o := List.take_of_length_le (by simp)
theorem seq_set {n : Nat} (h : n < st.length) : seqOf (.ref n) (st.set n (.lst xs)) = some xs := seq_ref (by simp [h])
@[simp] theorem take_app {g : Sto} : (st ++ g).take st.length = st := by simp
end
@[simp] theorem watch_one {st : Sto} {n : Nat} {o : SO} : Watch [(n, o)] st ↔ st[n]? = some o := by simp [Watch]
@[simp] theorem watch_nil {st : Sto} : Watch [] st := fun p hp => nomatch hp
section
variable {k : Nat} {x : PV} {xs : List PV} {i : Int} {b : Bool} {s : Str} {n : Nat}
@[simp] theorem lt_int : (PV.int i).lt k = true := by simp [PV.lt]
@[simp] theorem lt_bl : (PV.bl b).lt k = true := by simp [PV.lt]
@[simp] theorem lt_non : PV.non.lt k = true := by simp [PV.lt]
@[simp] theorem lt_str : (PV.str s).lt k = true := by simp [PV.lt]
@[simp] theorem lt_tup : (PV.tup xs).lt k = PV.ltA k xs := by simp [PV.lt]
@[simp] theorem ltA_nil : PV.ltA k [] = true := by simp [PV.ltA]
@[simp] theorem ltA_cons : PV.ltA k (x :: xs) = (x.lt k && PV.ltA k xs) := by simp [PV.ltA]
theorem ltA_iff : PV.ltA k xs = true ↔ ∀ x ∈ xs, x.lt k = true := by
  induction xs with
  | nil => simp
  | cons x xs ih => simp [ih]
end
section
variable {st : Sto}
@[simp] theorem isi_non {t : Ty} : isi .non t st = some false := rfl
@[simp] theorem isi_bl {t : Ty} {b : Bool} : isi (.bl b) t st = some (t == .int || t == .bool) := rfl
@[simp] theorem isi_int {t : Ty} {i : Int} : isi (.int i) t st = some (t == .int) := rfl
@[simp] theorem isi_str {t : Ty} {s : Str} : isi (.str s) t st = some (t == .str) := rfl
@[simp] theorem isi_tup {t : Ty} {xs : List PV} : isi (.tup xs) t st = some (t == .tup) := rfl
theorem isi_ref {t : Ty} {n : Nat} (h : n < st.length) : isi (.ref n) t st = some false := by
  show (match st[n]? with | some _ => some false | none => none) = some false
  rw [List.getElem?_eq_getElem h]
end
section
variable {α : Type} {xs : List α} {x y z u : α}
theorem at_nat {i : Int} {n : Nat} (h : i = n) (hn : n < xs.length) : L2.atI xs i = xs[n]? := by
  subst h
  simp [L2.atI, L2.ixN, hn]
@[simp] theorem at_0 : L2.atI (x :: xs) 0 = some x := by rw [at_nat (i := 0) (n := 0) rfl (by simp)]; rfl
@[simp] theorem at_1 : L2.atI (x :: y :: xs) 1 = some y := by rw [at_nat (i := 1) (n := 1) rfl (by simp)]; rfl
@[simp] theorem at_2 : L2.atI (x :: y :: z :: xs) 2 = some z := by rw [at_nat (i := 2) (n := 2) rfl (by simp)]; rfl
@[simp] theorem at_3 : L2.atI (x :: y :: z :: u :: xs) 3 = some u := by rw [at_nat (i := 3) (n := 3) rfl (by simp)]; rfl
end
section
variable {st : Sto} {n b : Nat} {v : PV} {xs : List PV} {Q : Sto → Prop}
theorem push_ok (h : st[n]? = some (.lst xs)) : Ok (push n v st) Q ↔ xs.length < 1000000 ∧ Q (st.set n (.lst (xs ++ [v]))) := by
  unfold push
  rw [h]
  simp only [most_eq]
  by_cases hl : xs.length < 1000000 <;> simp [hl]
theorem app_ok (h : st[n]? = some (.lst xs)) : Ok (app1 b n v st) Q ↔ (b ≤ n ∨ v.lt 0 = true) ∧ xs.length < 1000000 ∧ Q (st.set n (.lst (xs ++ [v]))) := by
  unfold app1 mayPut
  by_cases hm : b ≤ n ∨ v.lt 0 = true
  · rw [if_pos (by simpa using hm), push_ok h]; simp [hm]
  · rw [if_neg (by simpa using hm)]; simp [hm]
theorem ext_ok {ys : List PV} (h : st[n]? = some (.lst xs)) : Ok (ext1 b n ys st) Q ↔ (b ≤ n ∨ PV.ltA 0 ys = true) ∧ xs.length + ys.length ≤ 1000000 ∧ Q (st.set n (.lst (xs ++ ys))) := by
  unfold ext1
  rw [h]
  refine Iff.trans (ok_guard (Q := Q)) ?_
  rw [Bool.and_eq_true, Bool.or_eq_true, decide_eq_true_iff, decide_eq_true_iff, and_assoc]
  exact Iff.rfl
theorem put_ok {k : Int} {j : Nat} (h : st[n]? = some (.lst xs)) (hj : L2.ixN xs.length k = some j) : Ok (put1 b n k v st) Q ↔ (b ≤ n ∨ v.lt 0 = true) ∧ Q (st.set n (.lst (xs.set j v))) := by
  unfold put1
  rw [h]
  simp only [hj, Option.bind_some]
  refine Iff.trans (ok_guard (Q := Q)) ?_
  unfold mayPut
  rw [Bool.or_eq_true, decide_eq_true_iff]
end
section
variable {σ : Sl} {v : PV} {i : Nat} {is : List Nat} {vs : List PV} {Q : Sl → Prop}
@[simp] theorem set_nil : setAll [] [] σ = some σ := rfl
@[simp] theorem set_cons : Ok (setAll (i :: is) (v :: vs) σ) Q ↔ Ok (setAll is vs σ) (fun s => i < s.length ∧ Q (s.set i (some v))) := by
  show Ok ((setAll is vs σ).bind fun s => if i < s.length then some (s.set i (some v)) else none) Q ↔ _
  simp only [ok_bind]
  constructor <;> rintro ⟨s, e, h⟩ <;> refine ⟨s, e, ?_⟩
  · by_cases x : i < s.length
    · simp [x] at h; exact ⟨x, h⟩
    · simp [x] at h
  · simp [h.1, h.2]
end
theorem bools_map {α : Type} {f : α → Bool} : ∀ {xs : List α}, bools? (xs.map fun x => .bl (f x)) = some (xs.map f)
  | [] => rfl
  | x :: xs => by
    show (bools? (xs.map fun x => .bl (f x))).map (f x :: ·) = _
    rw [bools_map]; rfl
@[simp] theorem wipe_nil {σ : Sl} : wipeS σ [] = σ := rfl
@[simp] theorem wipe_cons {σ : Sl} {i : Nat} {is : List Nat} : wipeS σ (i :: is) = (wipeS σ is).set i none := rfl
section
variable {Γ : Tab} {G : Nat → Option PV} {b n : Nat} {σ : Sl} {st : Sto} {w : List (Nat × SO)} {x : PV} {xs : List PV} {Q : Sto → Prop}
@[simp] theorem lc_nil {step : PV → Sto → Option Sto} : Ok (lcL w step [] st) Q ↔ Q st := by simp [lcL]
@[simp] theorem lc_cons {step : PV → Sto → Option Sto} : Ok (lcL w step (x :: xs) st) Q ↔ Ok (step x st) (fun s => Watch w s ∧ Ok (lcL w step xs s) Q) := by
  simp only [lcL, ok_bind]
  constructor <;> rintro ⟨s, e, h⟩ <;> refine ⟨s, e, ?_⟩
  · by_cases hw : Watch w s
    · rw [if_pos hw] at h; exact ⟨hw, h⟩
    · rw [if_neg hw] at h; simp at h
  · simp only [if_pos h.1]; exact h.2
@[simp] theorem for_nil {step : PV → Sl → Sto → Option Fl} {Q : Fl → Prop} : Ok (forL w step [] σ st) Q ↔ Q (.nx σ st) := by simp [forL]
/-- the turns that are left -/
def More (w : List (Nat × SO)) (step : PV → Sl → Sto → Option Fl) (xs : List PV) (Q : Fl → Prop) (σ : Sl) (st : Sto) : Prop := Ok (forL w step xs σ st) Q
theorem more_at {step : PV → Sl → Sto → Option Fl} {Q : Fl → Prop} : More w step xs Q σ st ↔ Ok (forL w step xs σ st) Q := Iff.rfl
@[simp] theorem for_cons {step : PV → Sl → Sto → Option Fl} {Q : Fl → Prop} : Ok (forL w step (x :: xs) σ st) Q ↔ Ok (step x σ st) (Tn w (More w step xs Q) Q) := by
  simp only [forL, ok_bind]
  constructor <;> rintro ⟨f, e, h⟩ <;> refine ⟨f, e, ?_⟩
  · cases f with
    | nx σ' st' =>
      by_cases hw : Watch w st'
      · simp only [if_pos hw] at h; exact ⟨hw, h⟩
      · simp only [if_neg hw] at h; simp at h
    | ct σ' st' =>
      by_cases hw : Watch w st'
      · simp only [if_pos hw] at h; exact ⟨hw, h⟩
      · simp only [if_neg hw] at h; simp at h
    | bk σ' st' => simpa using h
    | rt v st' => simpa using h
  · cases f with
    | nx σ' st' => simp only [if_pos (show Watch w st' from h.1)]; exact h.2
    | ct σ' st' => simp only [if_pos (show Watch w st' from h.1)]; exact h.2
    | bk σ' st' => simpa using h
    | rt v st' => simpa using h
@[simp] theorem ok_lcS {e : CE} {t : CT} {ifs : CA} {own : List Nat} : Ok (lcS Γ G e t ifs own b σ n x st) Q ↔
    Ok (asg Γ G t b x (wipeS σ own) st) (fun q => Ok (denF Γ G ifs b q.1 q.2) (fun r => (r.1 = true → Ok (den Γ G e b q.1 r.2) (fun u => Ok (app1 b n u.1 u.2) Q)) ∧ (r.1 = false → Q r.2))) := by
  unfold lcS app1
  simp
@[simp] theorem ok_lcS1 {e : CE} {t : CT} {ifs : CA} : Ok (lcS1 Γ G e t ifs b σ n x st) Q ↔
    Ok (asg Γ G t b x (wipeS σ t.slots) st) (fun q => Ok (denF Γ G ifs b q.1 q.2) (fun r => (r.1 = true → Ok (den Γ G e b q.1 r.2) (fun u => Ok (app1 b n u.1 u.2) Q)) ∧ (r.1 = false → Q r.2))) := by
  unfold lcS1 app1
  simp
@[simp] theorem ok_lcS2 {e : CE} {t : CT} {ifs : CA} {t1 : CT} {it1 : CI} {ifs1 : CA} {own : List Nat} : Ok (lcS2 Γ G e t ifs t1 it1 ifs1 own b σ n w x st) Q ↔
    Ok (asg Γ G t b x (wipeS σ own) st) (fun q => Ok (denF Γ G ifs b q.1 q.2) (fun r => (r.1 = true → Ok (denI Γ G it1 b q.1 r.2) (fun p1 => Ok (lcL (p1.2.1 ++ w) (lcS1 Γ G e t1 ifs1 b q.1 n) p1.1 p1.2.2) Q)) ∧ (r.1 = false → Q r.2))) := by
  unfold lcS2
  simp
@[simp] theorem ok_lpS {t : CT} {body : CB} {Q : Fl → Prop} : Ok (lpS Γ G t body b x σ st) Q ↔ Ok (asg Γ G t b x σ st) (fun q => Ok (denB Γ G body b q.1 q.2) Q) := by
  unfold lpS
  simp
@[simp] theorem ok_whT {c : CE} {Q : Bool × Sto → Prop} : Ok (whT Γ G c b σ st) Q ↔ Ok (den Γ G c b σ st) (fun p => Ok (boolOf p.1) (fun t => Q (t, p.2))) := by
  unfold whT
  simp
@[simp] theorem app_new {v : PV} : Ok (app1 b st.length v (st ++ [.lst xs])) Q ↔ (b ≤ st.length ∨ v.lt 0 = true) ∧ xs.length < 1000000 ∧ Q (st ++ [.lst (xs ++ [v])]) := by
  rw [app_ok (xs := xs) (by simp)]
  simp
theorem app_at {v : PV} (h : st.length = n) : Ok (app1 b n v (st ++ [.lst xs])) Q ↔ (b ≤ n ∨ v.lt 0 = true) ∧ xs.length < 1000000 ∧ Q (st ++ [.lst (xs ++ [v])]) := by
  subst h; exact app_new
/-- a comprehension whose turns change nothing but the new list -/
theorem lc_pure {step : PV → Sto → Option Sto} (f : PV → PV) (hw : ∀ p ∈ w, p.1 < st.length ∧ st[p.1]? = some p.2) : ∀ {xs acc : List PV}, acc.length + xs.length ≤ 1000000 →
    (∀ x ∈ xs, ∀ acc : List PV, acc.length < 1000000 → Ok (step x (st ++ [.lst acc])) (fun s => s = st ++ [.lst (acc ++ [f x])])) → Q (st ++ [.lst (acc ++ xs.map f)]) → Ok (lcL w step xs (st ++ [.lst acc])) Q
  | [], acc, hl, hx, q => by simpa using q
  | x :: xs, acc, hl, hx, q => by
    rw [lc_cons]
    rw [List.length_cons] at hl
    refine (hx x (by simp) acc (by omega)).mono ?_
    rintro _ rfl
    refine ⟨fun p hp => ?_, lc_pure f hw (by simp; omega) (fun y hy => hx y (by simp [hy])) (by simpa using q)⟩
    rw [List.getElem?_append_left (hw p hp).1]
    exact (hw p hp).2
end
section
variable {st g : Sto} {xs : List PV} {p0 p1 p2 p3 : SO} {b : Nat} {v : PV} {Q : Sto → Prop}
@[simp] theorem items_s0 : items (.ref st.length) (st ++ .lst xs :: g) = some (xs, [(st.length, .lst xs)]) := items_ref (by simp)
@[simp] theorem seq_s0 : seqOf (.ref st.length) (st ++ .lst xs :: g) = some xs := seq_ref (by simp)
@[simp] theorem lst_s0 : lstOf (.ref st.length) (st ++ .lst xs :: g) = some xs := lst_ref (by simp)
@[simp] theorem app_s0 : Ok (app1 b st.length v (st ++ .lst xs :: g)) Q ↔ (b ≤ st.length ∨ v.lt 0 = true) ∧ xs.length < 1000000 ∧ Q (st ++ .lst (xs ++ [v]) :: g) := by
  rw [app_ok (xs := xs) (by simp)]
  simp
theorem app_h0 {n : Nat} (h : st.length = n) : Ok (app1 b n v (st ++ .lst xs :: g)) Q ↔ (b ≤ n ∨ v.lt 0 = true) ∧ xs.length < 1000000 ∧ Q (st ++ .lst (xs ++ [v]) :: g) := by
  subst h
  exact app_s0
theorem lst_h0 {n : Nat} (h : st.length = n) : lstOf (.ref n) (st ++ .lst xs :: g) = some xs := by
  subst h
  exact lst_s0
theorem seq_h0 {n : Nat} (h : st.length = n) : seqOf (.ref n) (st ++ .lst xs :: g) = some xs := by
  subst h
  exact seq_s0
theorem items_h0 {n : Nat} (h : st.length = n) : items (.ref n) (st ++ .lst xs :: g) = some (xs, [(n, .lst xs)]) := by
  subst h
  exact items_s0
theorem get_h0 {n : Nat} {o : SO} (h : st.length = n) : (st ++ o :: g)[n]? = some o := by
  subst h
  simp
@[simp] theorem items_s1 : items (.ref (st.length + 1)) (st ++ p0 :: .lst xs :: g) = some (xs, [((st.length + 1), .lst xs)]) := items_ref (by simp)
@[simp] theorem seq_s1 : seqOf (.ref (st.length + 1)) (st ++ p0 :: .lst xs :: g) = some xs := seq_ref (by simp)
@[simp] theorem lst_s1 : lstOf (.ref (st.length + 1)) (st ++ p0 :: .lst xs :: g) = some xs := lst_ref (by simp)
@[simp] theorem app_s1 : Ok (app1 b (st.length + 1) v (st ++ p0 :: .lst xs :: g)) Q ↔ (b ≤ (st.length + 1) ∨ v.lt 0 = true) ∧ xs.length < 1000000 ∧ Q (st ++ p0 :: .lst (xs ++ [v]) :: g) := by
  rw [app_ok (xs := xs) (by simp)]
  simp
theorem app_h1 {n : Nat} (h : st.length = n) : Ok (app1 b (n + 1) v (st ++ p0 :: .lst xs :: g)) Q ↔ (b ≤ (n + 1) ∨ v.lt 0 = true) ∧ xs.length < 1000000 ∧ Q (st ++ p0 :: .lst (xs ++ [v]) :: g) := by
  subst h
  exact app_s1
theorem lst_h1 {n : Nat} (h : st.length = n) : lstOf (.ref (n + 1)) (st ++ p0 :: .lst xs :: g) = some xs := by
  subst h
  exact lst_s1
theorem seq_h1 {n : Nat} (h : st.length = n) : seqOf (.ref (n + 1)) (st ++ p0 :: .lst xs :: g) = some xs := by
  subst h
  exact seq_s1
theorem items_h1 {n : Nat} (h : st.length = n) : items (.ref (n + 1)) (st ++ p0 :: .lst xs :: g) = some (xs, [((n + 1), .lst xs)]) := by
  subst h
  exact items_s1
theorem get_h1 {n : Nat} {o : SO} (h : st.length = n) : (st ++ p0 :: o :: g)[n + 1]? = some o := by
  subst h
  simp
@[simp] theorem items_s2 : items (.ref (st.length + 2)) (st ++ p0 :: p1 :: .lst xs :: g) = some (xs, [((st.length + 2), .lst xs)]) := items_ref (by simp)
@[simp] theorem seq_s2 : seqOf (.ref (st.length + 2)) (st ++ p0 :: p1 :: .lst xs :: g) = some xs := seq_ref (by simp)
@[simp] theorem lst_s2 : lstOf (.ref (st.length + 2)) (st ++ p0 :: p1 :: .lst xs :: g) = some xs := lst_ref (by simp)
@[simp] theorem app_s2 : Ok (app1 b (st.length + 2) v (st ++ p0 :: p1 :: .lst xs :: g)) Q ↔ (b ≤ (st.length + 2) ∨ v.lt 0 = true) ∧ xs.length < 1000000 ∧ Q (st ++ p0 :: p1 :: .lst (xs ++ [v]) :: g) := by
  rw [app_ok (xs := xs) (by simp)]
  simp
theorem app_h2 {n : Nat} (h : st.length = n) : Ok (app1 b (n + 2) v (st ++ p0 :: p1 :: .lst xs :: g)) Q ↔ (b ≤ (n + 2) ∨ v.lt 0 = true) ∧ xs.length < 1000000 ∧ Q (st ++ p0 :: p1 :: .lst (xs ++ [v]) :: g) := by
  subst h
  exact app_s2
theorem lst_h2 {n : Nat} (h : st.length = n) : lstOf (.ref (n + 2)) (st ++ p0 :: p1 :: .lst xs :: g) = some xs := by
  subst h
  exact lst_s2
theorem seq_h2 {n : Nat} (h : st.length = n) : seqOf (.ref (n + 2)) (st ++ p0 :: p1 :: .lst xs :: g) = some xs := by
  subst h
  exact seq_s2
theorem items_h2 {n : Nat} (h : st.length = n) : items (.ref (n + 2)) (st ++ p0 :: p1 :: .lst xs :: g) = some (xs, [((n + 2), .lst xs)]) := by
  subst h
  exact items_s2
theorem get_h2 {n : Nat} {o : SO} (h : st.length = n) : (st ++ p0 :: p1 :: o :: g)[n + 2]? = some o := by
  subst h
  simp
@[simp] theorem items_s3 : items (.ref (st.length + 3)) (st ++ p0 :: p1 :: p2 :: .lst xs :: g) = some (xs, [((st.length + 3), .lst xs)]) := items_ref (by simp)
@[simp] theorem seq_s3 : seqOf (.ref (st.length + 3)) (st ++ p0 :: p1 :: p2 :: .lst xs :: g) = some xs := seq_ref (by simp)
@[simp] theorem lst_s3 : lstOf (.ref (st.length + 3)) (st ++ p0 :: p1 :: p2 :: .lst xs :: g) = some xs := lst_ref (by simp)
@[simp] theorem app_s3 : Ok (app1 b (st.length + 3) v (st ++ p0 :: p1 :: p2 :: .lst xs :: g)) Q ↔ (b ≤ (st.length + 3) ∨ v.lt 0 = true) ∧ xs.length < 1000000 ∧ Q (st ++ p0 :: p1 :: p2 :: .lst (xs ++ [v]) :: g) := by
  rw [app_ok (xs := xs) (by simp)]
  simp
theorem app_h3 {n : Nat} (h : st.length = n) : Ok (app1 b (n + 3) v (st ++ p0 :: p1 :: p2 :: .lst xs :: g)) Q ↔ (b ≤ (n + 3) ∨ v.lt 0 = true) ∧ xs.length < 1000000 ∧ Q (st ++ p0 :: p1 :: p2 :: .lst (xs ++ [v]) :: g) := by
  subst h
  exact app_s3
theorem lst_h3 {n : Nat} (h : st.length = n) : lstOf (.ref (n + 3)) (st ++ p0 :: p1 :: p2 :: .lst xs :: g) = some xs := by
  subst h
  exact lst_s3
theorem seq_h3 {n : Nat} (h : st.length = n) : seqOf (.ref (n + 3)) (st ++ p0 :: p1 :: p2 :: .lst xs :: g) = some xs := by
  subst h
  exact seq_s3
theorem items_h3 {n : Nat} (h : st.length = n) : items (.ref (n + 3)) (st ++ p0 :: p1 :: p2 :: .lst xs :: g) = some (xs, [((n + 3), .lst xs)]) := by
  subst h
  exact items_s3
theorem get_h3 {n : Nat} {o : SO} (h : st.length = n) : (st ++ p0 :: p1 :: p2 :: o :: g)[n + 3]? = some o := by
  subst h
  simp
end
theorem take_at {st g : Sto} {n : Nat} (h : st.length = n) : (st ++ g).take n = st := by subst h; simp
end MP

end
section
set_option Elab.async false
set_option linter.all false
set_option maxRecDepth 100000
set_option maxHeartbeats 4000000
/-! the law's defs as terms (printed by wip/gen.py) -/
namespace LAW
open PySem PySem.Spec PyProof.Rows L2 MP
def top (i : Nat) : Stmt := PySem.Challenge.pw_stonespans_k81_whole_what_feet_bear.main.body.getD i (.Pass ⟨0, 0, 0, 0⟩)
def b__law_draw : CB := (.cons (.ite (.cmp .gt (.idx (.var 0) (.int 0)) (.int 0)) (.cons (.asg (.tup (.cons (.sub (.var 0) (.int 0)) (.cons (.name 2) .nil))) (.blt .divmod (.cons (.idx (.var 0) (.int 0)) (.cons (.var 1) .nil))))
    (.cons (.ret (.var 2))
    .nil)) .nil)
    (.cons (.asg (.sub (.var 0) (.int 1)) (.bin .mod (.blt .int1 (.cons (.bin .add (.bin .mul (.idx (.var 0) (.int 1)) (.int 39373)) (.int 211)) .nil)) (.int 2147483587)))
    (.cons (.ret (.bin .mod (.blt .int1 (.cons (.bin .fdiv (.bin .mod (.blt .int1 (.cons (.bin .mul (.idx (.var 0) (.int 1)) (.idx (.var 0) (.int 1))) .nil)) (.int 2147483563)) (.int 19)) .nil)) (.var 1)))
    .nil)))
def d__law_draw : CD := ⟨2, 3, b__law_draw⟩
def f__law_draw : Dfn := ⟨"_law_draw", top 101, ["pot", "many", "digit"], ["pot", "many"], d__law_draw⟩
def b__law_made : CB := (.cons (.par [2, 3] (.cons (.blt .abs (.cons (.var 0) .nil)) (.cons (.blt .abs (.cons (.var 1) .nil)) .nil)))
    (.cons (.whl (.cmp .gt (.var 3) (.int 0)) (.cons (.par [2, 3] (.cons (.var 3) (.cons (.bin .mod (.blt .int1 (.cons (.var 2) .nil)) (.blt .int1 (.cons (.var 3) .nil))) .nil)))
    .nil))
    (.cons (.asg (.name 4) (.ite (.cmp .lt (.var 1) (.int 0)) (.neg (.int 1)) (.int 1)))
    (.cons (.ret (.tup (.cons (.bin .fdiv (.bin .mul (.var 4) (.var 0)) (.var 2)) (.cons (.bin .fdiv (.blt .abs (.cons (.var 1) .nil)) (.var 2)) .nil))))
    .nil))))
def d__law_made : CD := ⟨2, 5, b__law_made⟩
def f__law_made : Dfn := ⟨"_law_made", top 103, ["number", "under", "one", "other", "sign"], ["number", "under"], d__law_made⟩
def b__law_over : CB := (.cons (.ret (.call 1 (.cons (.bin .mul (.idx (.var 0) (.int 0)) (.idx (.var 1) (.int 1))) (.cons (.bin .mul (.idx (.var 0) (.int 1)) (.idx (.var 1) (.int 0))) .nil))))
    .nil)
def d__law_over : CD := ⟨2, 2, b__law_over⟩
def f__law_over : Dfn := ⟨"_law_over", top 133, ["one", "other"], ["one", "other"], d__law_over⟩
def b__law_plus : CB := (.cons (.ret (.call 1 (.cons (.bin .add (.bin .mul (.idx (.var 0) (.int 0)) (.idx (.var 1) (.int 1))) (.bin .mul (.idx (.var 1) (.int 0)) (.idx (.var 0) (.int 1)))) (.cons (.bin .mul (.idx (.var 0) (.int 1)) (.idx (.var 1) (.int 1))) .nil))))
    .nil)
def d__law_plus : CD := ⟨2, 2, b__law_plus⟩
def f__law_plus : Dfn := ⟨"_law_plus", top 104, ["one", "other"], ["one", "other"], d__law_plus⟩
def b__law_minus : CB := (.cons (.ret (.call 3 (.cons (.var 0) (.cons (.tup (.cons (.bin .sub (.int 0) (.idx (.var 1) (.int 0))) (.cons (.idx (.var 1) (.int 1)) .nil))) .nil))))
    .nil)
def d__law_minus : CD := ⟨2, 2, b__law_minus⟩
def f__law_minus : Dfn := ⟨"_law_minus", top 105, ["one", "other"], ["one", "other"], d__law_minus⟩
def b__law_by : CB := (.cons (.ret (.call 1 (.cons (.bin .mul (.idx (.var 0) (.int 0)) (.idx (.var 1) (.int 0))) (.cons (.bin .mul (.idx (.var 0) (.int 1)) (.idx (.var 1) (.int 1))) .nil))))
    .nil)
def d__law_by : CD := ⟨2, 2, b__law_by⟩
def f__law_by : Dfn := ⟨"_law_by", top 106, ["one", "other"], ["one", "other"], d__law_by⟩
def b__law_on : CB := (.cons (.ite (.var 2) (.cons (.ret (.call 2 (.cons (.call 3 (.cons (.idx (.var 0) (.int 2)) (.cons (.call 5 (.cons (.tup (.cons (.var 1) (.cons (.int 1) .nil))) (.cons (.idx (.var 0) (.int 0)) .nil))) .nil))) (.cons (.idx (.var 0) (.int 1)) .nil))))
    .nil) .nil)
    (.cons (.ret (.call 2 (.cons (.call 4 (.cons (.call 5 (.cons (.tup (.cons (.var 1) (.cons (.int 1) .nil))) (.cons (.idx (.var 0) (.int 1)) .nil))) (.cons (.idx (.var 0) (.int 2)) .nil))) (.cons (.idx (.var 0) (.int 0)) .nil))))
    .nil))
def d__law_on : CD := ⟨3, 3, b__law_on⟩
def f__law_on : Dfn := ⟨"_law_on", top 132, ["wrench", "spot", "is_pier"], ["wrench", "spot", "is_pier"], d__law_on⟩
def b__law_joint : CB := (.cons (.par [4, 5] (.cons (.call 0 (.cons (.var 0) (.cons (.int 4) .nil))) (.cons (.lst .nil) .nil)))
    (.cons (.loop (.name 6) (.seq (.lst (.cons (.int 0) (.cons (.int 1) .nil)))) (.cons (.asg (.name 7) (.ite (.var 3) (.var 2) (.bin .sub (.bin .add (.var 2) (.call 0 (.cons (.var 0) (.cons (.int 3) .nil)))) (.int 1))))
    (.cons (.asg (.name 8) (.call 6 (.cons (.var 1) (.cons (.var 7) (.cons (.var 3) .nil)))))
    (.cons (.asg (.name 9) (.ite (.and (.cmp .eq (.var 4) (.var 6)) (.cmp .eq (.idx (.var 8) (.int 1)) (.int 1))) (.int 0) (.bin .add (.int 1) (.call 0 (.cons (.var 0) (.cons (.int 3) .nil))))))
    (.cons (.asg (.name 10) (.ite (.cmp .eq (.var 6) (.int 0)) (.bin .fdiv (.idx (.var 8) (.int 0)) (.idx (.var 8) (.int 1))) (.bin .sub (.int 0) (.bin .fdiv (.bin .sub (.int 0) (.idx (.var 8) (.int 0))) (.idx (.var 8) (.int 1))))))
    (.cons (.asg (.name 10) (.ite (.cmp .eq (.var 6) (.int 0)) (.bin .sub (.var 10) (.var 9)) (.bin .add (.var 10) (.var 9))))
    (.cons (.app (.var 5) (.ite (.var 3) (.tup (.cons (.var 10) (.cons (.var 7) .nil))) (.tup (.cons (.var 7) (.cons (.var 10) .nil)))))
    .nil)))))))
    (.cons (.ret (.blt .tuple1 (.cons (.var 5) .nil)))
    .nil)))
def d__law_joint : CD := ⟨4, 11, b__law_joint⟩
def f__law_joint : Dfn := ⟨"_law_joint", top 131, ["pot", "wrench", "spot", "is_pier", "touch", "ends", "end", "off", "told_v", "out", "number"], ["pot", "wrench", "spot", "is_pier"], d__law_joint⟩
def b__law_add : CB := (.cons (.ret (.blt .tuple1 (.cons (.lc (.call 3 (.cons (.var 2) (.cons (.var 3) .nil))) (.tup (.cons (.name 2) (.cons (.name 3) .nil))) (.zip (.var 0) (.var 1)) .nil [2, 3]) .nil)))
    .nil)
def d__law_add : CD := ⟨2, 4, b__law_add⟩
def f__law_add : Dfn := ⟨"_law_add", top 109, ["near", "far", "one", "other"], ["near", "far"], d__law_add⟩
def b__law_pull : CB := (.cons (.ret (.tup (.cons (.tup (.cons (.int 0) (.cons (.int 1) .nil))) (.cons (.tup (.cons (.bin .sub (.int 0) (.var 1)) (.cons (.int 1) .nil))) (.cons (.tup (.cons (.bin .sub (.int 0) (.bin .mul (.var 0) (.var 1))) (.cons (.int 1) .nil))) .nil)))))
    .nil)
def d__law_pull : CD := ⟨2, 2, b__law_pull⟩
def f__law_pull : Dfn := ⟨"_law_pull", top 112, ["x", "weight"], ["x", "weight"], d__law_pull⟩
def b__law_arch : CB := (.cons (.par [4, 5] (.cons (.lst (.cons (.call 7 (.cons (.var 0) (.cons (.var 1) (.cons (.var 2) (.cons (.bl false) .nil))))) .nil)) (.cons (.lst .nil) .nil)))
    (.cons (.loop (.name 6) (.rng1 (.var 3)) (.cons (.asg (.name 7) (.bin .add (.int 2) (.call 0 (.cons (.var 0) (.cons (.int 5) .nil)))))
    (.cons (.asg (.name 8) (.tup (.cons (.bin .add (.bin .add (.var 2) (.int 1)) (.call 0 (.cons (.var 0) (.cons (.bin .sub (.var 7) (.int 1)) .nil)))) (.cons (.bin .add (.int 1) (.call 0 (.cons (.var 0) (.cons (.int 12) .nil)))) .nil))))
    (.cons (.par [1, 2] (.cons (.call 8 (.cons (.var 1) (.cons (.call 9 (.cons (.idx (.var 8) (.int 0)) (.cons (.idx (.var 8) (.int 1)) .nil))) .nil))) (.cons (.bin .add (.var 2) (.var 7)) .nil)))
    (.cons (.app (.var 5) (.var 8))
    (.cons (.app (.var 4) (.call 7 (.cons (.var 0) (.cons (.var 1) (.cons (.var 2) (.cons (.bl false) .nil))))))
    .nil))))))
    (.cons (.ret (.tup (.cons (.tup (.cons (.blt .tuple1 (.cons (.var 4) .nil)) (.cons (.blt .tuple1 (.cons (.var 5) .nil)) .nil))) (.cons (.var 1) (.cons (.var 2) .nil)))))
    .nil)))
def d__law_arch : CD := ⟨4, 9, b__law_arch⟩
def f__law_arch : Dfn := ⟨"_law_arch", top 134, ["pot", "wrench", "x", "many", "joints", "stones", "turn", "step", "stone"], ["pot", "wrench", "x", "many"], d__law_arch⟩
def b__law_stones : CB := (.cons (.asg (.name 1) (.lst .nil))
    (.cons (.loop (.tup (.cons (.name 2) (.cons (.tup (.cons (.name 3) (.cons (.name 4) .nil))) .nil))) (.enum (.idx (.var 0) (.int 1))) (.cons (.ext (.var 1) (.blt .list1 (.cons (.var 4) .nil)))
    (.cons (.ite (.cmp .lt (.var 2) (.blt .len (.cons (.idx (.var 0) (.int 2)) .nil))) (.cons (.ext (.var 1) (.gc (.bin .add (.lst (.cons (.idx (.idx (.idx (.var 0) (.int 2)) (.var 2)) (.int 0)) .nil)) (.blt .list1 (.cons (.idx (.idx (.idx (.var 0) (.int 2)) (.var 2)) (.int 2)) .nil)))))
    .nil) .nil)
    .nil)))
    (.cons (.ret (.var 1))
    .nil)))
def d__law_stones : CD := ⟨1, 5, b__law_stones⟩
def f__law_stones : Dfn := ⟨"_law_stones", top 115, ["bridge", "found", "at", "joints", "stones"], ["bridge"], d__law_stones⟩
def b__law_pier : CB := (.cons (.asg (.name 3) (.tup (.cons (.bin .add (.bin .add (.var 2) (.int 1)) (.call 0 (.cons (.var 0) (.cons (.int 2) .nil)))) (.cons (.bin .add (.int 15) (.call 0 (.cons (.var 0) (.cons (.int 20) .nil)))) .nil))))
    (.cons (.par [4, 5] (.cons (.call 8 (.cons (.var 1) (.cons (.call 9 (.cons (.idx (.var 3) (.int 0)) (.cons (.idx (.var 3) (.int 1)) .nil))) .nil))) (.cons (.neg (.int 3)) .nil)))
    (.cons (.par [6, 7] (.cons (.lst (.cons (.call 7 (.cons (.var 0) (.cons (.var 4) (.cons (.var 5) (.cons (.bl true) .nil))))) .nil)) (.cons (.lst .nil) .nil)))
    (.cons (.loop (.name 8) (.rng1 (.call 0 (.cons (.var 0) (.cons (.int 3) .nil)))) (.cons (.asg (.name 9) (.tup (.cons (.bin .add (.var 2) (.call 0 (.cons (.var 0) (.cons (.int 4) .nil)))) (.cons (.bin .add (.int 1) (.call 0 (.cons (.var 0) (.cons (.int 9) .nil)))) .nil))))
    (.cons (.par [4, 5] (.cons (.call 8 (.cons (.var 4) (.cons (.call 9 (.cons (.idx (.var 9) (.int 0)) (.cons (.idx (.var 9) (.int 1)) .nil))) .nil))) (.cons (.bin .sub (.bin .sub (.var 5) (.int 1)) (.call 0 (.cons (.var 0) (.cons (.int 3) .nil)))) .nil)))
    (.cons (.app (.var 7) (.var 9))
    (.cons (.app (.var 6) (.call 7 (.cons (.var 0) (.cons (.var 4) (.cons (.var 5) (.cons (.bl true) .nil))))))
    .nil)))))
    (.cons (.ret (.tup (.cons (.var 3) (.cons (.blt .tuple1 (.cons (.var 6) .nil)) (.cons (.blt .tuple1 (.cons (.var 7) .nil)) .nil)))))
    .nil)))))
def d__law_pier : CD := ⟨3, 10, b__law_pier⟩
def f__law_pier : Dfn := ⟨"_law_pier", top 135, ["pot", "wrench", "x", "head", "here", "y", "joints", "stones", "turn", "stone"], ["pot", "wrench", "x"], d__law_pier⟩
def b__law_take : CB := (.cons (.ret (.blt .tuple1 (.cons (.lc (.call 5 (.cons (.var 2) (.cons (.var 1) .nil))) (.name 2) (.seq (.var 0)) .nil [2]) .nil)))
    .nil)
def d__law_take : CD := ⟨2, 3, b__law_take⟩
def f__law_take : Dfn := ⟨"_law_take", top 110, ["row", "ratio", "one"], ["row", "ratio"], d__law_take⟩
def b__law_bridge : CB := (.cons (.asg (.tup (.cons (.name 2) (.cons (.name 3) (.cons (.name 4) (.cons (.name 5) (.cons (.name 6) .nil)))))) (.tup (.cons (.lst .nil) (.cons (.lst .nil) (.cons (.lst .nil) (.cons (.int 0) (.cons .non .nil)))))))
    (.cons (.loop (.name 7) (.rng1 (.bin .add (.int 1) (.call 0 (.cons (.var 0) (.cons (.var 1) .nil))))) (.cons (.par [8, 9] (.cons (.bin .add (.int 1) (.call 0 (.cons (.var 0) (.cons (.int 3) .nil)))) (.cons (.bin .add (.int 4) (.call 0 (.cons (.var 0) (.cons (.int 20) .nil)))) .nil)))
    (.cons (.asg (.name 10) (.bin .add (.int 4) (.call 0 (.cons (.var 0) (.cons (.int 10) .nil)))))
    (.cons (.asg (.name 11) (.tup (.cons (.tup (.cons (.var 9) (.cons (.int 1) .nil))) (.cons (.tup (.cons (.var 10) (.cons (.int 1) .nil))) (.cons (.tup (.cons (.bin .sub (.bin .mul (.var 5) (.var 10)) (.bin .mul (.call 0 (.cons (.var 0) (.cons (.int 4) .nil))) (.var 9))) (.cons (.int 1) .nil))) .nil)))))
    (.cons (.ite (.cmp .notN (.var 6) .non) (.cons (.app (.var 3) (.call 12 (.cons (.var 0) (.cons (.call 8 (.cons (.var 6) (.cons (.call 13 (.cons (.var 11) (.cons (.tup (.cons (.neg (.int 1)) (.cons (.int 1) .nil))) .nil))) .nil))) (.cons (.bin .sub (.var 5) (.int 3)) .nil)))))
    .nil) .nil)
    (.cons (.asg (.tup (.cons (.name 12) (.cons (.name 6) (.cons (.name 5) .nil)))) (.call 10 (.cons (.var 0) (.cons (.var 11) (.cons (.var 5) (.cons (.var 8) .nil))))))
    (.cons (.app (.var 2) (.var 12))
    (.cons (.app (.var 4) (.var 11))
    (.cons (.asg (.name 5) (.bin .add (.var 5) (.int 4)))
    .nil)))))))))
    (.cons (.asg (.name 13) (.gc (.blt .len (.cons (.call 11 (.cons (.tup (.cons (.str "bridge") (.cons (.blt .tuple1 (.cons (.var 2) .nil)) (.cons (.blt .tuple1 (.cons (.var 3) .nil)) (.cons (.tup (.cons (.tup .nil) .nil)) .nil))))) .nil)) .nil))))
    (.cons (.asg (.name 14) (.lc (.tup (.cons (.call 0 (.cons (.var 0) (.cons (.var 13) .nil))) (.cons (.call 0 (.cons (.var 0) (.cons (.var 5) .nil))) (.cons (.bin .add (.int 1) (.call 0 (.cons (.var 0) (.cons (.int 30) .nil)))) .nil)))) (.name 7) (.rng1 (.bin .add (.int 1) (.call 0 (.cons (.var 0) (.cons (.int 2) .nil))))) .nil [7]))
    (.cons (.ret (.tup (.cons (.tup (.cons (.str "bridge") (.cons (.blt .tuple1 (.cons (.var 2) .nil)) (.cons (.blt .tuple1 (.cons (.var 3) .nil)) (.cons (.tup (.cons (.tup .nil) (.cons (.gc (.blt .tuple1 (.cons (.blt .sset (.cons (.var 14) .nil)) .nil))) .nil))) .nil))))) (.cons (.blt .tuple1 (.cons (.var 4) .nil)) .nil))))
    .nil)))))
def d__law_bridge : CD := ⟨2, 15, b__law_bridge⟩
def f__law_bridge : Dfn := ⟨"_law_bridge", top 136, ["pot", "most", "arches", "piers", "thrust", "x", "late", "turn", "many", "push", "up", "wrench", "arch", "count", "carts"], ["pot", "most"], d__law_bridge⟩
def b__law_lines : CB := (.cons (.par [1, 2, 3] (.cons (.lst .nil) (.cons (.int 0) (.cons (.int 0) .nil))))
    (.cons (.loop (.tup (.cons (.name 4) (.cons (.tup (.cons (.name 5) (.cons (.name 6) .nil))) .nil))) (.enum (.idx (.var 0) (.int 1))) (.cons (.app (.var 1) (.tup (.cons (.str "arch") (.cons (.var 5) (.cons (.var 2) (.cons (.var 3) .nil))))))
    (.cons (.par [2, 3] (.cons (.bin .add (.var 2) (.blt .len (.cons (.var 5) .nil))) (.cons (.bin .add (.var 3) (.blt .len (.cons (.var 6) .nil))) .nil)))
    (.cons (.ite (.cmp .lt (.var 4) (.blt .len (.cons (.idx (.var 0) (.int 2)) .nil))) (.cons (.app (.var 1) (.tup (.cons (.str "pier") (.cons (.idx (.idx (.idx (.var 0) (.int 2)) (.var 4)) (.int 1)) (.cons (.var 2) (.cons (.var 3) .nil))))))
    (.cons (.par [2, 3] (.cons (.bin .add (.var 2) (.blt .len (.cons (.idx (.idx (.idx (.var 0) (.int 2)) (.var 4)) (.int 1)) .nil))) (.cons (.bin .add (.bin .add (.var 3) (.int 1)) (.blt .len (.cons (.idx (.idx (.idx (.var 0) (.int 2)) (.var 4)) (.int 2)) .nil))) .nil)))
    .nil)) .nil)
    .nil))))
    (.cons (.ret (.var 1))
    .nil)))
def d__law_lines : CD := ⟨1, 7, b__law_lines⟩
def f__law_lines : Dfn := ⟨"_law_lines", top 114, ["bridge", "found", "joint", "stone", "at", "joints", "stones"], ["bridge"], d__law_lines⟩
def b__law_joints : CB := (.cons (.asg (.name 1) (.lst .nil))
    (.cons (.loop (.tup (.cons (.name 2) (.cons (.name 3) (.cons (.name 4) (.cons (.name 5) .nil))))) (.seq (.call 15 (.cons (.var 0) .nil))) (.cons (.ext (.var 1) (.blt .list1 (.cons (.var 3) .nil)))
    .nil))
    (.cons (.ret (.var 1))
    .nil)))
def d__law_joints : CD := ⟨1, 6, b__law_joints⟩
def f__law_joints : Dfn := ⟨"_law_joints", top 116, ["bridge", "found", "kind", "joints", "joint", "stone"], ["bridge"], d__law_joints⟩
def b__law_loads : CB := (.cons (.asg (.name 2) (.lc (.call 9 (.cons (.var 4) (.cons (.var 5) .nil))) (.tup (.cons (.name 4) (.cons (.name 5) .nil))) (.seq (.call 11 (.cons (.var 0) .nil))) .nil [4, 5]))
    (.cons (.loop (.tup (.cons (.name 3) (.cons (.name 4) (.cons (.name 5) .nil)))) (.seq (.ite (.cmp .notN (.var 1) .non) (.idx (.idx (.var 0) (.int 3)) (.var 1)) (.tup .nil))) (.cons (.asg (.sub (.var 2) (.var 3)) (.call 8 (.cons (.idx (.var 2) (.var 3)) (.cons (.call 9 (.cons (.var 4) (.cons (.var 5) .nil))) .nil))))
    .nil))
    (.cons (.ret (.ite (.cmp .notN (.var 1) .non) (.var 2) (.gc (.bin .mul (.lst (.cons (.tup (.cons (.tup (.cons (.int 0) (.cons (.int 1) .nil))) (.cons (.tup (.cons (.int 0) (.cons (.int 1) .nil))) (.cons (.tup (.cons (.int 0) (.cons (.int 1) .nil))) .nil)))) .nil)) (.blt .len (.cons (.var 2) .nil))))))
    .nil)))
def d__law_loads : CD := ⟨2, 6, b__law_loads⟩
def f__law_loads : Dfn := ⟨"_law_loads", top 119, ["bridge", "state", "found", "stone", "x", "weight"], ["bridge", "state"], d__law_loads⟩
def b__law_passed : CB := (.cons (.asg (.tup (.cons (.name 3) (.cons (.name 4) (.cons (.name 5) (.cons (.name 6) .nil))))) (.tup (.cons (.call 17 (.cons (.var 0) (.cons (.var 1) .nil))) (.cons (.lst .nil) (.cons (.int 0) (.cons .non .nil))))))
    (.cons (.loop (.tup (.cons (.name 7) (.cons (.name 8) (.cons (.name 9) (.cons (.name 10) .nil))))) (.seq (.call 15 (.cons (.var 0) .nil))) (.cons (.ite (.cmp .eq (.var 7) (.str "arch")) (.cons (.par [11, 12] (.cons (.idx (.var 2) (.var 5)) (.cons (.spc .lrng2 (.cons (.var 10) (.cons (.bin .sub (.bin .add (.var 10) (.blt .len (.cons (.var 8) .nil))) (.int 1)) .nil))) .nil)))
    (.cons (.asg (.name 5) (.bin .add (.var 5) (.int 1)))
    .nil)) (.cons (.asg (.name 11) (.call 8 (.cons (.call 8 (.cons (.var 6) (.cons (.call 13 (.cons (.idx (.var 2) (.var 5)) (.cons (.tup (.cons (.neg (.int 1)) (.cons (.int 1) .nil))) .nil))) .nil))) (.cons (.idx (.var 3) (.var 10)) .nil))))
    (.cons (.asg (.name 12) (.spc .lrng2 (.cons (.bin .add (.var 10) (.int 1)) (.cons (.bin .add (.var 10) (.blt .len (.cons (.var 8) .nil))) .nil))))
    .nil)))
    (.cons (.app (.var 4) (.var 11))
    (.cons (.loop (.name 13) (.seq (.var 12)) (.cons (.asg (.name 11) (.call 8 (.cons (.var 11) (.cons (.idx (.var 3) (.var 13)) .nil))))
    (.cons (.app (.var 4) (.var 11))
    .nil)))
    (.cons (.asg (.name 6) (.var 11))
    .nil)))))
    (.cons (.ret (.var 4))
    .nil)))
def d__law_passed : CD := ⟨3, 14, b__law_passed⟩
def f__law_passed : Dfn := ⟨"_law_passed", top 120, ["bridge", "state", "thrust", "loads", "found", "arch", "late", "kind", "joints", "joint", "stone", "here", "stones", "number"], ["bridge", "state", "thrust"], d__law_passed⟩
def b__law_lean : CB := (.cons (.asg (.tup (.cons (.name 3) (.cons (.name 4) .nil))) (.idx (.var 1) (.var 2)))
    (.cons (.asg (.name 5) (.call 4 (.cons (.call 4 (.cons (.call 5 (.cons (.tup (.cons (.var 3) (.cons (.int 1) .nil))) (.cons (.idx (.var 0) (.int 1)) .nil))) (.cons (.call 5 (.cons (.tup (.cons (.var 4) (.cons (.int 1) .nil))) (.cons (.idx (.var 0) (.int 0)) .nil))) .nil))) (.cons (.idx (.var 0) (.int 2)) .nil))))
    (.cons (.ret (.ite (.cmp .eq (.var 2) (.int 0)) (.var 5) (.tup (.cons (.bin .sub (.int 0) (.idx (.var 5) (.int 0))) (.cons (.idx (.var 5) (.int 1)) .nil)))))
    .nil)))
def d__law_lean : CD := ⟨3, 6, b__law_lean⟩
def f__law_lean : Dfn := ⟨"_law_lean", top 113, ["wrench", "joint", "end", "x", "y", "told_v"], ["wrench", "joint", "end"], d__law_lean⟩
def b__law_leans : CB := (.cons (.asg (.name 3) (.lst .nil))
    (.cons (.loop (.tup (.cons (.name 4) (.cons (.name 5) .nil))) (.zip (.call 16 (.cons (.var 0) .nil)) (.call 18 (.cons (.var 0) (.cons (.var 1) (.cons (.var 2) .nil))))) (.cons (.app (.var 3) (.tup (.cons (.call 19 (.cons (.var 5) (.cons (.var 4) (.cons (.int 0) .nil)))) (.cons (.call 19 (.cons (.var 5) (.cons (.var 4) (.cons (.int 1) .nil)))) .nil))))
    .nil))
    (.cons (.ret (.var 3))
    .nil)))
def d__law_leans : CD := ⟨3, 6, b__law_leans⟩
def f__law_leans : Dfn := ⟨"_law_leans", top 121, ["bridge", "state", "thrust", "found", "joint", "wrench"], ["bridge", "state", "thrust"], d__law_leans⟩
def b__law_is_firm : CB := (.cons (.ret (.blt .all1 (.cons (.lc (.and (.cmp .ge (.idx (.var 3) (.int 0)) (.int 0)) (.cmp .ge (.idx (.var 4) (.int 0)) (.int 0))) (.tup (.cons (.name 3) (.cons (.name 4) .nil))) (.seq (.call 20 (.cons (.var 0) (.cons (.var 1) (.cons (.var 2) .nil))))) .nil [3, 4]) .nil)))
    .nil)
def d__law_is_firm : CD := ⟨3, 5, b__law_is_firm⟩
def f__law_is_firm : Dfn := ⟨"_law_is_firm", top 122, ["bridge", "state", "thrust", "one", "other"], ["bridge", "state", "thrust"], d__law_is_firm⟩
def b_is_row : CB := (.cons (.ret (.and (.isi (.var 0) .tup) (.cmp .eq (.blt .len (.cons (.var 0) .nil)) (.var 1))))
    .nil)
def d_is_row : CD := ⟨2, 2, b_is_row⟩
def f_is_row : Dfn := ⟨"is_row", top 15, ["value", "many"], ["value", "many"], d_is_row⟩
def b_is_integer : CB := (.cons (.ret (.and (.isi (.var 0) .int) (.not (.isi (.var 0) .bool))))
    .nil)
def d_is_integer : CD := ⟨1, 1, b_is_integer⟩
def f_is_integer : Dfn := ⟨"is_integer", top 13, ["value"], ["value"], d_is_integer⟩
def b_is_ratio : CB := (.cons (.ite (.or (.not (.call 22 (.cons (.var 0) (.cons (.int 2) .nil)))) (.or (.not (.call 23 (.cons (.idx (.var 0) (.int 0)) .nil))) (.not (.call 23 (.cons (.idx (.var 0) (.int 1)) .nil))))) (.cons (.ret (.bl false))
    .nil) .nil)
    (.cons (.ret (.and (.chain .lt .lt (.int 0) (.idx (.var 0) (.int 1)) (.glb 0)) (.and (.chain .lt .lt (.neg (.glb 0)) (.idx (.var 0) (.int 0)) (.glb 0)) (.cmp .eq (.blt .gcd (.cons (.idx (.var 0) (.int 0)) (.cons (.idx (.var 0) (.int 1)) .nil))) (.int 1)))))
    .nil))
def d_is_ratio : CD := ⟨1, 1, b_is_ratio⟩
def f_is_ratio : Dfn := ⟨"is_ratio", top 29, ["value"], ["value"], d_is_ratio⟩
def b_is_wrench : CB := (.cons (.ret (.and (.call 22 (.cons (.var 0) (.cons (.int 3) .nil))) (.gc (.blt .all1 (.cons (.lc (.call 24 (.cons (.var 1) .nil)) (.name 1) (.seq (.var 0)) .nil [1]) .nil)))))
    .nil)
def d_is_wrench : CD := ⟨1, 2, b_is_wrench⟩
def f_is_wrench : Dfn := ⟨"is_wrench", top 40, ["value", "part"], ["value"], d_is_wrench⟩
def b_is_thrust_in : CB := (.cons (.ret (.and (.call 22 (.cons (.var 1) (.cons (.blt .len (.cons (.idx (.var 0) (.int 1)) .nil)) .nil))) (.gc (.blt .all1 (.cons (.lc (.call 25 (.cons (.var 2) .nil)) (.name 2) (.seq (.var 1)) .nil [2]) .nil)))))
    .nil)
def d_is_thrust_in : CD := ⟨2, 3, b_is_thrust_in⟩
def f_is_thrust_in : Dfn := ⟨"is_thrust_in", top 73, ["bridge", "value", "wrench"], ["bridge", "value"], d_is_thrust_in⟩
def b_is_upright : CB := (.cons (.ret (.blt .all1 (.cons (.lc (.and (.cmp .ge (.idx (.idx (.var 1) (.int 0)) (.int 0)) (.int 0)) (.cmp .ge (.idx (.idx (.var 1) (.int 1)) (.int 0)) (.int 0))) (.name 1) (.seq (.var 0)) .nil [1]) .nil)))
    .nil)
def d_is_upright : CD := ⟨1, 2, b_is_upright⟩
def f_is_upright : Dfn := ⟨"is_upright", top 72, ["pairs", "pair"], ["pairs"], d_is_upright⟩
def b_parts_in : CB := (.cons (.par [1, 2, 3] (.cons (.lst .nil) (.cons (.int 0) (.cons (.int 0) .nil))))
    (.cons (.loop (.tup (.cons (.name 4) (.cons (.tup (.cons (.name 5) (.cons (.name 6) .nil))) .nil))) (.enum (.idx (.var 0) (.int 1))) (.cons (.app (.var 1) (.tup (.cons (.str "arch") (.cons (.var 4) (.cons (.var 5) (.cons (.var 6) (.cons (.var 2) (.cons (.var 3) .nil))))))))
    (.cons (.par [2, 3] (.cons (.bin .add (.var 2) (.blt .len (.cons (.var 5) .nil))) (.cons (.bin .add (.var 3) (.blt .len (.cons (.var 6) .nil))) .nil)))
    (.cons (.ite (.cmp .lt (.var 4) (.blt .len (.cons (.idx (.var 0) (.int 2)) .nil))) (.cons (.asg (.tup (.cons (.name 7) (.cons (.name 8) (.cons (.name 9) .nil)))) (.idx (.idx (.var 0) (.int 2)) (.var 4)))
    (.cons (.app (.var 1) (.tup (.cons (.str "pier") (.cons (.var 4) (.cons (.var 8) (.cons (.bin .add (.tup (.cons (.var 7) .nil)) (.var 9)) (.cons (.var 2) (.cons (.var 3) .nil))))))))
    (.cons (.par [2, 3] (.cons (.bin .add (.var 2) (.blt .len (.cons (.var 8) .nil))) (.cons (.bin .add (.bin .add (.var 3) (.int 1)) (.blt .len (.cons (.var 9) .nil))) .nil)))
    .nil))) .nil)
    .nil))))
    (.cons (.ret (.var 1))
    .nil)))
def d_parts_in : CD := ⟨1, 10, b_parts_in⟩
def f_parts_in : Dfn := ⟨"parts_in", top 57, ["bridge", "told", "joint", "stone", "at", "joints", "stones", "head", "deep", "below"], ["bridge"], d_parts_in⟩
def b_fraction : CB := (.cons (.asg (.name 2) (.blt .gcd (.cons (.var 0) (.cons (.var 1) .nil))))
    (.cons (.ite (.cmp .lt (.var 1) (.int 0)) (.cons (.asg (.name 2) (.neg (.var 2)))
    .nil) .nil)
    (.cons (.ret (.tup (.cons (.bin .fdiv (.var 0) (.var 2)) (.cons (.bin .fdiv (.var 1) (.var 2)) .nil))))
    .nil)))
def d_fraction : CD := ⟨2, 3, b_fraction⟩
def f_fraction : Dfn := ⟨"fraction", top 22, ["number", "under", "part"], ["number", "under"], d_fraction⟩
def b_plus : CB := (.cons (.ite (.cmp .eq (.idx (.var 0) (.int 1)) (.idx (.var 1) (.int 1))) (.cons (.ret (.call 29 (.cons (.bin .add (.idx (.var 0) (.int 0)) (.idx (.var 1) (.int 0))) (.cons (.idx (.var 0) (.int 1)) .nil))))
    .nil) .nil)
    (.cons (.ret (.call 29 (.cons (.bin .add (.bin .mul (.idx (.var 0) (.int 0)) (.idx (.var 1) (.int 1))) (.bin .mul (.idx (.var 1) (.int 0)) (.idx (.var 0) (.int 1)))) (.cons (.bin .mul (.idx (.var 0) (.int 1)) (.idx (.var 1) (.int 1))) .nil))))
    .nil))
def d_plus : CD := ⟨2, 2, b_plus⟩
def f_plus : Dfn := ⟨"plus", top 23, ["near", "far"], ["near", "far"], d_plus⟩
def b_sum_in : CB := (.cons (.ret (.tup (.cons (.call 30 (.cons (.idx (.var 0) (.int 0)) (.cons (.idx (.var 1) (.int 0)) .nil))) (.cons (.call 30 (.cons (.idx (.var 0) (.int 1)) (.cons (.idx (.var 1) (.int 1)) .nil))) (.cons (.call 30 (.cons (.idx (.var 0) (.int 2)) (.cons (.idx (.var 1) (.int 2)) .nil))) .nil)))))
    .nil)
def d_sum_in : CD := ⟨2, 2, b_sum_in⟩
def f_sum_in : Dfn := ⟨"sum_in", top 35, ["near", "far"], ["near", "far"], d_sum_in⟩
def b_opposite : CB := (.cons (.ret (.tup (.cons (.neg (.idx (.var 0) (.int 0))) (.cons (.idx (.var 0) (.int 1)) .nil))))
    .nil)
def d_opposite : CD := ⟨1, 1, b_opposite⟩
def f_opposite : Dfn := ⟨"opposite", top 24, ["ratio"], ["ratio"], d_opposite⟩
def b_less_in : CB := (.cons (.ret (.call 31 (.cons (.var 0) (.cons (.tup (.cons (.call 32 (.cons (.idx (.var 1) (.int 0)) .nil)) (.cons (.call 32 (.cons (.idx (.var 1) (.int 1)) .nil)) (.cons (.call 32 (.cons (.idx (.var 1) (.int 2)) .nil)) .nil)))) .nil))))
    .nil)
def d_less_in : CD := ⟨2, 2, b_less_in⟩
def f_less_in : Dfn := ⟨"less_in", top 37, ["near", "far"], ["near", "far"], d_less_in⟩
def b_passed_in : CB := (.cons (.par [3, 4] (.cons (.lst .nil) (.cons (.glb 1) .nil)))
    (.cons (.loop (.tup (.cons (.name 5) (.cons (.name 6) (.cons (.name 7) (.cons (.name 8) (.cons (.name 9) (.cons (.name 10) .nil))))))) (.seq (.call 28 (.cons (.var 0) .nil))) (.cons (.asg (.name 11) (.idx (.var 2) (.var 6)))
    (.cons (.ite (.cmp .eq (.var 5) (.str "pier")) (.cons (.asg (.name 11) (.call 31 (.cons (.call 33 (.cons (.var 4) (.cons (.idx (.var 2) (.bin .add (.var 6) (.int 1))) .nil))) (.cons (.idx (.var 1) (.var 10)) .nil))))
    (.cons (.asg (.name 10) (.bin .add (.var 10) (.int 1)))
    .nil)) .nil)
    (.cons (.loop (.name 12) (.rng1 (.blt .len (.cons (.var 7) .nil))) (.cons (.app (.var 3) (.var 11))
    (.cons (.ite (.cmp .lt (.var 12) (.bin .sub (.blt .len (.cons (.var 7) .nil)) (.int 1))) (.cons (.asg (.name 11) (.call 31 (.cons (.var 11) (.cons (.idx (.var 1) (.bin .add (.var 10) (.var 12))) .nil))))
    .nil) .nil)
    .nil)))
    (.cons (.asg (.name 4) (.var 11))
    .nil)))))
    (.cons (.ret (.var 3))
    .nil)))
def d_passed_in : CD := ⟨3, 13, b_passed_in⟩
def f_passed_in : Dfn := ⟨"passed_in", top 70, ["bridge", "all_loads", "thrust", "found", "last", "kind", "at", "joints", "stones", "joint", "stone", "wrench", "place"], ["bridge", "all_loads", "thrust"], d_passed_in⟩
def b_joints_in : CB := (.cons (.ret (.blt .tuple1 (.cons (.lc2 (.var 2) (.name 1) (.seq (.call 28 (.cons (.var 0) .nil))) .nil (.name 2) (.seq (.idx (.var 1) (.int 2))) .nil [1, 2]) .nil)))
    .nil)
def d_joints_in : CD := ⟨1, 3, b_joints_in⟩
def f_joints_in : Dfn := ⟨"joints_in", top 59, ["bridge", "part", "joint"], ["bridge"], d_joints_in⟩
def b_product : CB := (.cons (.ret (.call 29 (.cons (.bin .mul (.idx (.var 0) (.int 0)) (.idx (.var 1) (.int 0))) (.cons (.bin .mul (.idx (.var 0) (.int 1)) (.idx (.var 1) (.int 1))) .nil))))
    .nil)
def d_product : CD := ⟨2, 2, b_product⟩
def f_product : Dfn := ⟨"product", top 26, ["near", "far"], ["near", "far"], d_product⟩
def b_whole : CB := (.cons (.ret (.tup (.cons (.var 0) (.cons (.int 1) .nil))))
    .nil)
def d_whole : CD := ⟨1, 1, b_whole⟩
def f_whole : Dfn := ⟨"whole", top 28, ["number"], ["number"], d_whole⟩
def b_minus : CB := (.cons (.ret (.call 30 (.cons (.var 0) (.cons (.call 32 (.cons (.var 1) .nil)) .nil))))
    .nil)
def d_minus : CD := ⟨2, 2, b_minus⟩
def f_minus : Dfn := ⟨"minus", top 25, ["near", "far"], ["near", "far"], d_minus⟩
def b_moment_in : CB := (.cons (.asg (.name 2) (.call 36 (.cons (.idx (.var 0) (.int 1)) (.cons (.call 37 (.cons (.idx (.var 1) (.int 0)) .nil)) .nil))))
    (.cons (.ret (.call 30 (.cons (.call 38 (.cons (.idx (.var 0) (.int 2)) (.cons (.var 2) .nil))) (.cons (.call 36 (.cons (.idx (.var 0) (.int 0)) (.cons (.call 37 (.cons (.idx (.var 1) (.int 1)) .nil)) .nil))) .nil))))
    .nil))
def d_moment_in : CD := ⟨2, 3, b_moment_in⟩
def f_moment_in : Dfn := ⟨"moment_in", top 38, ["wrench", "point", "across"], ["wrench", "point"], d_moment_in⟩
def b_lean_in : CB := (.cons (.asg (.name 3) (.call 39 (.cons (.var 0) (.cons (.idx (.var 1) (.var 2)) .nil))))
    (.cons (.ret (.ite (.cmp .eq (.var 2) (.int 1)) (.var 3) (.call 32 (.cons (.var 3) .nil))))
    .nil))
def d_lean_in : CD := ⟨3, 4, b_lean_in⟩
def f_lean_in : Dfn := ⟨"lean_in", top 39, ["wrench", "joint", "end", "moment"], ["wrench", "joint", "end"], d_lean_in⟩
def b_leans_in : CB := (.cons (.asg (.name 3) (.call 34 (.cons (.var 0) (.cons (.var 1) (.cons (.var 2) .nil)))))
    (.cons (.asg (.name 4) (.call 35 (.cons (.var 0) .nil)))
    (.cons (.ret (.lc (.tup (.cons (.call 40 (.cons (.var 5) (.cons (.var 6) (.cons (.int 0) .nil)))) (.cons (.call 40 (.cons (.var 5) (.cons (.var 6) (.cons (.int 1) .nil)))) .nil))) (.tup (.cons (.name 5) (.cons (.name 6) .nil))) (.zip (.var 3) (.var 4)) .nil [5, 6]))
    .nil)))
def d_leans_in : CD := ⟨3, 7, b_leans_in⟩
def f_leans_in : Dfn := ⟨"leans_in", top 71, ["bridge", "all_loads", "thrust", "wrenches", "joints", "wrench", "joint"], ["bridge", "all_loads", "thrust"], d_leans_in⟩
def b_stones_in : CB := (.cons (.ret (.blt .tuple1 (.cons (.lc2 (.var 2) (.name 1) (.seq (.call 28 (.cons (.var 0) .nil))) .nil (.name 2) (.seq (.idx (.var 1) (.int 3))) .nil [1, 2]) .nil)))
    .nil)
def d_stones_in : CD := ⟨1, 3, b_stones_in⟩
def f_stones_in : Dfn := ⟨"stones_in", top 58, ["bridge", "part", "stone"], ["bridge"], d_stones_in⟩
def b_no_loads : CB := (.cons (.ret (.lc (.glb 1) (.name 1) (.seq (.call 42 (.cons (.var 0) .nil))) .nil [1]))
    .nil)
def d_no_loads : CD := ⟨1, 2, b_no_loads⟩
def f_no_loads : Dfn := ⟨"no_loads", top 89, ["bridge", "stone"], ["bridge"], d_no_loads⟩
def b_is_push_in : CB := (.cons (.ret (.and (.call 26 (.cons (.var 0) (.cons (.var 1) .nil))) (.gc (.call 27 (.cons (.gc (.call 41 (.cons (.var 0) (.cons (.call 43 (.cons (.var 0) .nil)) (.cons (.var 1) .nil))))) .nil)))))
    .nil)
def d_is_push_in : CD := ⟨2, 2, b_is_push_in⟩
def f_is_push_in : Dfn := ⟨"is_push_in", top 90, ["bridge", "value"], ["bridge", "value"], d_is_push_in⟩
def b_want_push : CB := (.cons (.ite (.not (.call 44 (.cons (.var 0) (.cons (.var 1) .nil)))) (.cons .nev
    .nil) .nil)
    (.cons (.ret (.var 1))
    .nil))
def d_want_push : CD := ⟨2, 2, b_want_push⟩
def f_want_push : Dfn := ⟨"want_push", top 91, ["bridge", "value"], ["bridge", "value"], d_want_push⟩
def b_foot_count : CB := (.cons (.ret (.bin .add (.blt .len (.cons (.idx (.var 0) (.int 1)) .nil)) (.int 1)))
    .nil)
def d_foot_count : CD := ⟨1, 1, b_foot_count⟩
def f_foot_count : Dfn := ⟨"foot_count", top 83, ["bridge"], ["bridge"], d_foot_count⟩
def b_is_move : CB := (.cons (.ret (.and (.call 22 (.cons (.var 0) (.cons (.int 3) .nil))) (.gc (.blt .all1 (.cons (.lc (.call 24 (.cons (.var 1) .nil)) (.name 1) (.seq (.var 0)) .nil [1]) .nil)))))
    .nil)
def d_is_move : CD := ⟨1, 2, b_is_move⟩
def f_is_move : Dfn := ⟨"is_move", top 79, ["value", "part"], ["value"], d_is_move⟩
def b_is_movement_in : CB := (.cons (.ret (.and (.call 22 (.cons (.var 1) (.cons (.call 46 (.cons (.var 0) .nil)) .nil))) (.gc (.blt .all1 (.cons (.lc (.call 47 (.cons (.var 2) .nil)) (.name 2) (.seq (.var 1)) .nil [2]) .nil)))))
    .nil)
def d_is_movement_in : CD := ⟨2, 3, b_is_movement_in⟩
def f_is_movement_in : Dfn := ⟨"is_movement_in", top 84, ["bridge", "value", "move"], ["bridge", "value"], d_is_movement_in⟩
def b_want_movement : CB := (.cons (.ite (.not (.call 48 (.cons (.var 0) (.cons (.var 1) .nil)))) (.cons .nev
    .nil) .nil)
    (.cons (.ret (.var 1))
    .nil))
def d_want_movement : CD := ⟨2, 2, b_want_movement⟩
def f_want_movement : Dfn := ⟨"want_movement", top 85, ["bridge", "value"], ["bridge", "value"], d_want_movement⟩
def b_shown : CB := (.cons (.ite (.not (.and (.cmp .lt (.idx (.var 0) (.int 1)) (.glb 0)) (.chain .lt .lt (.neg (.glb 0)) (.idx (.var 0) (.int 0)) (.glb 0)))) (.cons .nev
    .nil) .nil)
    (.cons (.ret (.var 0))
    .nil))
def d_shown : CD := ⟨1, 1, b_shown⟩
def f_shown : Dfn := ⟨"shown", top 31, ["ratio"], ["ratio"], d_shown⟩
def b_is_rising : CB := (.cons (.ret (.blt .all1 (.cons (.lc (.cmp .lt (.idx (.var 0) (.bin .sub (.var 1) (.int 1))) (.idx (.var 0) (.var 1))) (.name 1) (.rng2 (.int 1) (.blt .len (.cons (.var 0) .nil))) .nil [1]) .nil)))
    .nil)
def d_is_rising : CD := ⟨1, 2, b_is_rising⟩
def f_is_rising : Dfn := ⟨"is_rising", top 17, ["value", "at"], ["value"], d_is_rising⟩
def b_is_between : CB := (.cons (.ret (.and (.isi (.var 0) .tup) (.chain .le .le (.var 1) (.blt .len (.cons (.var 0) .nil)) (.var 2))))
    .nil)
def d_is_between : CD := ⟨3, 3, b_is_between⟩
def f_is_between : Dfn := ⟨"is_between", top 16, ["value", "low", "high"], ["value", "low", "high"], d_is_between⟩
def b_is_within : CB := (.cons (.ret (.and (.call 23 (.cons (.var 0) .nil)) (.chain .le .le (.var 1) (.var 0) (.var 2))))
    .nil)
def d_is_within : CD := ⟨3, 3, b_is_within⟩
def f_is_within : Dfn := ⟨"is_within", top 14, ["value", "low", "high"], ["value", "low", "high"], d_is_within⟩
def b_is_point : CB := (.cons (.ite (.not (.call 22 (.cons (.var 0) (.cons (.int 2) .nil)))) (.cons (.ret (.bl false))
    .nil) .nil)
    (.cons (.ret (.blt .all1 (.cons (.lc (.call 53 (.cons (.var 1) (.cons (.neg (.glb 2)) (.cons (.glb 2) .nil)))) (.name 1) (.seq (.var 0)) .nil [1]) .nil)))
    .nil))
def d_is_point : CD := ⟨1, 2, b_is_point⟩
def f_is_point : Dfn := ⟨"is_point", top 41, ["value", "part"], ["value"], d_is_point⟩
def b_is_joint : CB := (.cons (.ret (.and (.call 22 (.cons (.var 0) (.cons (.int 2) .nil))) (.and (.call 54 (.cons (.idx (.var 0) (.int 0)) .nil)) (.and (.call 54 (.cons (.idx (.var 0) (.int 1)) .nil)) (.cmp .ne (.idx (.var 0) (.int 0)) (.idx (.var 0) (.int 1)))))))
    .nil)
def d_is_joint : CD := ⟨1, 1, b_is_joint⟩
def f_is_joint : Dfn := ⟨"is_joint", top 50, ["value"], ["value"], d_is_joint⟩
def b_is_stone : CB := (.cons (.ite (.or (.not (.call 22 (.cons (.var 0) (.cons (.int 2) .nil)))) (.not (.call 53 (.cons (.idx (.var 0) (.int 0)) (.cons (.neg (.glb 2)) (.cons (.glb 2) .nil)))))) (.cons (.ret (.bl false))
    .nil) .nil)
    (.cons (.ret (.call 53 (.cons (.idx (.var 0) (.int 1)) (.cons (.int 1) (.cons (.glb 3) .nil)))))
    .nil))
def d_is_stone : CD := ⟨1, 1, b_is_stone⟩
def f_is_stone : Dfn := ⟨"is_stone", top 51, ["value"], ["value"], d_is_stone⟩
def b__are_laid : CB := (.cons (.ite (.or (.not (.call 52 (.cons (.var 0) (.cons (.var 2) (.cons (.var 3) .nil))))) (.not (.call 22 (.cons (.var 1) (.cons (.bin .sub (.blt .len (.cons (.var 0) .nil)) (.int 1)) .nil))))) (.cons (.ret (.bl false))
    .nil) .nil)
    (.cons (.ret (.and (.gc (.blt .all1 (.cons (.lc (.call 55 (.cons (.var 4) .nil)) (.name 4) (.seq (.var 0)) .nil [4]) .nil))) (.gc (.blt .all1 (.cons (.lc (.call 56 (.cons (.var 4) .nil)) (.name 4) (.seq (.var 1)) .nil [4]) .nil)))))
    .nil))
def d__are_laid : CD := ⟨4, 5, b__are_laid⟩
def f__are_laid : Dfn := ⟨"_are_laid", top 52, ["joints", "stones", "least", "most", "one"], ["joints", "stones", "least", "most"], d__are_laid⟩
def b__is_arch : CB := (.cons (.ret (.and (.call 22 (.cons (.var 0) (.cons (.int 2) .nil))) (.call 57 (.cons (.idx (.var 0) (.int 0)) (.cons (.idx (.var 0) (.int 1)) (.cons (.int 2) (.cons (.glb 4) .nil)))))))
    .nil)
def d__is_arch : CD := ⟨1, 1, b__is_arch⟩
def f__is_arch : Dfn := ⟨"_is_arch", top 53, ["value"], ["value"], d__is_arch⟩
def b__is_pier : CB := (.cons (.ret (.and (.call 22 (.cons (.var 0) (.cons (.int 3) .nil))) (.and (.call 56 (.cons (.idx (.var 0) (.int 0)) .nil)) (.call 57 (.cons (.idx (.var 0) (.int 1)) (.cons (.idx (.var 0) (.int 2)) (.cons (.int 1) (.cons (.glb 5) .nil))))))))
    .nil)
def d__is_pier : CD := ⟨1, 1, b__is_pier⟩
def f__is_pier : Dfn := ⟨"_is_pier", top 54, ["value"], ["value"], d__is_pier⟩
def b_is_cart : CB := (.cons (.ret (.and (.call 22 (.cons (.var 0) (.cons (.int 3) .nil))) (.and (.call 53 (.cons (.idx (.var 0) (.int 0)) (.cons (.int 0) (.cons (.bin .sub (.var 1) (.int 1)) .nil)))) (.call 56 (.cons (.sl (.var 0) (.yes (.int 1)) .no) .nil)))))
    .nil)
def d_is_cart : CD := ⟨2, 2, b_is_cart⟩
def f_is_cart : Dfn := ⟨"is_cart", top 55, ["value", "count"], ["value", "count"], d_is_cart⟩
def b_is_load : CB := (.cons (.ret (.and (.call 52 (.cons (.var 0) (.cons (.int 0) (.cons (.glb 6) .nil)))) (.and (.gc (.blt .all1 (.cons (.lc (.call 60 (.cons (.var 2) (.cons (.var 1) .nil))) (.name 2) (.seq (.var 0)) .nil [2]) .nil))) (.call 51 (.cons (.var 0) .nil)))))
    .nil)
def d_is_load : CD := ⟨2, 3, b_is_load⟩
def f_is_load : Dfn := ⟨"is_load", top 56, ["value", "count", "one"], ["value", "count"], d_is_load⟩
def b_is_bridge : CB := (.cons (.ite (.or (.not (.call 22 (.cons (.var 0) (.cons (.int 4) .nil)))) (.or (.not (.isi (.idx (.var 0) (.int 0)) .str)) (.cmp .ne (.idx (.var 0) (.int 0)) (.str "bridge")))) (.cons (.ret (.bl false))
    .nil) .nil)
    (.cons (.ite (.or (.not (.call 52 (.cons (.idx (.var 0) (.int 1)) (.cons (.int 1) (.cons (.glb 8) .nil))))) (.not (.gc (.blt .all1 (.cons (.lc (.call 58 (.cons (.var 2) .nil)) (.name 2) (.seq (.idx (.var 0) (.int 1))) .nil [2]) .nil))))) (.cons (.ret (.bl false))
    .nil) .nil)
    (.cons (.ite (.or (.not (.call 22 (.cons (.idx (.var 0) (.int 2)) (.cons (.bin .sub (.blt .len (.cons (.idx (.var 0) (.int 1)) .nil)) (.int 1)) .nil)))) (.not (.gc (.blt .all1 (.cons (.lc (.call 59 (.cons (.var 2) .nil)) (.name 2) (.seq (.idx (.var 0) (.int 2))) .nil [2]) .nil))))) (.cons (.ret (.bl false))
    .nil) .nil)
    (.cons (.asg (.name 1) (.blt .len (.cons (.call 42 (.cons (.var 0) .nil)) .nil)))
    (.cons (.ite (.or (.not (.call 52 (.cons (.idx (.var 0) (.int 3)) (.cons (.int 1) (.cons (.glb 7) .nil))))) (.not (.gc (.blt .all1 (.cons (.lc (.call 61 (.cons (.var 2) (.cons (.var 1) .nil))) (.name 2) (.seq (.idx (.var 0) (.int 3))) .nil [2]) .nil))))) (.cons (.ret (.bl false))
    .nil) .nil)
    (.cons (.ret (.call 51 (.cons (.idx (.var 0) (.int 3)) .nil)))
    .nil))))))
def d_is_bridge : CD := ⟨1, 3, b_is_bridge⟩
def f_is_bridge : Dfn := ⟨"is_bridge", top 60, ["value", "count", "one"], ["value"], d_is_bridge⟩
def b_want_bridge : CB := (.cons (.ite (.not (.call 62 (.cons (.var 0) .nil))) (.cons .nev
    .nil) .nil)
    (.cons (.ret (.var 0))
    .nil))
def d_want_bridge : CD := ⟨1, 1, b_want_bridge⟩
def f_want_bridge : Dfn := ⟨"want_bridge", top 61, ["value"], ["value"], d_want_bridge⟩
def b_total : CB := (.cons (.asg (.name 1) (.glb 9))
    (.cons (.loop (.name 2) (.seq (.var 0)) (.cons (.asg (.name 1) (.call 30 (.cons (.var 1) (.cons (.var 2) .nil))))
    .nil))
    (.cons (.ret (.var 1))
    .nil)))
def d_total : CD := ⟨1, 3, b_total⟩
def f_total : Dfn := ⟨"total", top 27, ["ratios", "told", "ratio"], ["ratios"], d_total⟩
def b_worked : CB := (.cons (.ret (.call 64 (.cons (.lst (.cons (.call 36 (.cons (.idx (.var 0) (.int 0)) (.cons (.idx (.var 1) (.int 1)) .nil))) (.cons (.call 36 (.cons (.idx (.var 0) (.int 1)) (.cons (.idx (.var 1) (.int 2)) .nil))) (.cons (.call 36 (.cons (.idx (.var 0) (.int 2)) (.cons (.idx (.var 1) (.int 0)) .nil))) .nil)))) .nil)))
    .nil)
def d_worked : CD := ⟨2, 2, b_worked⟩
def f_worked : Dfn := ⟨"worked", top 82, ["wrench", "move"], ["wrench", "move"], d_worked⟩
def b_taken_in : CB := (.cons (.ret (.tup (.cons (.call 36 (.cons (.idx (.var 0) (.int 0)) (.cons (.var 1) .nil))) (.cons (.call 36 (.cons (.idx (.var 0) (.int 1)) (.cons (.var 1) .nil))) (.cons (.call 36 (.cons (.idx (.var 0) (.int 2)) (.cons (.var 1) .nil))) .nil)))))
    .nil)
def d_taken_in : CD := ⟨2, 2, b_taken_in⟩
def f_taken_in : Dfn := ⟨"taken_in", top 36, ["wrench", "ratio"], ["wrench", "ratio"], d_taken_in⟩
def b_onto_foot : CB := (.cons (.ite (.cmp .eq (.var 3) (.int 0)) (.cons (.ret (.call 66 (.cons (.idx (.var 2) (.int 0)) (.cons (.tup (.cons (.neg (.int 1)) (.cons (.int 1) .nil))) .nil))))
    .nil) .nil)
    (.cons (.asg (.name 4) (.call 34 (.cons (.var 0) (.cons (.var 1) (.cons (.var 2) .nil)))))
    (.cons (.asg (.name 5) (.lc (.bin .sub (.bin .add (.idx (.var 6) (.int 4)) (.blt .len (.cons (.idx (.var 6) (.int 2)) .nil))) (.int 1)) (.name 6) (.seq (.call 28 (.cons (.var 0) .nil))) (.cons (.cmp .eq (.idx (.var 6) (.int 0)) (.str "pier")) .nil) [6]))
    (.cons (.ret (.idx (.var 4) (.gc (.idx (.gc (.bin .add (.var 5) (.lst (.cons (.bin .sub (.blt .len (.cons (.var 4) .nil)) (.int 1)) .nil)))) (.bin .sub (.var 3) (.int 1))))))
    .nil))))
def d_onto_foot : CD := ⟨4, 7, b_onto_foot⟩
def f_onto_foot : Dfn := ⟨"onto_foot", top 76, ["bridge", "all_loads", "thrust", "foot", "wrenches", "lasts", "part"], ["bridge", "all_loads", "thrust", "foot"], d_onto_foot⟩
def b_borne_in : CB := (.cons (.ret (.lc (.call 67 (.cons (.var 0) (.cons (.var 1) (.cons (.var 2) (.cons (.var 3) .nil))))) (.name 3) (.rng1 (.call 46 (.cons (.var 0) .nil))) .nil [3]))
    .nil)
def d_borne_in : CD := ⟨3, 4, b_borne_in⟩
def f_borne_in : Dfn := ⟨"borne_in", top 87, ["bridge", "all_loads", "thrust", "foot"], ["bridge", "all_loads", "thrust"], d_borne_in⟩
def b_work_in : CB := (.cons (.ret (.call 64 (.cons (.lc (.call 65 (.cons (.var 4) (.cons (.var 5) .nil))) (.tup (.cons (.name 4) (.cons (.name 5) .nil))) (.zip (.call 68 (.cons (.var 0) (.cons (.var 1) (.cons (.var 2) .nil)))) (.var 3)) .nil [4, 5]) .nil)))
    .nil)
def d_work_in : CD := ⟨4, 6, b_work_in⟩
def f_work_in : Dfn := ⟨"work_in", top 88, ["bridge", "all_loads", "thrust", "movement", "wrench", "move"], ["bridge", "all_loads", "thrust", "movement"], d_work_in⟩
def b_push_work : CB := (.cons (.expr (.call 45 (.cons (.call 63 (.cons (.var 0) .nil)) (.cons (.var 1) .nil))))
    (.cons (.expr (.call 49 (.cons (.var 0) (.cons (.var 2) .nil))))
    (.cons (.ret (.call 50 (.cons (.gc (.call 69 (.cons (.var 0) (.cons (.call 43 (.cons (.var 0) .nil)) (.cons (.var 1) (.cons (.var 2) .nil)))))) .nil)))
    .nil)))
def d_push_work : CD := ⟨3, 3, b_push_work⟩
def f_push_work : Dfn := ⟨"push_work", top 98, ["bridge", "push", "movement"], ["bridge", "push", "movement"], d_push_work⟩
def b__law_ratio : CB := (.cons (.ret (.call 1 (.cons (.bin .sub (.call 0 (.cons (.var 0) (.cons (.bin .add (.bin .mul (.int 2) (.var 1)) (.int 1)) .nil))) (.var 1)) (.cons (.bin .add (.int 1) (.call 0 (.cons (.var 0) (.cons (.int 5) .nil)))) .nil))))
    .nil)
def d__law_ratio : CD := ⟨2, 2, b__law_ratio⟩
def f__law_ratio : Dfn := ⟨"_law_ratio", top 137, ["pot", "most"], ["pot", "most"], d__law_ratio⟩
def b__law_move : CB := (.cons (.ret (.tup (.cons (.call 71 (.cons (.var 0) (.cons (.int 6) .nil))) (.cons (.call 71 (.cons (.var 0) (.cons (.int 6) .nil))) (.cons (.call 71 (.cons (.var 0) (.cons (.int 6) .nil))) .nil)))))
    .nil)
def d__law_move : CD := ⟨1, 1, b__law_move⟩
def f__law_move : Dfn := ⟨"_law_move", top 138, ["pot"], ["pot"], d__law_move⟩
def b__law_sides : CB := (.cons (.par [1, 2, 3] (.cons (.lst .nil) (.cons (.neg (.int 1)) (.cons (.int 0) .nil))))
    (.cons (.loop (.tup (.cons (.name 4) (.cons (.name 5) (.cons (.name 6) (.cons (.name 7) .nil))))) (.seq (.call 15 (.cons (.var 0) .nil))) (.cons (.ite (.cmp .eq (.var 4) (.str "pier")) (.cons (.asg (.name 3) (.bin .add (.var 3) (.int 1)))
    (.cons (.asg (.name 8) (.gc (.bin .add (.spc .lrng2 (.cons (.var 7) (.cons (.bin .add (.var 7) (.blt .len (.cons (.var 5) .nil))) .nil))) (.lst (.cons (.bin .sub (.neg (.int 1)) (.var 3)) .nil)))))
    (.cons (.asg (.name 2) (.var 7))
    .nil))) (.cons (.asg (.name 9) (.cmp .eq (.bin .add (.var 6) (.blt .len (.cons (.var 5) .nil))) (.gc (.blt .len (.cons (.call 16 (.cons (.var 0) .nil)) .nil)))))
    (.cons (.asg (.name 10) (.spc .lrng2 (.cons (.var 7) (.cons (.bin .sub (.bin .add (.var 7) (.blt .len (.cons (.var 5) .nil))) (.int 1)) .nil))))
    (.cons (.asg (.name 8) (.gc (.bin .add (.gc (.bin .add (.lst (.cons (.var 2) .nil)) (.var 10))) (.lst (.cons (.ite (.var 9) (.bin .sub (.neg (.int 1)) (.blt .len (.cons (.idx (.var 0) (.int 1)) .nil))) (.bin .add (.var 7) (.blt .len (.cons (.var 10) .nil)))) .nil)))))
    .nil))))
    (.cons (.ext (.var 1) (.spc .lzip (.cons (.var 8) (.cons (.sl (.var 8) (.yes (.int 1)) .no) .nil))))
    .nil)))
    (.cons (.ret (.var 1))
    .nil)))
def d__law_sides : CD := ⟨1, 11, b__law_sides⟩
def f__law_sides : Dfn := ⟨"_law_sides", top 118, ["bridge", "found", "ahead", "foot", "kind", "joints", "joint", "stone", "row", "is_last", "inner"], ["bridge"], d__law_sides⟩
def b__law_borne : CB := (.cons (.asg (.name 3) (.lst (.cons (.call 13 (.cons (.idx (.var 2) (.int 0)) (.cons (.tup (.cons (.neg (.int 1)) (.cons (.int 1) .nil))) .nil))) .nil)))
    (.cons (.asg (.name 4) (.call 18 (.cons (.var 0) (.cons (.var 1) (.cons (.var 2) .nil)))))
    (.cons (.loop (.name 5) (.rng2 (.int 1) (.bin .add (.blt .len (.cons (.idx (.var 0) (.int 1)) .nil)) (.int 1))) (.cons (.ext (.var 3) (.lc (.idx (.var 4) (.var 6)) (.tup (.cons (.name 6) (.cons (.name 7) .nil))) (.enum (.call 73 (.cons (.var 0) .nil))) (.cons (.cmp .eq (.idx (.var 7) (.int 1)) (.bin .sub (.neg (.int 1)) (.var 5))) .nil) [6, 7]))
    .nil))
    (.cons (.ret (.var 3))
    .nil))))
def d__law_borne : CD := ⟨3, 8, b__law_borne⟩
def f__law_borne : Dfn := ⟨"_law_borne", top 123, ["bridge", "state", "thrust", "found", "wrenches", "foot", "at", "side"], ["bridge", "state", "thrust"], d__law_borne⟩
def b__law_sum : CB := (.cons (.asg (.name 1) (.tup (.cons (.int 0) (.cons (.int 1) .nil))))
    (.cons (.loop (.name 2) (.seq (.var 0)) (.cons (.asg (.name 1) (.call 3 (.cons (.var 1) (.cons (.var 2) .nil))))
    .nil))
    (.cons (.ret (.var 1))
    .nil)))
def d__law_sum : CD := ⟨1, 3, b__law_sum⟩
def f__law_sum : Dfn := ⟨"_law_sum", top 107, ["some", "found", "one"], ["some"], d__law_sum⟩
def b__law_works : CB := (.cons (.ret (.call 75 (.cons (.lst (.cons (.call 5 (.cons (.idx (.var 0) (.int 0)) (.cons (.idx (.var 1) (.int 1)) .nil))) (.cons (.call 5 (.cons (.idx (.var 0) (.int 1)) (.cons (.idx (.var 1) (.int 2)) .nil))) (.cons (.call 5 (.cons (.idx (.var 0) (.int 2)) (.cons (.idx (.var 1) (.int 0)) .nil))) .nil)))) .nil)))
    .nil)
def d__law_works : CD := ⟨2, 2, b__law_works⟩
def f__law_works : Dfn := ⟨"_law_works", top 111, ["wrench", "move"], ["wrench", "move"], d__law_works⟩
def b__law_work : CB := (.cons (.ret (.call 75 (.cons (.lc (.call 76 (.cons (.var 4) (.cons (.var 5) .nil))) (.tup (.cons (.name 4) (.cons (.name 5) .nil))) (.zip (.call 74 (.cons (.var 0) (.cons (.var 1) (.cons (.var 2) .nil)))) (.var 3)) .nil [4, 5]) .nil)))
    .nil)
def d__law_work : CD := ⟨4, 6, b__law_work⟩
def f__law_work : Dfn := ⟨"_law_work", top 124, ["bridge", "state", "thrust", "movement", "one", "move"], ["bridge", "state", "thrust", "movement"], d__law_work⟩
def b__law_all_loads : CB := (.cons (.asg (.name 2) (.tup (.cons (.tup (.cons (.int 0) (.cons (.int 1) .nil))) (.cons (.tup (.cons (.int 0) (.cons (.int 1) .nil))) (.cons (.tup (.cons (.int 0) (.cons (.int 1) .nil))) .nil)))))
    (.cons (.loop (.name 3) (.seq (.call 17 (.cons (.var 0) (.cons (.var 1) .nil)))) (.cons (.asg (.name 2) (.call 8 (.cons (.var 2) (.cons (.var 3) .nil))))
    .nil))
    (.cons (.ret (.var 2))
    .nil)))
def d__law_all_loads : CD := ⟨2, 4, b__law_all_loads⟩
def f__law_all_loads : Dfn := ⟨"_law_all_loads", top 140, ["bridge", "state", "found", "load"], ["bridge", "state"], d__law_all_loads⟩
def b_want_state : CB := (.cons (.ite (.not (.call 53 (.cons (.var 1) (.cons (.int 0) (.cons (.bin .sub (.blt .len (.cons (.idx (.var 0) (.int 3)) .nil)) (.int 1)) .nil))))) (.cons .nev
    .nil) .nil)
    (.cons (.ret (.var 1))
    .nil))
def d_want_state : CD := ⟨2, 2, b_want_state⟩
def f_want_state : Dfn := ⟨"want_state", top 62, ["bridge", "value"], ["bridge", "value"], d_want_state⟩
def b_want_thrust : CB := (.cons (.ite (.not (.call 26 (.cons (.var 0) (.cons (.var 1) .nil)))) (.cons .nev
    .nil) .nil)
    (.cons (.ret (.var 1))
    .nil))
def d_want_thrust : CD := ⟨2, 2, b_want_thrust⟩
def f_want_thrust : Dfn := ⟨"want_thrust", top 74, ["bridge", "value"], ["bridge", "value"], d_want_thrust⟩
def b_loads_of : CB := (.cons (.ret (.lc (.tup (.cons (.glb 9) (.cons (.call 37 (.cons (.neg (.var 1)) .nil)) (.cons (.call 37 (.cons (.neg (.var 2)) .nil)) .nil)))) (.tup (.cons (.name 1) (.cons (.name 2) .nil))) (.seq (.var 0)) .nil [1, 2]))
    .nil)
def d_loads_of : CD := ⟨1, 3, b_loads_of⟩
def f_loads_of : Dfn := ⟨"loads_of", top 68, ["pulls", "weight", "turning"], ["pulls"], d_loads_of⟩
def b_own_pulls : CB := (.cons (.ret (.lc (.tup (.cons (.var 2) (.cons (.bin .mul (.var 1) (.var 2)) .nil))) (.tup (.cons (.name 1) (.cons (.name 2) .nil))) (.seq (.call 42 (.cons (.var 0) .nil))) .nil [1, 2]))
    .nil)
def d_own_pulls : CD := ⟨1, 3, b_own_pulls⟩
def f_own_pulls : Dfn := ⟨"own_pulls", top 66, ["bridge", "x", "weight"], ["bridge"], d_own_pulls⟩
def b_pulls_by : CB := (.cons (.asg (.name 2) (.lc (.tup (.cons (.int 0) (.cons (.int 0) .nil))) (.name 3) (.seq (.call 42 (.cons (.var 0) .nil))) .nil [3]))
    (.cons (.loop (.tup (.cons (.name 3) (.cons (.name 4) (.cons (.name 5) .nil)))) (.seq (.var 1)) (.cons (.asg (.sub (.var 2) (.var 3)) (.tup (.cons (.bin .add (.idx (.idx (.var 2) (.var 3)) (.int 0)) (.var 5)) (.cons (.bin .add (.idx (.idx (.var 2) (.var 3)) (.int 1)) (.bin .mul (.var 4) (.var 5))) .nil))))
    .nil))
    (.cons (.ret (.var 2))
    .nil)))
def d_pulls_by : CD := ⟨2, 6, b_pulls_by⟩
def f_pulls_by : Dfn := ⟨"pulls_by", top 65, ["bridge", "carts", "found", "stone", "x", "weight"], ["bridge", "carts"], d_pulls_by⟩
def b_pulls_in : CB := (.cons (.par [2, 3] (.cons (.call 82 (.cons (.var 0) .nil)) (.cons (.call 83 (.cons (.var 0) (.cons (.idx (.idx (.var 0) (.int 3)) (.var 1)) .nil))) .nil)))
    (.cons (.ret (.lc (.tup (.cons (.bin .add (.idx (.var 4) (.int 0)) (.idx (.var 5) (.int 0))) (.cons (.bin .add (.idx (.var 4) (.int 1)) (.idx (.var 5) (.int 1))) .nil))) (.tup (.cons (.name 4) (.cons (.name 5) .nil))) (.zip (.var 2) (.var 3)) .nil [4, 5]))
    .nil))
def d_pulls_in : CD := ⟨2, 6, b_pulls_in⟩
def f_pulls_in : Dfn := ⟨"pulls_in", top 67, ["bridge", "state", "near", "far", "one", "other"], ["bridge", "state"], d_pulls_in⟩
def b_loads_in : CB := (.cons (.ret (.call 81 (.cons (.call 84 (.cons (.var 0) (.cons (.var 1) .nil))) .nil)))
    .nil)
def d_loads_in : CD := ⟨2, 2, b_loads_in⟩
def f_loads_in : Dfn := ⟨"loads_in", top 69, ["bridge", "state"], ["bridge", "state"], d_loads_in⟩
def b_work : CB := (.cons (.expr (.call 79 (.cons (.call 63 (.cons (.var 0) .nil)) (.cons (.var 1) .nil))))
    (.cons (.expr (.call 80 (.cons (.var 0) (.cons (.var 2) .nil))))
    (.cons (.expr (.call 49 (.cons (.var 0) (.cons (.var 3) .nil))))
    (.cons (.ret (.call 50 (.cons (.gc (.call 69 (.cons (.var 0) (.cons (.call 85 (.cons (.var 0) (.cons (.var 1) .nil))) (.cons (.var 2) (.cons (.var 3) .nil)))))) .nil)))
    .nil))))
def d_work : CD := ⟨4, 4, b_work⟩
def f_work : Dfn := ⟨"work", top 96, ["bridge", "state", "thrust", "movement"], ["bridge", "state", "thrust", "movement"], d_work⟩
def b__want_all : CB := (.cons (.expr (.call 79 (.cons (.call 63 (.cons (.var 0) .nil)) (.cons (.var 1) .nil))))
    (.cons (.expr (.call 80 (.cons (.var 0) (.cons (.var 2) .nil))))
    .nil))
def d__want_all : CD := ⟨3, 3, b__want_all⟩
def f__want_all : Dfn := ⟨"_want_all", top 75, ["bridge", "state", "thrust"], ["bridge", "state", "thrust"], d__want_all⟩
def b_want_foot : CB := (.cons (.ite (.not (.call 53 (.cons (.var 1) (.cons (.int 0) (.cons (.blt .len (.cons (.idx (.var 0) (.int 1)) .nil)) .nil))))) (.cons .nev
    .nil) .nil)
    (.cons (.ret (.var 1))
    .nil))
def d_want_foot : CD := ⟨2, 2, b_want_foot⟩
def f_want_foot : Dfn := ⟨"want_foot", top 63, ["bridge", "value"], ["bridge", "value"], d_want_foot⟩
def b_told : CB := (.cons (.ret (.tup (.cons (.call 50 (.cons (.idx (.var 0) (.int 0)) .nil)) (.cons (.call 50 (.cons (.idx (.var 0) (.int 1)) .nil)) (.cons (.call 50 (.cons (.idx (.var 0) (.int 2)) .nil)) .nil)))))
    .nil)
def d_told : CD := ⟨1, 1, b_told⟩
def f_told : Dfn := ⟨"told", top 42, ["wrench"], ["wrench"], d_told⟩
def b_foot_wrench : CB := (.cons (.expr (.call 87 (.cons (.var 0) (.cons (.var 1) (.cons (.var 2) .nil)))))
    (.cons (.expr (.call 88 (.cons (.var 0) (.cons (.var 3) .nil))))
    (.cons (.ret (.call 89 (.cons (.gc (.call 67 (.cons (.var 0) (.cons (.call 85 (.cons (.var 0) (.cons (.var 1) .nil))) (.cons (.var 2) (.cons (.var 3) .nil)))))) .nil)))
    .nil)))
def d_foot_wrench : CD := ⟨4, 4, b_foot_wrench⟩
def f_foot_wrench : Dfn := ⟨"foot_wrench", top 77, ["bridge", "state", "thrust", "foot"], ["bridge", "state", "thrust", "foot"], d_foot_wrench⟩
def b_want_ratio : CB := (.cons (.ite (.not (.call 24 (.cons (.var 0) .nil))) (.cons .nev
    .nil) .nil)
    (.cons (.ret (.var 0))
    .nil))
def d_want_ratio : CD := ⟨1, 1, b_want_ratio⟩
def f_want_ratio : Dfn := ⟨"want_ratio", top 30, ["value"], ["value"], d_want_ratio⟩
def b_rigid : CB := (.cons (.expr (.call 63 (.cons (.var 0) .nil)))
    (.cons (.expr (.call 91 (.cons (.var 1) .nil)))
    (.cons (.expr (.call 91 (.cons (.var 2) .nil)))
    (.cons (.expr (.call 91 (.cons (.var 3) .nil)))
    (.cons (.ret (.bin .mul (.tup (.cons (.tup (.cons (.var 1) (.cons (.var 2) (.cons (.var 3) .nil)))) .nil)) (.call 46 (.cons (.var 0) .nil))))
    .nil)))))
def d_rigid : CD := ⟨4, 4, b_rigid⟩
def f_rigid : Dfn := ⟨"rigid", top 92, ["bridge", "turn", "right", "up"], ["bridge", "turn", "right", "up"], d_rigid⟩
def b_told_movement : CB := (.cons (.ret (.blt .tuple1 (.cons (.lc (.call 89 (.cons (.var 1) .nil)) (.name 1) (.seq (.var 0)) .nil [1]) .nil)))
    .nil)
def d_told_movement : CD := ⟨1, 2, b_told_movement⟩
def f_told_movement : Dfn := ⟨"told_movement", top 86, ["movement", "move"], ["movement"], d_told_movement⟩
def b_moves_added : CB := (.cons (.ret (.tup (.cons (.call 30 (.cons (.idx (.var 0) (.int 0)) (.cons (.idx (.var 1) (.int 0)) .nil))) (.cons (.call 30 (.cons (.idx (.var 0) (.int 1)) (.cons (.idx (.var 1) (.int 1)) .nil))) (.cons (.call 30 (.cons (.idx (.var 0) (.int 2)) (.cons (.idx (.var 1) (.int 2)) .nil))) .nil)))))
    .nil)
def d_moves_added : CD := ⟨2, 2, b_moves_added⟩
def f_moves_added : Dfn := ⟨"moves_added", top 80, ["near", "far"], ["near", "far"], d_moves_added⟩
def b_added : CB := (.cons (.expr (.call 49 (.cons (.call 63 (.cons (.var 0) .nil)) (.cons (.var 1) .nil))))
    (.cons (.expr (.call 49 (.cons (.var 0) (.cons (.var 2) .nil))))
    (.cons (.ret (.call 93 (.cons (.lc (.call 94 (.cons (.var 3) (.cons (.var 4) .nil))) (.tup (.cons (.name 3) (.cons (.name 4) .nil))) (.zip (.var 1) (.var 2)) .nil [3, 4]) .nil)))
    .nil)))
def d_added : CD := ⟨3, 5, b_added⟩
def f_added : Dfn := ⟨"added", top 93, ["bridge", "movement", "other_movement", "near", "far"], ["bridge", "movement", "other_movement"], d_added⟩
def b_move_taken : CB := (.cons (.ret (.tup (.cons (.call 36 (.cons (.idx (.var 0) (.int 0)) (.cons (.var 1) .nil))) (.cons (.call 36 (.cons (.idx (.var 0) (.int 1)) (.cons (.var 1) .nil))) (.cons (.call 36 (.cons (.idx (.var 0) (.int 2)) (.cons (.var 1) .nil))) .nil)))))
    .nil)
def d_move_taken : CD := ⟨2, 2, b_move_taken⟩
def f_move_taken : Dfn := ⟨"move_taken", top 81, ["move", "ratio"], ["move", "ratio"], d_move_taken⟩
def b_taken : CB := (.cons (.expr (.call 49 (.cons (.call 63 (.cons (.var 0) .nil)) (.cons (.var 1) .nil))))
    (.cons (.expr (.call 91 (.cons (.var 2) .nil)))
    (.cons (.ret (.call 93 (.cons (.lc (.call 96 (.cons (.var 3) (.cons (.var 2) .nil))) (.name 3) (.seq (.var 1)) .nil [3]) .nil)))
    .nil)))
def d_taken : CD := ⟨3, 4, b_taken⟩
def f_taken : Dfn := ⟨"taken", top 94, ["bridge", "movement", "ratio", "move"], ["bridge", "movement", "ratio"], d_taken⟩
def b_borne : CB := (.cons (.expr (.call 79 (.cons (.call 63 (.cons (.var 0) .nil)) (.cons (.var 1) .nil))))
    (.cons (.expr (.call 80 (.cons (.var 0) (.cons (.var 2) .nil))))
    (.cons (.ret (.lc (.call 89 (.cons (.var 3) .nil)) (.name 3) (.seq (.gc (.call 68 (.cons (.var 0) (.cons (.call 85 (.cons (.var 0) (.cons (.var 1) .nil))) (.cons (.var 2) .nil)))))) .nil [3]))
    .nil)))
def d_borne : CD := ⟨3, 4, b_borne⟩
def f_borne : Dfn := ⟨"borne", top 95, ["bridge", "state", "thrust", "wrench"], ["bridge", "state", "thrust"], d_borne⟩
def b__law_works_right : CB := (.cons (.asg (.name 6) (.call 74 (.cons (.var 1) (.cons (.var 2) (.cons (.var 3) .nil)))))
    (.cons (.ite (.cmp .ne (.gc (.blt .repr (.cons (.lst (.cons (.call 98 (.cons (.var 1) (.cons (.var 2) (.cons (.var 3) .nil)))) (.cons (.callk 98 (.cons (.var 3) (.cons (.var 2) (.cons (.var 1) .nil))) [2, 1, 0]) .nil))) .nil))) (.gc (.blt .repr (.cons (.lst (.cons (.var 6) (.cons (.var 6) .nil))) .nil)))) (.cons (.ret (.bl false))
    .nil) .nil)
    (.cons (.ite (.gc (.cmp .ne (.lc (.call 90 (.cons (.var 1) (.cons (.var 2) (.cons (.var 3) (.cons (.var 13) .nil))))) (.name 13) (.rng1 (.blt .len (.cons (.var 6) .nil))) .nil [13]) (.var 6))) (.cons (.ret (.bl false))
    .nil) .nil)
    (.cons (.asg (.name 7) (.tup (.cons (.tup (.cons (.int 0) (.cons (.int 1) .nil))) (.cons (.tup (.cons (.int 0) (.cons (.int 1) .nil))) (.cons (.tup (.cons (.int 0) (.cons (.int 1) .nil))) .nil)))))
    (.cons (.loop (.name 8) (.seq (.var 6)) (.cons (.asg (.name 7) (.call 8 (.cons (.var 7) (.cons (.var 8) .nil))))
    .nil))
    (.cons (.ite (.cmp .ne (.var 7) (.call 78 (.cons (.var 1) (.cons (.var 2) .nil)))) (.cons (.ret (.bl false))
    .nil) .nil)
    (.cons (.asg (.name 9) (.call 77 (.cons (.var 1) (.cons (.var 2) (.cons (.var 3) (.cons (.var 4) .nil))))))
    (.cons (.ite (.cmp .ne (.gc (.blt .repr (.cons (.lst (.cons (.call 86 (.cons (.var 1) (.cons (.var 2) (.cons (.var 3) (.cons (.var 4) .nil))))) (.cons (.callk 86 (.cons (.var 4) (.cons (.var 3) (.cons (.var 2) (.cons (.var 1) .nil)))) [3, 2, 1, 0]) .nil))) .nil))) (.gc (.blt .repr (.cons (.lst (.cons (.var 9) (.cons (.var 9) .nil))) .nil)))) (.cons (.ret (.bl false))
    .nil) .nil)
    (.cons (.par [10, 11] (.cons (.call 72 (.cons (.var 0) .nil)) (.cons (.call 71 (.cons (.var 0) (.cons (.int 9) .nil))) .nil)))
    (.cons (.ite (.cmp .ne (.call 86 (.cons (.var 1) (.cons (.var 2) (.cons (.var 3) (.cons (.call 92 (.cons (.var 1) (.cons (.idx (.var 10) (.int 0)) (.cons (.idx (.var 10) (.int 1)) (.cons (.idx (.var 10) (.int 2)) .nil))))) .nil))))) (.call 76 (.cons (.call 78 (.cons (.var 1) (.cons (.var 2) .nil))) (.cons (.var 10) .nil)))) (.cons (.ret (.bl false))
    .nil) .nil)
    (.cons (.asg (.name 12) (.call 77 (.cons (.var 1) (.cons (.var 2) (.cons (.var 3) (.cons (.var 5) .nil))))))
    (.cons (.ite (.cmp .ne (.call 86 (.cons (.var 1) (.cons (.var 2) (.cons (.var 3) (.cons (.call 95 (.cons (.var 1) (.cons (.var 4) (.cons (.var 5) .nil)))) .nil))))) (.call 3 (.cons (.var 9) (.cons (.var 12) .nil)))) (.cons (.ret (.bl false))
    .nil) .nil)
    (.cons (.ret (.cmp .eq (.call 86 (.cons (.var 1) (.cons (.var 2) (.cons (.var 3) (.cons (.call 97 (.cons (.var 1) (.cons (.var 4) (.cons (.var 11) .nil)))) .nil))))) (.call 5 (.cons (.var 9) (.cons (.var 11) .nil)))))
    .nil)))))))))))))
def d__law_works_right : CD := ⟨6, 14, b__law_works_right⟩
def f__law_works_right : Dfn := ⟨"_law_works_right", top 141, ["pot", "bridge", "state", "thrust", "movement", "other", "wrenches", "both", "wrench", "due", "body", "ratio", "late", "foot"], ["pot", "bridge", "state", "thrust", "movement", "other"], d__law_works_right⟩
def b_is_push : CB := (.cons (.ret (.call 44 (.cons (.call 63 (.cons (.var 0) .nil)) (.cons (.var 1) .nil))))
    .nil)
def d_is_push : CD := ⟨2, 2, b_is_push⟩
def f_is_push : Dfn := ⟨"is_push", top 97, ["bridge", "value"], ["bridge", "value"], d_is_push⟩
def b__law_right : CB := (.cons (.asg (.tup (.cons (.name 1) (.cons (.name 2) .nil))) (.call 14 (.cons (.var 0) (.cons (.int 3) .nil))))
    (.cons (.asg (.name 3) (.bin .add (.blt .len (.cons (.idx (.var 1) (.int 1)) .nil)) (.int 1)))
    (.cons (.asg (.tup (.cons (.name 4) (.cons (.name 5) .nil))) (.lc (.gc (.blt .tuple1 (.cons (.lc (.call 72 (.cons (.var 0) .nil)) (.name 13) (.rng1 (.var 3)) .nil [13]) .nil))) (.name 11) (.rng1 (.int 2)) .nil [11]))
    (.cons (.asg (.name 6) (.gc (.blt .tuple1 (.cons (.lc (.call 72 (.cons (.var 0) .nil)) (.name 12) (.seq (.idx (.var 1) (.int 1))) .nil [12]) .nil))))
    (.cons (.loop (.name 7) (.seq (.lst (.cons (.var 2) (.cons (.var 6) .nil)))) (.cons (.loop (.name 8) (.rng1 (.int 2)) (.cons (.ite (.not (.call 99 (.cons (.var 0) (.cons (.var 1) (.cons (.var 8) (.cons (.var 7) (.cons (.var 4) (.cons (.var 5) .nil)))))))) (.cons (.ret (.bl false))
    .nil) .nil)
    .nil))
    .nil))
    (.cons (.asg (.name 9) (.bin .mul (.tup (.cons (.tup (.cons (.tup (.cons (.int 0) (.cons (.int 1) .nil))) (.cons (.tup (.cons (.int 0) (.cons (.int 1) .nil))) (.cons (.tup (.cons (.int 0) (.cons (.int 1) .nil))) .nil)))) .nil)) (.blt .len (.cons (.idx (.var 1) (.int 1)) .nil))))
    (.cons (.loop (.name 7) (.seq (.lst (.cons (.var 2) (.cons (.var 6) (.cons (.var 9) .nil))))) (.cons (.asg (.name 10) (.call 21 (.cons (.var 1) (.cons .non (.cons (.var 7) .nil)))))
    (.cons (.ite (.cmp .ne (.gc (.blt .repr (.cons (.lst (.cons (.call 100 (.cons (.var 1) (.cons (.var 7) .nil))) (.cons (.callk 100 (.cons (.var 7) (.cons (.var 1) .nil)) [1, 0]) .nil))) .nil))) (.gc (.blt .repr (.cons (.lst (.cons (.var 10) (.cons (.var 10) .nil))) .nil)))) (.cons (.ret (.bl false))
    .nil) .nil)
    (.cons (.ite (.and (.var 10) (.cmp .ne (.call 70 (.cons (.var 1) (.cons (.var 7) (.cons (.var 4) .nil)))) (.call 77 (.cons (.var 1) (.cons .non (.cons (.var 7) (.cons (.var 4) .nil))))))) (.cons (.ret (.bl false))
    .nil) .nil)
    .nil))))
    (.cons (.ret (.cmp .eq (.callk 70 (.cons (.var 4) (.cons (.var 9) (.cons (.var 1) .nil))) [2, 1, 0]) (.tup (.cons (.int 0) (.cons (.int 1) .nil)))))
    .nil))))))))
def d__law_right : CD := ⟨1, 14, b__law_right⟩
def f__law_right : Dfn := ⟨"_law_right", top 142, ["pot", "bridge", "firm", "feet", "movement", "other", "drawn", "thrust", "state", "nothing", "due", "turn", "arch", "foot"], ["pot"], d__law_right⟩
def b__law_pot : CB := (.cons (.asg (.name 2) (.bin .add (.bin .mul (.int 1307) (.var 1)) (.int 6947)))
    (.cons (.ite (.cmp .lt (.var 1) (.blt .len (.cons (.var 0) .nil))) (.cons (.asg (.name 2) (.blt .abs (.cons (.idx (.var 0) (.var 1)) .nil)))
    .nil) .nil)
    (.cons (.ret (.lst (.cons (.blt .max2 (.cons (.int 0) (.cons (.bin .sub (.var 2) (.bin .pow (.int 10) (.int 18))) .nil))) (.cons (.bin .add (.bin .mod (.blt .int1 (.cons (.bin .add (.bin .add (.bin .mul (.bin .mod (.blt .int1 (.cons (.var 2) .nil)) (.int 2147483549)) (.int 40014)) (.bin .mul (.int 6947) (.var 1))) (.int 61)) .nil)) (.int 2147483563)) (.int 1)) .nil))))
    .nil)))
def d__law_pot : CD := ⟨2, 3, b__law_pot⟩
def f__law_pot : Dfn := ⟨"_law_pot", top 100, ["script", "k", "cell"], ["script", "k"], d__law_pot⟩
def b_law : CB := (.cons (.ret (.call 101 (.cons (.call 102 (.cons (.var 0) (.cons (.int 0) .nil))) .nil)))
    .nil)
def d_law : CD := ⟨1, 1, b_law⟩
def f_law : Dfn := ⟨"law", top 143, ["script"], ["script"], d_law⟩
def tbl : List Dfn := [f__law_draw, f__law_made, f__law_over, f__law_plus, f__law_minus, f__law_by, f__law_on, f__law_joint, f__law_add, f__law_pull, f__law_arch, f__law_stones, f__law_pier, f__law_take, f__law_bridge, f__law_lines, f__law_joints, f__law_loads, f__law_passed, f__law_lean, f__law_leans, f__law_is_firm, f_is_row, f_is_integer, f_is_ratio, f_is_wrench, f_is_thrust_in, f_is_upright, f_parts_in, f_fraction, f_plus, f_sum_in, f_opposite, f_less_in, f_passed_in, f_joints_in, f_product, f_whole, f_minus, f_moment_in, f_lean_in, f_leans_in, f_stones_in, f_no_loads, f_is_push_in, f_want_push, f_foot_count, f_is_move, f_is_movement_in, f_want_movement, f_shown, f_is_rising, f_is_between, f_is_within, f_is_point, f_is_joint, f_is_stone, f__are_laid, f__is_arch, f__is_pier, f_is_cart, f_is_load, f_is_bridge, f_want_bridge, f_total, f_worked, f_taken_in, f_onto_foot, f_borne_in, f_work_in, f_push_work, f__law_ratio, f__law_move, f__law_sides, f__law_borne, f__law_sum, f__law_works, f__law_work, f__law_all_loads, f_want_state, f_want_thrust, f_loads_of, f_own_pulls, f_pulls_by, f_pulls_in, f_loads_in, f_work, f__want_all, f_want_foot, f_told, f_foot_wrench, f_want_ratio, f_rigid, f_told_movement, f_moves_added, f_added, f_move_taken, f_taken, f_borne, f__law_works_right, f_is_push, f__law_right, f__law_pot, f_law]
def csts : List (Str × PV) := [("BEYOND", .int (10000000000000000000000000000000000000000000000000000000000000000000000000000000000000000000000000000000000000000000000000000000000000000000000000000000000000000000000000000000000000000000000000000000000000000000000000000000000000000000000000000000000000000000000000000000000000000000000000000000000000000000000000000000000000000000000000000000000000000000000000000000000000000000000000000000000000000)), ("STILL", .tup [.tup [.int (0), .int (1)], .tup [.int (0), .int (1)], .tup [.int (0), .int (1)]]), ("MOST_COORDINATE", .int (999)), ("GREATEST", .int (999)), ("MOST_JOINTS", .int (12)), ("MOST_DEEP", .int (5)), ("MOST_CARTS", .int (8)), ("MOST_STATES", .int (12)), ("MOST_ARCHES", .int (4)), ("NOUGHT", .tup [.int (0), .int (1)])]
def kws : List (Nat × List Str × List Nat) := [(86, ["movement", "thrust", "state", "bridge"], [3, 2, 1, 0]), (98, ["thrust", "state", "bridge"], [2, 1, 0]), (70, ["movement", "push", "bridge"], [2, 1, 0]), (100, ["value", "bridge"], [1, 0])]
def G0 : Nat → Option PV := gOf csts
def cds : List CD := tbl.map (·.cd)
theorem G0_0 : G0 0 = some (.int (10000000000000000000000000000000000000000000000000000000000000000000000000000000000000000000000000000000000000000000000000000000000000000000000000000000000000000000000000000000000000000000000000000000000000000000000000000000000000000000000000000000000000000000000000000000000000000000000000000000000000000000000000000000000000000000000000000000000000000000000000000000000000000000000000000000000000000)) := rfl
theorem g_BEYOND : G0 0 = some (.int (10000000000000000000000000000000000000000000000000000000000000000000000000000000000000000000000000000000000000000000000000000000000000000000000000000000000000000000000000000000000000000000000000000000000000000000000000000000000000000000000000000000000000000000000000000000000000000000000000000000000000000000000000000000000000000000000000000000000000000000000000000000000000000000000000000000000000000)) := rfl
abbrev k_BEYOND : Nat := 0
theorem G0_1 : G0 1 = some (.tup [.tup [.int (0), .int (1)], .tup [.int (0), .int (1)], .tup [.int (0), .int (1)]]) := rfl
theorem g_STILL : G0 1 = some (.tup [.tup [.int (0), .int (1)], .tup [.int (0), .int (1)], .tup [.int (0), .int (1)]]) := rfl
abbrev k_STILL : Nat := 1
theorem G0_2 : G0 2 = some (.int (999)) := rfl
theorem g_MOST_COORDINATE : G0 2 = some (.int (999)) := rfl
abbrev k_MOST_COORDINATE : Nat := 2
theorem G0_3 : G0 3 = some (.int (999)) := rfl
theorem g_GREATEST : G0 3 = some (.int (999)) := rfl
abbrev k_GREATEST : Nat := 3
theorem G0_4 : G0 4 = some (.int (12)) := rfl
theorem g_MOST_JOINTS : G0 4 = some (.int (12)) := rfl
abbrev k_MOST_JOINTS : Nat := 4
theorem G0_5 : G0 5 = some (.int (5)) := rfl
theorem g_MOST_DEEP : G0 5 = some (.int (5)) := rfl
abbrev k_MOST_DEEP : Nat := 5
theorem G0_6 : G0 6 = some (.int (8)) := rfl
theorem g_MOST_CARTS : G0 6 = some (.int (8)) := rfl
abbrev k_MOST_CARTS : Nat := 6
theorem G0_7 : G0 7 = some (.int (12)) := rfl
theorem g_MOST_STATES : G0 7 = some (.int (12)) := rfl
abbrev k_MOST_STATES : Nat := 7
theorem G0_8 : G0 8 = some (.int (4)) := rfl
theorem g_MOST_ARCHES : G0 8 = some (.int (4)) := rfl
abbrev k_MOST_ARCHES : Nat := 8
theorem G0_9 : G0 9 = some (.tup [.int (0), .int (1)]) := rfl
theorem g_NOUGHT : G0 9 = some (.tup [.int (0), .int (1)]) := rfl
abbrev k_NOUGHT : Nat := 9
noncomputable abbrev F__law_draw := Gf G0 cds 0
abbrev n__law_draw : Nat := 0
theorem run__law_draw {args : List PV} {st : Sto} {Q : PV × Sto → Prop} (hl : args.length = 2) (h : Ok (denB (Gat G0 cds 0) G0 b__law_draw st.length (args.map some ++ List.replicate 1 none) st) (Nd st.length Q)) : Ok (F__law_draw args st) Q := by
  show Ok (Gf G0 cds 0 args st) Q
  rw [Gf_eq (d := d__law_draw) rfl]
  exact run_of hl h
noncomputable abbrev F__law_made := Gf G0 cds 1
abbrev n__law_made : Nat := 1
theorem run__law_made {args : List PV} {st : Sto} {Q : PV × Sto → Prop} (hl : args.length = 2) (h : Ok (denB (Gat G0 cds 1) G0 b__law_made st.length (args.map some ++ List.replicate 3 none) st) (Nd st.length Q)) : Ok (F__law_made args st) Q := by
  show Ok (Gf G0 cds 1 args st) Q
  rw [Gf_eq (d := d__law_made) rfl]
  exact run_of hl h
noncomputable abbrev F__law_over := Gf G0 cds 2
abbrev n__law_over : Nat := 2
theorem run__law_over {args : List PV} {st : Sto} {Q : PV × Sto → Prop} (hl : args.length = 2) (h : Ok (denB (Gat G0 cds 2) G0 b__law_over st.length (args.map some ++ List.replicate 0 none) st) (Nd st.length Q)) : Ok (F__law_over args st) Q := by
  show Ok (Gf G0 cds 2 args st) Q
  rw [Gf_eq (d := d__law_over) rfl]
  exact run_of hl h
noncomputable abbrev F__law_plus := Gf G0 cds 3
abbrev n__law_plus : Nat := 3
theorem run__law_plus {args : List PV} {st : Sto} {Q : PV × Sto → Prop} (hl : args.length = 2) (h : Ok (denB (Gat G0 cds 3) G0 b__law_plus st.length (args.map some ++ List.replicate 0 none) st) (Nd st.length Q)) : Ok (F__law_plus args st) Q := by
  show Ok (Gf G0 cds 3 args st) Q
  rw [Gf_eq (d := d__law_plus) rfl]
  exact run_of hl h
noncomputable abbrev F__law_minus := Gf G0 cds 4
abbrev n__law_minus : Nat := 4
theorem run__law_minus {args : List PV} {st : Sto} {Q : PV × Sto → Prop} (hl : args.length = 2) (h : Ok (denB (Gat G0 cds 4) G0 b__law_minus st.length (args.map some ++ List.replicate 0 none) st) (Nd st.length Q)) : Ok (F__law_minus args st) Q := by
  show Ok (Gf G0 cds 4 args st) Q
  rw [Gf_eq (d := d__law_minus) rfl]
  exact run_of hl h
noncomputable abbrev F__law_by := Gf G0 cds 5
abbrev n__law_by : Nat := 5
theorem run__law_by {args : List PV} {st : Sto} {Q : PV × Sto → Prop} (hl : args.length = 2) (h : Ok (denB (Gat G0 cds 5) G0 b__law_by st.length (args.map some ++ List.replicate 0 none) st) (Nd st.length Q)) : Ok (F__law_by args st) Q := by
  show Ok (Gf G0 cds 5 args st) Q
  rw [Gf_eq (d := d__law_by) rfl]
  exact run_of hl h
noncomputable abbrev F__law_on := Gf G0 cds 6
abbrev n__law_on : Nat := 6
theorem run__law_on {args : List PV} {st : Sto} {Q : PV × Sto → Prop} (hl : args.length = 3) (h : Ok (denB (Gat G0 cds 6) G0 b__law_on st.length (args.map some ++ List.replicate 0 none) st) (Nd st.length Q)) : Ok (F__law_on args st) Q := by
  show Ok (Gf G0 cds 6 args st) Q
  rw [Gf_eq (d := d__law_on) rfl]
  exact run_of hl h
noncomputable abbrev F__law_joint := Gf G0 cds 7
abbrev n__law_joint : Nat := 7
theorem run__law_joint {args : List PV} {st : Sto} {Q : PV × Sto → Prop} (hl : args.length = 4) (h : Ok (denB (Gat G0 cds 7) G0 b__law_joint st.length (args.map some ++ List.replicate 7 none) st) (Nd st.length Q)) : Ok (F__law_joint args st) Q := by
  show Ok (Gf G0 cds 7 args st) Q
  rw [Gf_eq (d := d__law_joint) rfl]
  exact run_of hl h
noncomputable abbrev F__law_add := Gf G0 cds 8
abbrev n__law_add : Nat := 8
theorem run__law_add {args : List PV} {st : Sto} {Q : PV × Sto → Prop} (hl : args.length = 2) (h : Ok (denB (Gat G0 cds 8) G0 b__law_add st.length (args.map some ++ List.replicate 2 none) st) (Nd st.length Q)) : Ok (F__law_add args st) Q := by
  show Ok (Gf G0 cds 8 args st) Q
  rw [Gf_eq (d := d__law_add) rfl]
  exact run_of hl h
noncomputable abbrev F__law_pull := Gf G0 cds 9
abbrev n__law_pull : Nat := 9
theorem run__law_pull {args : List PV} {st : Sto} {Q : PV × Sto → Prop} (hl : args.length = 2) (h : Ok (denB (Gat G0 cds 9) G0 b__law_pull st.length (args.map some ++ List.replicate 0 none) st) (Nd st.length Q)) : Ok (F__law_pull args st) Q := by
  show Ok (Gf G0 cds 9 args st) Q
  rw [Gf_eq (d := d__law_pull) rfl]
  exact run_of hl h
noncomputable abbrev F__law_arch := Gf G0 cds 10
abbrev n__law_arch : Nat := 10
theorem run__law_arch {args : List PV} {st : Sto} {Q : PV × Sto → Prop} (hl : args.length = 4) (h : Ok (denB (Gat G0 cds 10) G0 b__law_arch st.length (args.map some ++ List.replicate 5 none) st) (Nd st.length Q)) : Ok (F__law_arch args st) Q := by
  show Ok (Gf G0 cds 10 args st) Q
  rw [Gf_eq (d := d__law_arch) rfl]
  exact run_of hl h
noncomputable abbrev F__law_stones := Gf G0 cds 11
abbrev n__law_stones : Nat := 11
theorem run__law_stones {args : List PV} {st : Sto} {Q : PV × Sto → Prop} (hl : args.length = 1) (h : Ok (denB (Gat G0 cds 11) G0 b__law_stones st.length (args.map some ++ List.replicate 4 none) st) (Nd st.length Q)) : Ok (F__law_stones args st) Q := by
  show Ok (Gf G0 cds 11 args st) Q
  rw [Gf_eq (d := d__law_stones) rfl]
  exact run_of hl h
noncomputable abbrev F__law_pier := Gf G0 cds 12
abbrev n__law_pier : Nat := 12
theorem run__law_pier {args : List PV} {st : Sto} {Q : PV × Sto → Prop} (hl : args.length = 3) (h : Ok (denB (Gat G0 cds 12) G0 b__law_pier st.length (args.map some ++ List.replicate 7 none) st) (Nd st.length Q)) : Ok (F__law_pier args st) Q := by
  show Ok (Gf G0 cds 12 args st) Q
  rw [Gf_eq (d := d__law_pier) rfl]
  exact run_of hl h
noncomputable abbrev F__law_take := Gf G0 cds 13
abbrev n__law_take : Nat := 13
theorem run__law_take {args : List PV} {st : Sto} {Q : PV × Sto → Prop} (hl : args.length = 2) (h : Ok (denB (Gat G0 cds 13) G0 b__law_take st.length (args.map some ++ List.replicate 1 none) st) (Nd st.length Q)) : Ok (F__law_take args st) Q := by
  show Ok (Gf G0 cds 13 args st) Q
  rw [Gf_eq (d := d__law_take) rfl]
  exact run_of hl h
noncomputable abbrev F__law_bridge := Gf G0 cds 14
abbrev n__law_bridge : Nat := 14
theorem run__law_bridge {args : List PV} {st : Sto} {Q : PV × Sto → Prop} (hl : args.length = 2) (h : Ok (denB (Gat G0 cds 14) G0 b__law_bridge st.length (args.map some ++ List.replicate 13 none) st) (Nd st.length Q)) : Ok (F__law_bridge args st) Q := by
  show Ok (Gf G0 cds 14 args st) Q
  rw [Gf_eq (d := d__law_bridge) rfl]
  exact run_of hl h
noncomputable abbrev F__law_lines := Gf G0 cds 15
abbrev n__law_lines : Nat := 15
theorem run__law_lines {args : List PV} {st : Sto} {Q : PV × Sto → Prop} (hl : args.length = 1) (h : Ok (denB (Gat G0 cds 15) G0 b__law_lines st.length (args.map some ++ List.replicate 6 none) st) (Nd st.length Q)) : Ok (F__law_lines args st) Q := by
  show Ok (Gf G0 cds 15 args st) Q
  rw [Gf_eq (d := d__law_lines) rfl]
  exact run_of hl h
noncomputable abbrev F__law_joints := Gf G0 cds 16
abbrev n__law_joints : Nat := 16
theorem run__law_joints {args : List PV} {st : Sto} {Q : PV × Sto → Prop} (hl : args.length = 1) (h : Ok (denB (Gat G0 cds 16) G0 b__law_joints st.length (args.map some ++ List.replicate 5 none) st) (Nd st.length Q)) : Ok (F__law_joints args st) Q := by
  show Ok (Gf G0 cds 16 args st) Q
  rw [Gf_eq (d := d__law_joints) rfl]
  exact run_of hl h
noncomputable abbrev F__law_loads := Gf G0 cds 17
abbrev n__law_loads : Nat := 17
theorem run__law_loads {args : List PV} {st : Sto} {Q : PV × Sto → Prop} (hl : args.length = 2) (h : Ok (denB (Gat G0 cds 17) G0 b__law_loads st.length (args.map some ++ List.replicate 4 none) st) (Nd st.length Q)) : Ok (F__law_loads args st) Q := by
  show Ok (Gf G0 cds 17 args st) Q
  rw [Gf_eq (d := d__law_loads) rfl]
  exact run_of hl h
noncomputable abbrev F__law_passed := Gf G0 cds 18
abbrev n__law_passed : Nat := 18
theorem run__law_passed {args : List PV} {st : Sto} {Q : PV × Sto → Prop} (hl : args.length = 3) (h : Ok (denB (Gat G0 cds 18) G0 b__law_passed st.length (args.map some ++ List.replicate 11 none) st) (Nd st.length Q)) : Ok (F__law_passed args st) Q := by
  show Ok (Gf G0 cds 18 args st) Q
  rw [Gf_eq (d := d__law_passed) rfl]
  exact run_of hl h
noncomputable abbrev F__law_lean := Gf G0 cds 19
abbrev n__law_lean : Nat := 19
theorem run__law_lean {args : List PV} {st : Sto} {Q : PV × Sto → Prop} (hl : args.length = 3) (h : Ok (denB (Gat G0 cds 19) G0 b__law_lean st.length (args.map some ++ List.replicate 3 none) st) (Nd st.length Q)) : Ok (F__law_lean args st) Q := by
  show Ok (Gf G0 cds 19 args st) Q
  rw [Gf_eq (d := d__law_lean) rfl]
  exact run_of hl h
noncomputable abbrev F__law_leans := Gf G0 cds 20
abbrev n__law_leans : Nat := 20
theorem run__law_leans {args : List PV} {st : Sto} {Q : PV × Sto → Prop} (hl : args.length = 3) (h : Ok (denB (Gat G0 cds 20) G0 b__law_leans st.length (args.map some ++ List.replicate 3 none) st) (Nd st.length Q)) : Ok (F__law_leans args st) Q := by
  show Ok (Gf G0 cds 20 args st) Q
  rw [Gf_eq (d := d__law_leans) rfl]
  exact run_of hl h
noncomputable abbrev F__law_is_firm := Gf G0 cds 21
abbrev n__law_is_firm : Nat := 21
theorem run__law_is_firm {args : List PV} {st : Sto} {Q : PV × Sto → Prop} (hl : args.length = 3) (h : Ok (denB (Gat G0 cds 21) G0 b__law_is_firm st.length (args.map some ++ List.replicate 2 none) st) (Nd st.length Q)) : Ok (F__law_is_firm args st) Q := by
  show Ok (Gf G0 cds 21 args st) Q
  rw [Gf_eq (d := d__law_is_firm) rfl]
  exact run_of hl h
noncomputable abbrev F_is_row := Gf G0 cds 22
abbrev n_is_row : Nat := 22
theorem run_is_row {args : List PV} {st : Sto} {Q : PV × Sto → Prop} (hl : args.length = 2) (h : Ok (denB (Gat G0 cds 22) G0 b_is_row st.length (args.map some ++ List.replicate 0 none) st) (Nd st.length Q)) : Ok (F_is_row args st) Q := by
  show Ok (Gf G0 cds 22 args st) Q
  rw [Gf_eq (d := d_is_row) rfl]
  exact run_of hl h
noncomputable abbrev F_is_integer := Gf G0 cds 23
abbrev n_is_integer : Nat := 23
theorem run_is_integer {args : List PV} {st : Sto} {Q : PV × Sto → Prop} (hl : args.length = 1) (h : Ok (denB (Gat G0 cds 23) G0 b_is_integer st.length (args.map some ++ List.replicate 0 none) st) (Nd st.length Q)) : Ok (F_is_integer args st) Q := by
  show Ok (Gf G0 cds 23 args st) Q
  rw [Gf_eq (d := d_is_integer) rfl]
  exact run_of hl h
noncomputable abbrev F_is_ratio := Gf G0 cds 24
abbrev n_is_ratio : Nat := 24
theorem run_is_ratio {args : List PV} {st : Sto} {Q : PV × Sto → Prop} (hl : args.length = 1) (h : Ok (denB (Gat G0 cds 24) G0 b_is_ratio st.length (args.map some ++ List.replicate 0 none) st) (Nd st.length Q)) : Ok (F_is_ratio args st) Q := by
  show Ok (Gf G0 cds 24 args st) Q
  rw [Gf_eq (d := d_is_ratio) rfl]
  exact run_of hl h
noncomputable abbrev F_is_wrench := Gf G0 cds 25
abbrev n_is_wrench : Nat := 25
theorem run_is_wrench {args : List PV} {st : Sto} {Q : PV × Sto → Prop} (hl : args.length = 1) (h : Ok (denB (Gat G0 cds 25) G0 b_is_wrench st.length (args.map some ++ List.replicate 1 none) st) (Nd st.length Q)) : Ok (F_is_wrench args st) Q := by
  show Ok (Gf G0 cds 25 args st) Q
  rw [Gf_eq (d := d_is_wrench) rfl]
  exact run_of hl h
noncomputable abbrev F_is_thrust_in := Gf G0 cds 26
abbrev n_is_thrust_in : Nat := 26
theorem run_is_thrust_in {args : List PV} {st : Sto} {Q : PV × Sto → Prop} (hl : args.length = 2) (h : Ok (denB (Gat G0 cds 26) G0 b_is_thrust_in st.length (args.map some ++ List.replicate 1 none) st) (Nd st.length Q)) : Ok (F_is_thrust_in args st) Q := by
  show Ok (Gf G0 cds 26 args st) Q
  rw [Gf_eq (d := d_is_thrust_in) rfl]
  exact run_of hl h
noncomputable abbrev F_is_upright := Gf G0 cds 27
abbrev n_is_upright : Nat := 27
theorem run_is_upright {args : List PV} {st : Sto} {Q : PV × Sto → Prop} (hl : args.length = 1) (h : Ok (denB (Gat G0 cds 27) G0 b_is_upright st.length (args.map some ++ List.replicate 1 none) st) (Nd st.length Q)) : Ok (F_is_upright args st) Q := by
  show Ok (Gf G0 cds 27 args st) Q
  rw [Gf_eq (d := d_is_upright) rfl]
  exact run_of hl h
noncomputable abbrev F_parts_in := Gf G0 cds 28
abbrev n_parts_in : Nat := 28
theorem run_parts_in {args : List PV} {st : Sto} {Q : PV × Sto → Prop} (hl : args.length = 1) (h : Ok (denB (Gat G0 cds 28) G0 b_parts_in st.length (args.map some ++ List.replicate 9 none) st) (Nd st.length Q)) : Ok (F_parts_in args st) Q := by
  show Ok (Gf G0 cds 28 args st) Q
  rw [Gf_eq (d := d_parts_in) rfl]
  exact run_of hl h
noncomputable abbrev F_fraction := Gf G0 cds 29
abbrev n_fraction : Nat := 29
theorem run_fraction {args : List PV} {st : Sto} {Q : PV × Sto → Prop} (hl : args.length = 2) (h : Ok (denB (Gat G0 cds 29) G0 b_fraction st.length (args.map some ++ List.replicate 1 none) st) (Nd st.length Q)) : Ok (F_fraction args st) Q := by
  show Ok (Gf G0 cds 29 args st) Q
  rw [Gf_eq (d := d_fraction) rfl]
  exact run_of hl h
noncomputable abbrev F_plus := Gf G0 cds 30
abbrev n_plus : Nat := 30
theorem run_plus {args : List PV} {st : Sto} {Q : PV × Sto → Prop} (hl : args.length = 2) (h : Ok (denB (Gat G0 cds 30) G0 b_plus st.length (args.map some ++ List.replicate 0 none) st) (Nd st.length Q)) : Ok (F_plus args st) Q := by
  show Ok (Gf G0 cds 30 args st) Q
  rw [Gf_eq (d := d_plus) rfl]
  exact run_of hl h
noncomputable abbrev F_sum_in := Gf G0 cds 31
abbrev n_sum_in : Nat := 31
theorem run_sum_in {args : List PV} {st : Sto} {Q : PV × Sto → Prop} (hl : args.length = 2) (h : Ok (denB (Gat G0 cds 31) G0 b_sum_in st.length (args.map some ++ List.replicate 0 none) st) (Nd st.length Q)) : Ok (F_sum_in args st) Q := by
  show Ok (Gf G0 cds 31 args st) Q
  rw [Gf_eq (d := d_sum_in) rfl]
  exact run_of hl h
noncomputable abbrev F_opposite := Gf G0 cds 32
abbrev n_opposite : Nat := 32
theorem run_opposite {args : List PV} {st : Sto} {Q : PV × Sto → Prop} (hl : args.length = 1) (h : Ok (denB (Gat G0 cds 32) G0 b_opposite st.length (args.map some ++ List.replicate 0 none) st) (Nd st.length Q)) : Ok (F_opposite args st) Q := by
  show Ok (Gf G0 cds 32 args st) Q
  rw [Gf_eq (d := d_opposite) rfl]
  exact run_of hl h
noncomputable abbrev F_less_in := Gf G0 cds 33
abbrev n_less_in : Nat := 33
theorem run_less_in {args : List PV} {st : Sto} {Q : PV × Sto → Prop} (hl : args.length = 2) (h : Ok (denB (Gat G0 cds 33) G0 b_less_in st.length (args.map some ++ List.replicate 0 none) st) (Nd st.length Q)) : Ok (F_less_in args st) Q := by
  show Ok (Gf G0 cds 33 args st) Q
  rw [Gf_eq (d := d_less_in) rfl]
  exact run_of hl h
noncomputable abbrev F_passed_in := Gf G0 cds 34
abbrev n_passed_in : Nat := 34
theorem run_passed_in {args : List PV} {st : Sto} {Q : PV × Sto → Prop} (hl : args.length = 3) (h : Ok (denB (Gat G0 cds 34) G0 b_passed_in st.length (args.map some ++ List.replicate 10 none) st) (Nd st.length Q)) : Ok (F_passed_in args st) Q := by
  show Ok (Gf G0 cds 34 args st) Q
  rw [Gf_eq (d := d_passed_in) rfl]
  exact run_of hl h
noncomputable abbrev F_joints_in := Gf G0 cds 35
abbrev n_joints_in : Nat := 35
theorem run_joints_in {args : List PV} {st : Sto} {Q : PV × Sto → Prop} (hl : args.length = 1) (h : Ok (denB (Gat G0 cds 35) G0 b_joints_in st.length (args.map some ++ List.replicate 2 none) st) (Nd st.length Q)) : Ok (F_joints_in args st) Q := by
  show Ok (Gf G0 cds 35 args st) Q
  rw [Gf_eq (d := d_joints_in) rfl]
  exact run_of hl h
noncomputable abbrev F_product := Gf G0 cds 36
abbrev n_product : Nat := 36
theorem run_product {args : List PV} {st : Sto} {Q : PV × Sto → Prop} (hl : args.length = 2) (h : Ok (denB (Gat G0 cds 36) G0 b_product st.length (args.map some ++ List.replicate 0 none) st) (Nd st.length Q)) : Ok (F_product args st) Q := by
  show Ok (Gf G0 cds 36 args st) Q
  rw [Gf_eq (d := d_product) rfl]
  exact run_of hl h
noncomputable abbrev F_whole := Gf G0 cds 37
abbrev n_whole : Nat := 37
theorem run_whole {args : List PV} {st : Sto} {Q : PV × Sto → Prop} (hl : args.length = 1) (h : Ok (denB (Gat G0 cds 37) G0 b_whole st.length (args.map some ++ List.replicate 0 none) st) (Nd st.length Q)) : Ok (F_whole args st) Q := by
  show Ok (Gf G0 cds 37 args st) Q
  rw [Gf_eq (d := d_whole) rfl]
  exact run_of hl h
noncomputable abbrev F_minus := Gf G0 cds 38
abbrev n_minus : Nat := 38
theorem run_minus {args : List PV} {st : Sto} {Q : PV × Sto → Prop} (hl : args.length = 2) (h : Ok (denB (Gat G0 cds 38) G0 b_minus st.length (args.map some ++ List.replicate 0 none) st) (Nd st.length Q)) : Ok (F_minus args st) Q := by
  show Ok (Gf G0 cds 38 args st) Q
  rw [Gf_eq (d := d_minus) rfl]
  exact run_of hl h
noncomputable abbrev F_moment_in := Gf G0 cds 39
abbrev n_moment_in : Nat := 39
theorem run_moment_in {args : List PV} {st : Sto} {Q : PV × Sto → Prop} (hl : args.length = 2) (h : Ok (denB (Gat G0 cds 39) G0 b_moment_in st.length (args.map some ++ List.replicate 1 none) st) (Nd st.length Q)) : Ok (F_moment_in args st) Q := by
  show Ok (Gf G0 cds 39 args st) Q
  rw [Gf_eq (d := d_moment_in) rfl]
  exact run_of hl h
noncomputable abbrev F_lean_in := Gf G0 cds 40
abbrev n_lean_in : Nat := 40
theorem run_lean_in {args : List PV} {st : Sto} {Q : PV × Sto → Prop} (hl : args.length = 3) (h : Ok (denB (Gat G0 cds 40) G0 b_lean_in st.length (args.map some ++ List.replicate 1 none) st) (Nd st.length Q)) : Ok (F_lean_in args st) Q := by
  show Ok (Gf G0 cds 40 args st) Q
  rw [Gf_eq (d := d_lean_in) rfl]
  exact run_of hl h
noncomputable abbrev F_leans_in := Gf G0 cds 41
abbrev n_leans_in : Nat := 41
theorem run_leans_in {args : List PV} {st : Sto} {Q : PV × Sto → Prop} (hl : args.length = 3) (h : Ok (denB (Gat G0 cds 41) G0 b_leans_in st.length (args.map some ++ List.replicate 4 none) st) (Nd st.length Q)) : Ok (F_leans_in args st) Q := by
  show Ok (Gf G0 cds 41 args st) Q
  rw [Gf_eq (d := d_leans_in) rfl]
  exact run_of hl h
noncomputable abbrev F_stones_in := Gf G0 cds 42
abbrev n_stones_in : Nat := 42
theorem run_stones_in {args : List PV} {st : Sto} {Q : PV × Sto → Prop} (hl : args.length = 1) (h : Ok (denB (Gat G0 cds 42) G0 b_stones_in st.length (args.map some ++ List.replicate 2 none) st) (Nd st.length Q)) : Ok (F_stones_in args st) Q := by
  show Ok (Gf G0 cds 42 args st) Q
  rw [Gf_eq (d := d_stones_in) rfl]
  exact run_of hl h
noncomputable abbrev F_no_loads := Gf G0 cds 43
abbrev n_no_loads : Nat := 43
theorem run_no_loads {args : List PV} {st : Sto} {Q : PV × Sto → Prop} (hl : args.length = 1) (h : Ok (denB (Gat G0 cds 43) G0 b_no_loads st.length (args.map some ++ List.replicate 1 none) st) (Nd st.length Q)) : Ok (F_no_loads args st) Q := by
  show Ok (Gf G0 cds 43 args st) Q
  rw [Gf_eq (d := d_no_loads) rfl]
  exact run_of hl h
noncomputable abbrev F_is_push_in := Gf G0 cds 44
abbrev n_is_push_in : Nat := 44
theorem run_is_push_in {args : List PV} {st : Sto} {Q : PV × Sto → Prop} (hl : args.length = 2) (h : Ok (denB (Gat G0 cds 44) G0 b_is_push_in st.length (args.map some ++ List.replicate 0 none) st) (Nd st.length Q)) : Ok (F_is_push_in args st) Q := by
  show Ok (Gf G0 cds 44 args st) Q
  rw [Gf_eq (d := d_is_push_in) rfl]
  exact run_of hl h
noncomputable abbrev F_want_push := Gf G0 cds 45
abbrev n_want_push : Nat := 45
theorem run_want_push {args : List PV} {st : Sto} {Q : PV × Sto → Prop} (hl : args.length = 2) (h : Ok (denB (Gat G0 cds 45) G0 b_want_push st.length (args.map some ++ List.replicate 0 none) st) (Nd st.length Q)) : Ok (F_want_push args st) Q := by
  show Ok (Gf G0 cds 45 args st) Q
  rw [Gf_eq (d := d_want_push) rfl]
  exact run_of hl h
noncomputable abbrev F_foot_count := Gf G0 cds 46
abbrev n_foot_count : Nat := 46
theorem run_foot_count {args : List PV} {st : Sto} {Q : PV × Sto → Prop} (hl : args.length = 1) (h : Ok (denB (Gat G0 cds 46) G0 b_foot_count st.length (args.map some ++ List.replicate 0 none) st) (Nd st.length Q)) : Ok (F_foot_count args st) Q := by
  show Ok (Gf G0 cds 46 args st) Q
  rw [Gf_eq (d := d_foot_count) rfl]
  exact run_of hl h
noncomputable abbrev F_is_move := Gf G0 cds 47
abbrev n_is_move : Nat := 47
theorem run_is_move {args : List PV} {st : Sto} {Q : PV × Sto → Prop} (hl : args.length = 1) (h : Ok (denB (Gat G0 cds 47) G0 b_is_move st.length (args.map some ++ List.replicate 1 none) st) (Nd st.length Q)) : Ok (F_is_move args st) Q := by
  show Ok (Gf G0 cds 47 args st) Q
  rw [Gf_eq (d := d_is_move) rfl]
  exact run_of hl h
noncomputable abbrev F_is_movement_in := Gf G0 cds 48
abbrev n_is_movement_in : Nat := 48
theorem run_is_movement_in {args : List PV} {st : Sto} {Q : PV × Sto → Prop} (hl : args.length = 2) (h : Ok (denB (Gat G0 cds 48) G0 b_is_movement_in st.length (args.map some ++ List.replicate 1 none) st) (Nd st.length Q)) : Ok (F_is_movement_in args st) Q := by
  show Ok (Gf G0 cds 48 args st) Q
  rw [Gf_eq (d := d_is_movement_in) rfl]
  exact run_of hl h
noncomputable abbrev F_want_movement := Gf G0 cds 49
abbrev n_want_movement : Nat := 49
theorem run_want_movement {args : List PV} {st : Sto} {Q : PV × Sto → Prop} (hl : args.length = 2) (h : Ok (denB (Gat G0 cds 49) G0 b_want_movement st.length (args.map some ++ List.replicate 0 none) st) (Nd st.length Q)) : Ok (F_want_movement args st) Q := by
  show Ok (Gf G0 cds 49 args st) Q
  rw [Gf_eq (d := d_want_movement) rfl]
  exact run_of hl h
noncomputable abbrev F_shown := Gf G0 cds 50
abbrev n_shown : Nat := 50
theorem run_shown {args : List PV} {st : Sto} {Q : PV × Sto → Prop} (hl : args.length = 1) (h : Ok (denB (Gat G0 cds 50) G0 b_shown st.length (args.map some ++ List.replicate 0 none) st) (Nd st.length Q)) : Ok (F_shown args st) Q := by
  show Ok (Gf G0 cds 50 args st) Q
  rw [Gf_eq (d := d_shown) rfl]
  exact run_of hl h
noncomputable abbrev F_is_rising := Gf G0 cds 51
abbrev n_is_rising : Nat := 51
theorem run_is_rising {args : List PV} {st : Sto} {Q : PV × Sto → Prop} (hl : args.length = 1) (h : Ok (denB (Gat G0 cds 51) G0 b_is_rising st.length (args.map some ++ List.replicate 1 none) st) (Nd st.length Q)) : Ok (F_is_rising args st) Q := by
  show Ok (Gf G0 cds 51 args st) Q
  rw [Gf_eq (d := d_is_rising) rfl]
  exact run_of hl h
noncomputable abbrev F_is_between := Gf G0 cds 52
abbrev n_is_between : Nat := 52
theorem run_is_between {args : List PV} {st : Sto} {Q : PV × Sto → Prop} (hl : args.length = 3) (h : Ok (denB (Gat G0 cds 52) G0 b_is_between st.length (args.map some ++ List.replicate 0 none) st) (Nd st.length Q)) : Ok (F_is_between args st) Q := by
  show Ok (Gf G0 cds 52 args st) Q
  rw [Gf_eq (d := d_is_between) rfl]
  exact run_of hl h
noncomputable abbrev F_is_within := Gf G0 cds 53
abbrev n_is_within : Nat := 53
theorem run_is_within {args : List PV} {st : Sto} {Q : PV × Sto → Prop} (hl : args.length = 3) (h : Ok (denB (Gat G0 cds 53) G0 b_is_within st.length (args.map some ++ List.replicate 0 none) st) (Nd st.length Q)) : Ok (F_is_within args st) Q := by
  show Ok (Gf G0 cds 53 args st) Q
  rw [Gf_eq (d := d_is_within) rfl]
  exact run_of hl h
noncomputable abbrev F_is_point := Gf G0 cds 54
abbrev n_is_point : Nat := 54
theorem run_is_point {args : List PV} {st : Sto} {Q : PV × Sto → Prop} (hl : args.length = 1) (h : Ok (denB (Gat G0 cds 54) G0 b_is_point st.length (args.map some ++ List.replicate 1 none) st) (Nd st.length Q)) : Ok (F_is_point args st) Q := by
  show Ok (Gf G0 cds 54 args st) Q
  rw [Gf_eq (d := d_is_point) rfl]
  exact run_of hl h
noncomputable abbrev F_is_joint := Gf G0 cds 55
abbrev n_is_joint : Nat := 55
theorem run_is_joint {args : List PV} {st : Sto} {Q : PV × Sto → Prop} (hl : args.length = 1) (h : Ok (denB (Gat G0 cds 55) G0 b_is_joint st.length (args.map some ++ List.replicate 0 none) st) (Nd st.length Q)) : Ok (F_is_joint args st) Q := by
  show Ok (Gf G0 cds 55 args st) Q
  rw [Gf_eq (d := d_is_joint) rfl]
  exact run_of hl h
noncomputable abbrev F_is_stone := Gf G0 cds 56
abbrev n_is_stone : Nat := 56
theorem run_is_stone {args : List PV} {st : Sto} {Q : PV × Sto → Prop} (hl : args.length = 1) (h : Ok (denB (Gat G0 cds 56) G0 b_is_stone st.length (args.map some ++ List.replicate 0 none) st) (Nd st.length Q)) : Ok (F_is_stone args st) Q := by
  show Ok (Gf G0 cds 56 args st) Q
  rw [Gf_eq (d := d_is_stone) rfl]
  exact run_of hl h
noncomputable abbrev F__are_laid := Gf G0 cds 57
abbrev n__are_laid : Nat := 57
theorem run__are_laid {args : List PV} {st : Sto} {Q : PV × Sto → Prop} (hl : args.length = 4) (h : Ok (denB (Gat G0 cds 57) G0 b__are_laid st.length (args.map some ++ List.replicate 1 none) st) (Nd st.length Q)) : Ok (F__are_laid args st) Q := by
  show Ok (Gf G0 cds 57 args st) Q
  rw [Gf_eq (d := d__are_laid) rfl]
  exact run_of hl h
noncomputable abbrev F__is_arch := Gf G0 cds 58
abbrev n__is_arch : Nat := 58
theorem run__is_arch {args : List PV} {st : Sto} {Q : PV × Sto → Prop} (hl : args.length = 1) (h : Ok (denB (Gat G0 cds 58) G0 b__is_arch st.length (args.map some ++ List.replicate 0 none) st) (Nd st.length Q)) : Ok (F__is_arch args st) Q := by
  show Ok (Gf G0 cds 58 args st) Q
  rw [Gf_eq (d := d__is_arch) rfl]
  exact run_of hl h
noncomputable abbrev F__is_pier := Gf G0 cds 59
abbrev n__is_pier : Nat := 59
theorem run__is_pier {args : List PV} {st : Sto} {Q : PV × Sto → Prop} (hl : args.length = 1) (h : Ok (denB (Gat G0 cds 59) G0 b__is_pier st.length (args.map some ++ List.replicate 0 none) st) (Nd st.length Q)) : Ok (F__is_pier args st) Q := by
  show Ok (Gf G0 cds 59 args st) Q
  rw [Gf_eq (d := d__is_pier) rfl]
  exact run_of hl h
noncomputable abbrev F_is_cart := Gf G0 cds 60
abbrev n_is_cart : Nat := 60
theorem run_is_cart {args : List PV} {st : Sto} {Q : PV × Sto → Prop} (hl : args.length = 2) (h : Ok (denB (Gat G0 cds 60) G0 b_is_cart st.length (args.map some ++ List.replicate 0 none) st) (Nd st.length Q)) : Ok (F_is_cart args st) Q := by
  show Ok (Gf G0 cds 60 args st) Q
  rw [Gf_eq (d := d_is_cart) rfl]
  exact run_of hl h
noncomputable abbrev F_is_load := Gf G0 cds 61
abbrev n_is_load : Nat := 61
theorem run_is_load {args : List PV} {st : Sto} {Q : PV × Sto → Prop} (hl : args.length = 2) (h : Ok (denB (Gat G0 cds 61) G0 b_is_load st.length (args.map some ++ List.replicate 1 none) st) (Nd st.length Q)) : Ok (F_is_load args st) Q := by
  show Ok (Gf G0 cds 61 args st) Q
  rw [Gf_eq (d := d_is_load) rfl]
  exact run_of hl h
noncomputable abbrev F_is_bridge := Gf G0 cds 62
abbrev n_is_bridge : Nat := 62
theorem run_is_bridge {args : List PV} {st : Sto} {Q : PV × Sto → Prop} (hl : args.length = 1) (h : Ok (denB (Gat G0 cds 62) G0 b_is_bridge st.length (args.map some ++ List.replicate 2 none) st) (Nd st.length Q)) : Ok (F_is_bridge args st) Q := by
  show Ok (Gf G0 cds 62 args st) Q
  rw [Gf_eq (d := d_is_bridge) rfl]
  exact run_of hl h
noncomputable abbrev F_want_bridge := Gf G0 cds 63
abbrev n_want_bridge : Nat := 63
theorem run_want_bridge {args : List PV} {st : Sto} {Q : PV × Sto → Prop} (hl : args.length = 1) (h : Ok (denB (Gat G0 cds 63) G0 b_want_bridge st.length (args.map some ++ List.replicate 0 none) st) (Nd st.length Q)) : Ok (F_want_bridge args st) Q := by
  show Ok (Gf G0 cds 63 args st) Q
  rw [Gf_eq (d := d_want_bridge) rfl]
  exact run_of hl h
noncomputable abbrev F_total := Gf G0 cds 64
abbrev n_total : Nat := 64
theorem run_total {args : List PV} {st : Sto} {Q : PV × Sto → Prop} (hl : args.length = 1) (h : Ok (denB (Gat G0 cds 64) G0 b_total st.length (args.map some ++ List.replicate 2 none) st) (Nd st.length Q)) : Ok (F_total args st) Q := by
  show Ok (Gf G0 cds 64 args st) Q
  rw [Gf_eq (d := d_total) rfl]
  exact run_of hl h
noncomputable abbrev F_worked := Gf G0 cds 65
abbrev n_worked : Nat := 65
theorem run_worked {args : List PV} {st : Sto} {Q : PV × Sto → Prop} (hl : args.length = 2) (h : Ok (denB (Gat G0 cds 65) G0 b_worked st.length (args.map some ++ List.replicate 0 none) st) (Nd st.length Q)) : Ok (F_worked args st) Q := by
  show Ok (Gf G0 cds 65 args st) Q
  rw [Gf_eq (d := d_worked) rfl]
  exact run_of hl h
noncomputable abbrev F_taken_in := Gf G0 cds 66
abbrev n_taken_in : Nat := 66
theorem run_taken_in {args : List PV} {st : Sto} {Q : PV × Sto → Prop} (hl : args.length = 2) (h : Ok (denB (Gat G0 cds 66) G0 b_taken_in st.length (args.map some ++ List.replicate 0 none) st) (Nd st.length Q)) : Ok (F_taken_in args st) Q := by
  show Ok (Gf G0 cds 66 args st) Q
  rw [Gf_eq (d := d_taken_in) rfl]
  exact run_of hl h
noncomputable abbrev F_onto_foot := Gf G0 cds 67
abbrev n_onto_foot : Nat := 67
theorem run_onto_foot {args : List PV} {st : Sto} {Q : PV × Sto → Prop} (hl : args.length = 4) (h : Ok (denB (Gat G0 cds 67) G0 b_onto_foot st.length (args.map some ++ List.replicate 3 none) st) (Nd st.length Q)) : Ok (F_onto_foot args st) Q := by
  show Ok (Gf G0 cds 67 args st) Q
  rw [Gf_eq (d := d_onto_foot) rfl]
  exact run_of hl h
noncomputable abbrev F_borne_in := Gf G0 cds 68
abbrev n_borne_in : Nat := 68
theorem run_borne_in {args : List PV} {st : Sto} {Q : PV × Sto → Prop} (hl : args.length = 3) (h : Ok (denB (Gat G0 cds 68) G0 b_borne_in st.length (args.map some ++ List.replicate 1 none) st) (Nd st.length Q)) : Ok (F_borne_in args st) Q := by
  show Ok (Gf G0 cds 68 args st) Q
  rw [Gf_eq (d := d_borne_in) rfl]
  exact run_of hl h
noncomputable abbrev F_work_in := Gf G0 cds 69
abbrev n_work_in : Nat := 69
theorem run_work_in {args : List PV} {st : Sto} {Q : PV × Sto → Prop} (hl : args.length = 4) (h : Ok (denB (Gat G0 cds 69) G0 b_work_in st.length (args.map some ++ List.replicate 2 none) st) (Nd st.length Q)) : Ok (F_work_in args st) Q := by
  show Ok (Gf G0 cds 69 args st) Q
  rw [Gf_eq (d := d_work_in) rfl]
  exact run_of hl h
noncomputable abbrev F_push_work := Gf G0 cds 70
abbrev n_push_work : Nat := 70
theorem run_push_work {args : List PV} {st : Sto} {Q : PV × Sto → Prop} (hl : args.length = 3) (h : Ok (denB (Gat G0 cds 70) G0 b_push_work st.length (args.map some ++ List.replicate 0 none) st) (Nd st.length Q)) : Ok (F_push_work args st) Q := by
  show Ok (Gf G0 cds 70 args st) Q
  rw [Gf_eq (d := d_push_work) rfl]
  exact run_of hl h
noncomputable abbrev F__law_ratio := Gf G0 cds 71
abbrev n__law_ratio : Nat := 71
theorem run__law_ratio {args : List PV} {st : Sto} {Q : PV × Sto → Prop} (hl : args.length = 2) (h : Ok (denB (Gat G0 cds 71) G0 b__law_ratio st.length (args.map some ++ List.replicate 0 none) st) (Nd st.length Q)) : Ok (F__law_ratio args st) Q := by
  show Ok (Gf G0 cds 71 args st) Q
  rw [Gf_eq (d := d__law_ratio) rfl]
  exact run_of hl h
noncomputable abbrev F__law_move := Gf G0 cds 72
abbrev n__law_move : Nat := 72
theorem run__law_move {args : List PV} {st : Sto} {Q : PV × Sto → Prop} (hl : args.length = 1) (h : Ok (denB (Gat G0 cds 72) G0 b__law_move st.length (args.map some ++ List.replicate 0 none) st) (Nd st.length Q)) : Ok (F__law_move args st) Q := by
  show Ok (Gf G0 cds 72 args st) Q
  rw [Gf_eq (d := d__law_move) rfl]
  exact run_of hl h
noncomputable abbrev F__law_sides := Gf G0 cds 73
abbrev n__law_sides : Nat := 73
theorem run__law_sides {args : List PV} {st : Sto} {Q : PV × Sto → Prop} (hl : args.length = 1) (h : Ok (denB (Gat G0 cds 73) G0 b__law_sides st.length (args.map some ++ List.replicate 10 none) st) (Nd st.length Q)) : Ok (F__law_sides args st) Q := by
  show Ok (Gf G0 cds 73 args st) Q
  rw [Gf_eq (d := d__law_sides) rfl]
  exact run_of hl h
noncomputable abbrev F__law_borne := Gf G0 cds 74
abbrev n__law_borne : Nat := 74
theorem run__law_borne {args : List PV} {st : Sto} {Q : PV × Sto → Prop} (hl : args.length = 3) (h : Ok (denB (Gat G0 cds 74) G0 b__law_borne st.length (args.map some ++ List.replicate 5 none) st) (Nd st.length Q)) : Ok (F__law_borne args st) Q := by
  show Ok (Gf G0 cds 74 args st) Q
  rw [Gf_eq (d := d__law_borne) rfl]
  exact run_of hl h
noncomputable abbrev F__law_sum := Gf G0 cds 75
abbrev n__law_sum : Nat := 75
theorem run__law_sum {args : List PV} {st : Sto} {Q : PV × Sto → Prop} (hl : args.length = 1) (h : Ok (denB (Gat G0 cds 75) G0 b__law_sum st.length (args.map some ++ List.replicate 2 none) st) (Nd st.length Q)) : Ok (F__law_sum args st) Q := by
  show Ok (Gf G0 cds 75 args st) Q
  rw [Gf_eq (d := d__law_sum) rfl]
  exact run_of hl h
noncomputable abbrev F__law_works := Gf G0 cds 76
abbrev n__law_works : Nat := 76
theorem run__law_works {args : List PV} {st : Sto} {Q : PV × Sto → Prop} (hl : args.length = 2) (h : Ok (denB (Gat G0 cds 76) G0 b__law_works st.length (args.map some ++ List.replicate 0 none) st) (Nd st.length Q)) : Ok (F__law_works args st) Q := by
  show Ok (Gf G0 cds 76 args st) Q
  rw [Gf_eq (d := d__law_works) rfl]
  exact run_of hl h
noncomputable abbrev F__law_work := Gf G0 cds 77
abbrev n__law_work : Nat := 77
theorem run__law_work {args : List PV} {st : Sto} {Q : PV × Sto → Prop} (hl : args.length = 4) (h : Ok (denB (Gat G0 cds 77) G0 b__law_work st.length (args.map some ++ List.replicate 2 none) st) (Nd st.length Q)) : Ok (F__law_work args st) Q := by
  show Ok (Gf G0 cds 77 args st) Q
  rw [Gf_eq (d := d__law_work) rfl]
  exact run_of hl h
noncomputable abbrev F__law_all_loads := Gf G0 cds 78
abbrev n__law_all_loads : Nat := 78
theorem run__law_all_loads {args : List PV} {st : Sto} {Q : PV × Sto → Prop} (hl : args.length = 2) (h : Ok (denB (Gat G0 cds 78) G0 b__law_all_loads st.length (args.map some ++ List.replicate 2 none) st) (Nd st.length Q)) : Ok (F__law_all_loads args st) Q := by
  show Ok (Gf G0 cds 78 args st) Q
  rw [Gf_eq (d := d__law_all_loads) rfl]
  exact run_of hl h
noncomputable abbrev F_want_state := Gf G0 cds 79
abbrev n_want_state : Nat := 79
theorem run_want_state {args : List PV} {st : Sto} {Q : PV × Sto → Prop} (hl : args.length = 2) (h : Ok (denB (Gat G0 cds 79) G0 b_want_state st.length (args.map some ++ List.replicate 0 none) st) (Nd st.length Q)) : Ok (F_want_state args st) Q := by
  show Ok (Gf G0 cds 79 args st) Q
  rw [Gf_eq (d := d_want_state) rfl]
  exact run_of hl h
noncomputable abbrev F_want_thrust := Gf G0 cds 80
abbrev n_want_thrust : Nat := 80
theorem run_want_thrust {args : List PV} {st : Sto} {Q : PV × Sto → Prop} (hl : args.length = 2) (h : Ok (denB (Gat G0 cds 80) G0 b_want_thrust st.length (args.map some ++ List.replicate 0 none) st) (Nd st.length Q)) : Ok (F_want_thrust args st) Q := by
  show Ok (Gf G0 cds 80 args st) Q
  rw [Gf_eq (d := d_want_thrust) rfl]
  exact run_of hl h
noncomputable abbrev F_loads_of := Gf G0 cds 81
abbrev n_loads_of : Nat := 81
theorem run_loads_of {args : List PV} {st : Sto} {Q : PV × Sto → Prop} (hl : args.length = 1) (h : Ok (denB (Gat G0 cds 81) G0 b_loads_of st.length (args.map some ++ List.replicate 2 none) st) (Nd st.length Q)) : Ok (F_loads_of args st) Q := by
  show Ok (Gf G0 cds 81 args st) Q
  rw [Gf_eq (d := d_loads_of) rfl]
  exact run_of hl h
noncomputable abbrev F_own_pulls := Gf G0 cds 82
abbrev n_own_pulls : Nat := 82
theorem run_own_pulls {args : List PV} {st : Sto} {Q : PV × Sto → Prop} (hl : args.length = 1) (h : Ok (denB (Gat G0 cds 82) G0 b_own_pulls st.length (args.map some ++ List.replicate 2 none) st) (Nd st.length Q)) : Ok (F_own_pulls args st) Q := by
  show Ok (Gf G0 cds 82 args st) Q
  rw [Gf_eq (d := d_own_pulls) rfl]
  exact run_of hl h
noncomputable abbrev F_pulls_by := Gf G0 cds 83
abbrev n_pulls_by : Nat := 83
theorem run_pulls_by {args : List PV} {st : Sto} {Q : PV × Sto → Prop} (hl : args.length = 2) (h : Ok (denB (Gat G0 cds 83) G0 b_pulls_by st.length (args.map some ++ List.replicate 4 none) st) (Nd st.length Q)) : Ok (F_pulls_by args st) Q := by
  show Ok (Gf G0 cds 83 args st) Q
  rw [Gf_eq (d := d_pulls_by) rfl]
  exact run_of hl h
noncomputable abbrev F_pulls_in := Gf G0 cds 84
abbrev n_pulls_in : Nat := 84
theorem run_pulls_in {args : List PV} {st : Sto} {Q : PV × Sto → Prop} (hl : args.length = 2) (h : Ok (denB (Gat G0 cds 84) G0 b_pulls_in st.length (args.map some ++ List.replicate 4 none) st) (Nd st.length Q)) : Ok (F_pulls_in args st) Q := by
  show Ok (Gf G0 cds 84 args st) Q
  rw [Gf_eq (d := d_pulls_in) rfl]
  exact run_of hl h
noncomputable abbrev F_loads_in := Gf G0 cds 85
abbrev n_loads_in : Nat := 85
theorem run_loads_in {args : List PV} {st : Sto} {Q : PV × Sto → Prop} (hl : args.length = 2) (h : Ok (denB (Gat G0 cds 85) G0 b_loads_in st.length (args.map some ++ List.replicate 0 none) st) (Nd st.length Q)) : Ok (F_loads_in args st) Q := by
  show Ok (Gf G0 cds 85 args st) Q
  rw [Gf_eq (d := d_loads_in) rfl]
  exact run_of hl h
noncomputable abbrev F_work := Gf G0 cds 86
abbrev n_work : Nat := 86
theorem run_work {args : List PV} {st : Sto} {Q : PV × Sto → Prop} (hl : args.length = 4) (h : Ok (denB (Gat G0 cds 86) G0 b_work st.length (args.map some ++ List.replicate 0 none) st) (Nd st.length Q)) : Ok (F_work args st) Q := by
  show Ok (Gf G0 cds 86 args st) Q
  rw [Gf_eq (d := d_work) rfl]
  exact run_of hl h
noncomputable abbrev F__want_all := Gf G0 cds 87
abbrev n__want_all : Nat := 87
theorem run__want_all {args : List PV} {st : Sto} {Q : PV × Sto → Prop} (hl : args.length = 3) (h : Ok (denB (Gat G0 cds 87) G0 b__want_all st.length (args.map some ++ List.replicate 0 none) st) (Nd st.length Q)) : Ok (F__want_all args st) Q := by
  show Ok (Gf G0 cds 87 args st) Q
  rw [Gf_eq (d := d__want_all) rfl]
  exact run_of hl h
noncomputable abbrev F_want_foot := Gf G0 cds 88
abbrev n_want_foot : Nat := 88
theorem run_want_foot {args : List PV} {st : Sto} {Q : PV × Sto → Prop} (hl : args.length = 2) (h : Ok (denB (Gat G0 cds 88) G0 b_want_foot st.length (args.map some ++ List.replicate 0 none) st) (Nd st.length Q)) : Ok (F_want_foot args st) Q := by
  show Ok (Gf G0 cds 88 args st) Q
  rw [Gf_eq (d := d_want_foot) rfl]
  exact run_of hl h
noncomputable abbrev F_told := Gf G0 cds 89
abbrev n_told : Nat := 89
theorem run_told {args : List PV} {st : Sto} {Q : PV × Sto → Prop} (hl : args.length = 1) (h : Ok (denB (Gat G0 cds 89) G0 b_told st.length (args.map some ++ List.replicate 0 none) st) (Nd st.length Q)) : Ok (F_told args st) Q := by
  show Ok (Gf G0 cds 89 args st) Q
  rw [Gf_eq (d := d_told) rfl]
  exact run_of hl h
noncomputable abbrev F_foot_wrench := Gf G0 cds 90
abbrev n_foot_wrench : Nat := 90
theorem run_foot_wrench {args : List PV} {st : Sto} {Q : PV × Sto → Prop} (hl : args.length = 4) (h : Ok (denB (Gat G0 cds 90) G0 b_foot_wrench st.length (args.map some ++ List.replicate 0 none) st) (Nd st.length Q)) : Ok (F_foot_wrench args st) Q := by
  show Ok (Gf G0 cds 90 args st) Q
  rw [Gf_eq (d := d_foot_wrench) rfl]
  exact run_of hl h
noncomputable abbrev F_want_ratio := Gf G0 cds 91
abbrev n_want_ratio : Nat := 91
theorem run_want_ratio {args : List PV} {st : Sto} {Q : PV × Sto → Prop} (hl : args.length = 1) (h : Ok (denB (Gat G0 cds 91) G0 b_want_ratio st.length (args.map some ++ List.replicate 0 none) st) (Nd st.length Q)) : Ok (F_want_ratio args st) Q := by
  show Ok (Gf G0 cds 91 args st) Q
  rw [Gf_eq (d := d_want_ratio) rfl]
  exact run_of hl h
noncomputable abbrev F_rigid := Gf G0 cds 92
abbrev n_rigid : Nat := 92
theorem run_rigid {args : List PV} {st : Sto} {Q : PV × Sto → Prop} (hl : args.length = 4) (h : Ok (denB (Gat G0 cds 92) G0 b_rigid st.length (args.map some ++ List.replicate 0 none) st) (Nd st.length Q)) : Ok (F_rigid args st) Q := by
  show Ok (Gf G0 cds 92 args st) Q
  rw [Gf_eq (d := d_rigid) rfl]
  exact run_of hl h
noncomputable abbrev F_told_movement := Gf G0 cds 93
abbrev n_told_movement : Nat := 93
theorem run_told_movement {args : List PV} {st : Sto} {Q : PV × Sto → Prop} (hl : args.length = 1) (h : Ok (denB (Gat G0 cds 93) G0 b_told_movement st.length (args.map some ++ List.replicate 1 none) st) (Nd st.length Q)) : Ok (F_told_movement args st) Q := by
  show Ok (Gf G0 cds 93 args st) Q
  rw [Gf_eq (d := d_told_movement) rfl]
  exact run_of hl h
noncomputable abbrev F_moves_added := Gf G0 cds 94
abbrev n_moves_added : Nat := 94
theorem run_moves_added {args : List PV} {st : Sto} {Q : PV × Sto → Prop} (hl : args.length = 2) (h : Ok (denB (Gat G0 cds 94) G0 b_moves_added st.length (args.map some ++ List.replicate 0 none) st) (Nd st.length Q)) : Ok (F_moves_added args st) Q := by
  show Ok (Gf G0 cds 94 args st) Q
  rw [Gf_eq (d := d_moves_added) rfl]
  exact run_of hl h
noncomputable abbrev F_added := Gf G0 cds 95
abbrev n_added : Nat := 95
theorem run_added {args : List PV} {st : Sto} {Q : PV × Sto → Prop} (hl : args.length = 3) (h : Ok (denB (Gat G0 cds 95) G0 b_added st.length (args.map some ++ List.replicate 2 none) st) (Nd st.length Q)) : Ok (F_added args st) Q := by
  show Ok (Gf G0 cds 95 args st) Q
  rw [Gf_eq (d := d_added) rfl]
  exact run_of hl h
noncomputable abbrev F_move_taken := Gf G0 cds 96
abbrev n_move_taken : Nat := 96
theorem run_move_taken {args : List PV} {st : Sto} {Q : PV × Sto → Prop} (hl : args.length = 2) (h : Ok (denB (Gat G0 cds 96) G0 b_move_taken st.length (args.map some ++ List.replicate 0 none) st) (Nd st.length Q)) : Ok (F_move_taken args st) Q := by
  show Ok (Gf G0 cds 96 args st) Q
  rw [Gf_eq (d := d_move_taken) rfl]
  exact run_of hl h
noncomputable abbrev F_taken := Gf G0 cds 97
abbrev n_taken : Nat := 97
theorem run_taken {args : List PV} {st : Sto} {Q : PV × Sto → Prop} (hl : args.length = 3) (h : Ok (denB (Gat G0 cds 97) G0 b_taken st.length (args.map some ++ List.replicate 1 none) st) (Nd st.length Q)) : Ok (F_taken args st) Q := by
  show Ok (Gf G0 cds 97 args st) Q
  rw [Gf_eq (d := d_taken) rfl]
  exact run_of hl h
noncomputable abbrev F_borne := Gf G0 cds 98
abbrev n_borne : Nat := 98
theorem run_borne {args : List PV} {st : Sto} {Q : PV × Sto → Prop} (hl : args.length = 3) (h : Ok (denB (Gat G0 cds 98) G0 b_borne st.length (args.map some ++ List.replicate 1 none) st) (Nd st.length Q)) : Ok (F_borne args st) Q := by
  show Ok (Gf G0 cds 98 args st) Q
  rw [Gf_eq (d := d_borne) rfl]
  exact run_of hl h
noncomputable abbrev F__law_works_right := Gf G0 cds 99
abbrev n__law_works_right : Nat := 99
theorem run__law_works_right {args : List PV} {st : Sto} {Q : PV × Sto → Prop} (hl : args.length = 6) (h : Ok (denB (Gat G0 cds 99) G0 b__law_works_right st.length (args.map some ++ List.replicate 8 none) st) (Nd st.length Q)) : Ok (F__law_works_right args st) Q := by
  show Ok (Gf G0 cds 99 args st) Q
  rw [Gf_eq (d := d__law_works_right) rfl]
  exact run_of hl h
noncomputable abbrev F_is_push := Gf G0 cds 100
abbrev n_is_push : Nat := 100
theorem run_is_push {args : List PV} {st : Sto} {Q : PV × Sto → Prop} (hl : args.length = 2) (h : Ok (denB (Gat G0 cds 100) G0 b_is_push st.length (args.map some ++ List.replicate 0 none) st) (Nd st.length Q)) : Ok (F_is_push args st) Q := by
  show Ok (Gf G0 cds 100 args st) Q
  rw [Gf_eq (d := d_is_push) rfl]
  exact run_of hl h
noncomputable abbrev F__law_right := Gf G0 cds 101
abbrev n__law_right : Nat := 101
theorem run__law_right {args : List PV} {st : Sto} {Q : PV × Sto → Prop} (hl : args.length = 1) (h : Ok (denB (Gat G0 cds 101) G0 b__law_right st.length (args.map some ++ List.replicate 13 none) st) (Nd st.length Q)) : Ok (F__law_right args st) Q := by
  show Ok (Gf G0 cds 101 args st) Q
  rw [Gf_eq (d := d__law_right) rfl]
  exact run_of hl h
noncomputable abbrev F__law_pot := Gf G0 cds 102
abbrev n__law_pot : Nat := 102
theorem run__law_pot {args : List PV} {st : Sto} {Q : PV × Sto → Prop} (hl : args.length = 2) (h : Ok (denB (Gat G0 cds 102) G0 b__law_pot st.length (args.map some ++ List.replicate 1 none) st) (Nd st.length Q)) : Ok (F__law_pot args st) Q := by
  show Ok (Gf G0 cds 102 args st) Q
  rw [Gf_eq (d := d__law_pot) rfl]
  exact run_of hl h
noncomputable abbrev F_law := Gf G0 cds 103
abbrev n_law : Nat := 103
theorem run_law {args : List PV} {st : Sto} {Q : PV × Sto → Prop} (hl : args.length = 1) (h : Ok (denB (Gat G0 cds 103) G0 b_law st.length (args.map some ++ List.replicate 0 none) st) (Nd st.length Q)) : Ok (F_law args st) Q := by
  show Ok (Gf G0 cds 103 args st) Q
  rw [Gf_eq (d := d_law) rfl]
  exact run_of hl h
end LAW

end
section
set_option Elab.async false
set_option linter.all false
set_option maxRecDepth 100000
set_option maxHeartbeats 0
/-! the table is the text's; the head; the law's end (printed by wip/gen.py) -/
namespace LAW
open PySem PySem.Spec PyProof.Rows L2 MP
theorem ba__law_draw : BindAll f__law_draw := fun _ _ _ _ _ _ us hl => match us, hl with | [_, _], _ => rfl
theorem ba__law_made : BindAll f__law_made := fun _ _ _ _ _ _ us hl => match us, hl with | [_, _], _ => rfl
theorem ba__law_over : BindAll f__law_over := fun _ _ _ _ _ _ us hl => match us, hl with | [_, _], _ => rfl
theorem ba__law_plus : BindAll f__law_plus := fun _ _ _ _ _ _ us hl => match us, hl with | [_, _], _ => rfl
theorem ba__law_minus : BindAll f__law_minus := fun _ _ _ _ _ _ us hl => match us, hl with | [_, _], _ => rfl
theorem ba__law_by : BindAll f__law_by := fun _ _ _ _ _ _ us hl => match us, hl with | [_, _], _ => rfl
theorem ba__law_on : BindAll f__law_on := fun _ _ _ _ _ _ us hl => match us, hl with | [_, _, _], _ => rfl
theorem ba__law_joint : BindAll f__law_joint := fun _ _ _ _ _ _ us hl => match us, hl with | [_, _, _, _], _ => rfl
theorem ba__law_add : BindAll f__law_add := fun _ _ _ _ _ _ us hl => match us, hl with | [_, _], _ => rfl
theorem ba__law_pull : BindAll f__law_pull := fun _ _ _ _ _ _ us hl => match us, hl with | [_, _], _ => rfl
theorem ba__law_arch : BindAll f__law_arch := fun _ _ _ _ _ _ us hl => match us, hl with | [_, _, _, _], _ => rfl
theorem ba__law_stones : BindAll f__law_stones := fun _ _ _ _ _ _ us hl => match us, hl with | [_], _ => rfl
theorem ba__law_pier : BindAll f__law_pier := fun _ _ _ _ _ _ us hl => match us, hl with | [_, _, _], _ => rfl
theorem ba__law_take : BindAll f__law_take := fun _ _ _ _ _ _ us hl => match us, hl with | [_, _], _ => rfl
theorem ba__law_bridge : BindAll f__law_bridge := fun _ _ _ _ _ _ us hl => match us, hl with | [_, _], _ => rfl
theorem ba__law_lines : BindAll f__law_lines := fun _ _ _ _ _ _ us hl => match us, hl with | [_], _ => rfl
theorem ba__law_joints : BindAll f__law_joints := fun _ _ _ _ _ _ us hl => match us, hl with | [_], _ => rfl
theorem ba__law_loads : BindAll f__law_loads := fun _ _ _ _ _ _ us hl => match us, hl with | [_, _], _ => rfl
theorem ba__law_passed : BindAll f__law_passed := fun _ _ _ _ _ _ us hl => match us, hl with | [_, _, _], _ => rfl
theorem ba__law_lean : BindAll f__law_lean := fun _ _ _ _ _ _ us hl => match us, hl with | [_, _, _], _ => rfl
theorem ba__law_leans : BindAll f__law_leans := fun _ _ _ _ _ _ us hl => match us, hl with | [_, _, _], _ => rfl
theorem ba__law_is_firm : BindAll f__law_is_firm := fun _ _ _ _ _ _ us hl => match us, hl with | [_, _, _], _ => rfl
theorem ba_is_row : BindAll f_is_row := fun _ _ _ _ _ _ us hl => match us, hl with | [_, _], _ => rfl
theorem ba_is_integer : BindAll f_is_integer := fun _ _ _ _ _ _ us hl => match us, hl with | [_], _ => rfl
theorem ba_is_ratio : BindAll f_is_ratio := fun _ _ _ _ _ _ us hl => match us, hl with | [_], _ => rfl
theorem ba_is_wrench : BindAll f_is_wrench := fun _ _ _ _ _ _ us hl => match us, hl with | [_], _ => rfl
theorem ba_is_thrust_in : BindAll f_is_thrust_in := fun _ _ _ _ _ _ us hl => match us, hl with | [_, _], _ => rfl
theorem ba_is_upright : BindAll f_is_upright := fun _ _ _ _ _ _ us hl => match us, hl with | [_], _ => rfl
theorem ba_parts_in : BindAll f_parts_in := fun _ _ _ _ _ _ us hl => match us, hl with | [_], _ => rfl
theorem ba_fraction : BindAll f_fraction := fun _ _ _ _ _ _ us hl => match us, hl with | [_, _], _ => rfl
theorem ba_plus : BindAll f_plus := fun _ _ _ _ _ _ us hl => match us, hl with | [_, _], _ => rfl
theorem ba_sum_in : BindAll f_sum_in := fun _ _ _ _ _ _ us hl => match us, hl with | [_, _], _ => rfl
theorem ba_opposite : BindAll f_opposite := fun _ _ _ _ _ _ us hl => match us, hl with | [_], _ => rfl
theorem ba_less_in : BindAll f_less_in := fun _ _ _ _ _ _ us hl => match us, hl with | [_, _], _ => rfl
theorem ba_passed_in : BindAll f_passed_in := fun _ _ _ _ _ _ us hl => match us, hl with | [_, _, _], _ => rfl
theorem ba_joints_in : BindAll f_joints_in := fun _ _ _ _ _ _ us hl => match us, hl with | [_], _ => rfl
theorem ba_product : BindAll f_product := fun _ _ _ _ _ _ us hl => match us, hl with | [_, _], _ => rfl
theorem ba_whole : BindAll f_whole := fun _ _ _ _ _ _ us hl => match us, hl with | [_], _ => rfl
theorem ba_minus : BindAll f_minus := fun _ _ _ _ _ _ us hl => match us, hl with | [_, _], _ => rfl
theorem ba_moment_in : BindAll f_moment_in := fun _ _ _ _ _ _ us hl => match us, hl with | [_, _], _ => rfl
theorem ba_lean_in : BindAll f_lean_in := fun _ _ _ _ _ _ us hl => match us, hl with | [_, _, _], _ => rfl
theorem ba_leans_in : BindAll f_leans_in := fun _ _ _ _ _ _ us hl => match us, hl with | [_, _, _], _ => rfl
theorem ba_stones_in : BindAll f_stones_in := fun _ _ _ _ _ _ us hl => match us, hl with | [_], _ => rfl
theorem ba_no_loads : BindAll f_no_loads := fun _ _ _ _ _ _ us hl => match us, hl with | [_], _ => rfl
theorem ba_is_push_in : BindAll f_is_push_in := fun _ _ _ _ _ _ us hl => match us, hl with | [_, _], _ => rfl
theorem ba_want_push : BindAll f_want_push := fun _ _ _ _ _ _ us hl => match us, hl with | [_, _], _ => rfl
theorem ba_foot_count : BindAll f_foot_count := fun _ _ _ _ _ _ us hl => match us, hl with | [_], _ => rfl
theorem ba_is_move : BindAll f_is_move := fun _ _ _ _ _ _ us hl => match us, hl with | [_], _ => rfl
theorem ba_is_movement_in : BindAll f_is_movement_in := fun _ _ _ _ _ _ us hl => match us, hl with | [_, _], _ => rfl
theorem ba_want_movement : BindAll f_want_movement := fun _ _ _ _ _ _ us hl => match us, hl with | [_, _], _ => rfl
theorem ba_shown : BindAll f_shown := fun _ _ _ _ _ _ us hl => match us, hl with | [_], _ => rfl
theorem ba_is_rising : BindAll f_is_rising := fun _ _ _ _ _ _ us hl => match us, hl with | [_], _ => rfl
theorem ba_is_between : BindAll f_is_between := fun _ _ _ _ _ _ us hl => match us, hl with | [_, _, _], _ => rfl
theorem ba_is_within : BindAll f_is_within := fun _ _ _ _ _ _ us hl => match us, hl with | [_, _, _], _ => rfl
theorem ba_is_point : BindAll f_is_point := fun _ _ _ _ _ _ us hl => match us, hl with | [_], _ => rfl
theorem ba_is_joint : BindAll f_is_joint := fun _ _ _ _ _ _ us hl => match us, hl with | [_], _ => rfl
theorem ba_is_stone : BindAll f_is_stone := fun _ _ _ _ _ _ us hl => match us, hl with | [_], _ => rfl
theorem ba__are_laid : BindAll f__are_laid := fun _ _ _ _ _ _ us hl => match us, hl with | [_, _, _, _], _ => rfl
theorem ba__is_arch : BindAll f__is_arch := fun _ _ _ _ _ _ us hl => match us, hl with | [_], _ => rfl
theorem ba__is_pier : BindAll f__is_pier := fun _ _ _ _ _ _ us hl => match us, hl with | [_], _ => rfl
theorem ba_is_cart : BindAll f_is_cart := fun _ _ _ _ _ _ us hl => match us, hl with | [_, _], _ => rfl
theorem ba_is_load : BindAll f_is_load := fun _ _ _ _ _ _ us hl => match us, hl with | [_, _], _ => rfl
theorem ba_is_bridge : BindAll f_is_bridge := fun _ _ _ _ _ _ us hl => match us, hl with | [_], _ => rfl
theorem ba_want_bridge : BindAll f_want_bridge := fun _ _ _ _ _ _ us hl => match us, hl with | [_], _ => rfl
theorem ba_total : BindAll f_total := fun _ _ _ _ _ _ us hl => match us, hl with | [_], _ => rfl
theorem ba_worked : BindAll f_worked := fun _ _ _ _ _ _ us hl => match us, hl with | [_, _], _ => rfl
theorem ba_taken_in : BindAll f_taken_in := fun _ _ _ _ _ _ us hl => match us, hl with | [_, _], _ => rfl
theorem ba_onto_foot : BindAll f_onto_foot := fun _ _ _ _ _ _ us hl => match us, hl with | [_, _, _, _], _ => rfl
theorem ba_borne_in : BindAll f_borne_in := fun _ _ _ _ _ _ us hl => match us, hl with | [_, _, _], _ => rfl
theorem ba_work_in : BindAll f_work_in := fun _ _ _ _ _ _ us hl => match us, hl with | [_, _, _, _], _ => rfl
theorem ba_push_work : BindAll f_push_work := fun _ _ _ _ _ _ us hl => match us, hl with | [_, _, _], _ => rfl
theorem ba__law_ratio : BindAll f__law_ratio := fun _ _ _ _ _ _ us hl => match us, hl with | [_, _], _ => rfl
theorem ba__law_move : BindAll f__law_move := fun _ _ _ _ _ _ us hl => match us, hl with | [_], _ => rfl
theorem ba__law_sides : BindAll f__law_sides := fun _ _ _ _ _ _ us hl => match us, hl with | [_], _ => rfl
theorem ba__law_borne : BindAll f__law_borne := fun _ _ _ _ _ _ us hl => match us, hl with | [_, _, _], _ => rfl
theorem ba__law_sum : BindAll f__law_sum := fun _ _ _ _ _ _ us hl => match us, hl with | [_], _ => rfl
theorem ba__law_works : BindAll f__law_works := fun _ _ _ _ _ _ us hl => match us, hl with | [_, _], _ => rfl
theorem ba__law_work : BindAll f__law_work := fun _ _ _ _ _ _ us hl => match us, hl with | [_, _, _, _], _ => rfl
theorem ba__law_all_loads : BindAll f__law_all_loads := fun _ _ _ _ _ _ us hl => match us, hl with | [_, _], _ => rfl
theorem ba_want_state : BindAll f_want_state := fun _ _ _ _ _ _ us hl => match us, hl with | [_, _], _ => rfl
theorem ba_want_thrust : BindAll f_want_thrust := fun _ _ _ _ _ _ us hl => match us, hl with | [_, _], _ => rfl
theorem ba_loads_of : BindAll f_loads_of := fun _ _ _ _ _ _ us hl => match us, hl with | [_], _ => rfl
theorem ba_own_pulls : BindAll f_own_pulls := fun _ _ _ _ _ _ us hl => match us, hl with | [_], _ => rfl
theorem ba_pulls_by : BindAll f_pulls_by := fun _ _ _ _ _ _ us hl => match us, hl with | [_, _], _ => rfl
theorem ba_pulls_in : BindAll f_pulls_in := fun _ _ _ _ _ _ us hl => match us, hl with | [_, _], _ => rfl
theorem ba_loads_in : BindAll f_loads_in := fun _ _ _ _ _ _ us hl => match us, hl with | [_, _], _ => rfl
theorem ba_work : BindAll f_work := fun _ _ _ _ _ _ us hl => match us, hl with | [_, _, _, _], _ => rfl
theorem ba__want_all : BindAll f__want_all := fun _ _ _ _ _ _ us hl => match us, hl with | [_, _, _], _ => rfl
theorem ba_want_foot : BindAll f_want_foot := fun _ _ _ _ _ _ us hl => match us, hl with | [_, _], _ => rfl
theorem ba_told : BindAll f_told := fun _ _ _ _ _ _ us hl => match us, hl with | [_], _ => rfl
theorem ba_foot_wrench : BindAll f_foot_wrench := fun _ _ _ _ _ _ us hl => match us, hl with | [_, _, _, _], _ => rfl
theorem ba_want_ratio : BindAll f_want_ratio := fun _ _ _ _ _ _ us hl => match us, hl with | [_], _ => rfl
theorem ba_rigid : BindAll f_rigid := fun _ _ _ _ _ _ us hl => match us, hl with | [_, _, _, _], _ => rfl
theorem ba_told_movement : BindAll f_told_movement := fun _ _ _ _ _ _ us hl => match us, hl with | [_], _ => rfl
theorem ba_moves_added : BindAll f_moves_added := fun _ _ _ _ _ _ us hl => match us, hl with | [_, _], _ => rfl
theorem ba_added : BindAll f_added := fun _ _ _ _ _ _ us hl => match us, hl with | [_, _, _], _ => rfl
theorem ba_move_taken : BindAll f_move_taken := fun _ _ _ _ _ _ us hl => match us, hl with | [_, _], _ => rfl
theorem ba_taken : BindAll f_taken := fun _ _ _ _ _ _ us hl => match us, hl with | [_, _, _], _ => rfl
theorem ba_borne : BindAll f_borne := fun _ _ _ _ _ _ us hl => match us, hl with | [_, _, _], _ => rfl
theorem ba__law_works_right : BindAll f__law_works_right := fun _ _ _ _ _ _ us hl => match us, hl with | [_, _, _, _, _, _], _ => rfl
theorem ba_is_push : BindAll f_is_push := fun _ _ _ _ _ _ us hl => match us, hl with | [_, _], _ => rfl
theorem ba__law_right : BindAll f__law_right := fun _ _ _ _ _ _ us hl => match us, hl with | [_], _ => rfl
theorem ba__law_pot : BindAll f__law_pot := fun _ _ _ _ _ _ us hl => match us, hl with | [_, _], _ => rfl
theorem ba_law : BindAll f_law := fun _ _ _ _ _ _ us hl => match us, hl with | [_], _ => rfl
theorem binds : ∀ (j : Nat) d, tbl[j]? = some d → BindAll d := eachAt ⟨ba__law_draw, ba__law_made, ba__law_over, ba__law_plus, ba__law_minus, ba__law_by, ba__law_on, ba__law_joint, ba__law_add, ba__law_pull, ba__law_arch, ba__law_stones, ba__law_pier, ba__law_take, ba__law_bridge, ba__law_lines, ba__law_joints, ba__law_loads, ba__law_passed, ba__law_lean, ba__law_leans, ba__law_is_firm, ba_is_row, ba_is_integer, ba_is_ratio, ba_is_wrench, ba_is_thrust_in, ba_is_upright, ba_parts_in, ba_fraction, ba_plus, ba_sum_in, ba_opposite, ba_less_in, ba_passed_in, ba_joints_in, ba_product, ba_whole, ba_minus, ba_moment_in, ba_lean_in, ba_leans_in, ba_stones_in, ba_no_loads, ba_is_push_in, ba_want_push, ba_foot_count, ba_is_move, ba_is_movement_in, ba_want_movement, ba_shown, ba_is_rising, ba_is_between, ba_is_within, ba_is_point, ba_is_joint, ba_is_stone, ba__are_laid, ba__is_arch, ba__is_pier, ba_is_cart, ba_is_load, ba_is_bridge, ba_want_bridge, ba_total, ba_worked, ba_taken_in, ba_onto_foot, ba_borne_in, ba_work_in, ba_push_work, ba__law_ratio, ba__law_move, ba__law_sides, ba__law_borne, ba__law_sum, ba__law_works, ba__law_work, ba__law_all_loads, ba_want_state, ba_want_thrust, ba_loads_of, ba_own_pulls, ba_pulls_by, ba_pulls_in, ba_loads_in, ba_work, ba__want_all, ba_want_foot, ba_told, ba_foot_wrench, ba_want_ratio, ba_rigid, ba_told_movement, ba_moves_added, ba_added, ba_move_taken, ba_taken, ba_borne, ba__law_works_right, ba_is_push, ba__law_right, ba__law_pot, ba_law, trivial⟩
theorem fines : ∀ (j : Nat) d, tbl[j]? = some d → d.fine := eachFine (by decide +kernel)
theorem ok__law_draw : okB (omOf tbl (gnOf csts) kws) 0 f__law_draw.N (defScope f__law_draw.st).names f__law_draw.cd.body (defBody f__law_draw.st) = true := by decide +kernel
theorem ok__law_made : okB (omOf tbl (gnOf csts) kws) 1 f__law_made.N (defScope f__law_made.st).names f__law_made.cd.body (defBody f__law_made.st) = true := by decide +kernel
theorem ok__law_over : okB (omOf tbl (gnOf csts) kws) 2 f__law_over.N (defScope f__law_over.st).names f__law_over.cd.body (defBody f__law_over.st) = true := by decide +kernel
theorem ok__law_plus : okB (omOf tbl (gnOf csts) kws) 3 f__law_plus.N (defScope f__law_plus.st).names f__law_plus.cd.body (defBody f__law_plus.st) = true := by decide +kernel
theorem ok__law_minus : okB (omOf tbl (gnOf csts) kws) 4 f__law_minus.N (defScope f__law_minus.st).names f__law_minus.cd.body (defBody f__law_minus.st) = true := by decide +kernel
theorem ok__law_by : okB (omOf tbl (gnOf csts) kws) 5 f__law_by.N (defScope f__law_by.st).names f__law_by.cd.body (defBody f__law_by.st) = true := by decide +kernel
theorem ok__law_on : okB (omOf tbl (gnOf csts) kws) 6 f__law_on.N (defScope f__law_on.st).names f__law_on.cd.body (defBody f__law_on.st) = true := by decide +kernel
theorem ok__law_joint : okB (omOf tbl (gnOf csts) kws) 7 f__law_joint.N (defScope f__law_joint.st).names f__law_joint.cd.body (defBody f__law_joint.st) = true := by decide +kernel
theorem ok__law_add : okB (omOf tbl (gnOf csts) kws) 8 f__law_add.N (defScope f__law_add.st).names f__law_add.cd.body (defBody f__law_add.st) = true := by decide +kernel
theorem ok__law_pull : okB (omOf tbl (gnOf csts) kws) 9 f__law_pull.N (defScope f__law_pull.st).names f__law_pull.cd.body (defBody f__law_pull.st) = true := by decide +kernel
theorem ok__law_arch : okB (omOf tbl (gnOf csts) kws) 10 f__law_arch.N (defScope f__law_arch.st).names f__law_arch.cd.body (defBody f__law_arch.st) = true := by decide +kernel
theorem ok__law_stones : okB (omOf tbl (gnOf csts) kws) 11 f__law_stones.N (defScope f__law_stones.st).names f__law_stones.cd.body (defBody f__law_stones.st) = true := by decide +kernel
theorem ok__law_pier : okB (omOf tbl (gnOf csts) kws) 12 f__law_pier.N (defScope f__law_pier.st).names f__law_pier.cd.body (defBody f__law_pier.st) = true := by decide +kernel
theorem ok__law_take : okB (omOf tbl (gnOf csts) kws) 13 f__law_take.N (defScope f__law_take.st).names f__law_take.cd.body (defBody f__law_take.st) = true := by decide +kernel
theorem ok__law_bridge : okB (omOf tbl (gnOf csts) kws) 14 f__law_bridge.N (defScope f__law_bridge.st).names f__law_bridge.cd.body (defBody f__law_bridge.st) = true := by decide +kernel
theorem ok__law_lines : okB (omOf tbl (gnOf csts) kws) 15 f__law_lines.N (defScope f__law_lines.st).names f__law_lines.cd.body (defBody f__law_lines.st) = true := by decide +kernel
theorem ok__law_joints : okB (omOf tbl (gnOf csts) kws) 16 f__law_joints.N (defScope f__law_joints.st).names f__law_joints.cd.body (defBody f__law_joints.st) = true := by decide +kernel
theorem ok__law_loads : okB (omOf tbl (gnOf csts) kws) 17 f__law_loads.N (defScope f__law_loads.st).names f__law_loads.cd.body (defBody f__law_loads.st) = true := by decide +kernel
theorem ok__law_passed : okB (omOf tbl (gnOf csts) kws) 18 f__law_passed.N (defScope f__law_passed.st).names f__law_passed.cd.body (defBody f__law_passed.st) = true := by decide +kernel
theorem ok__law_lean : okB (omOf tbl (gnOf csts) kws) 19 f__law_lean.N (defScope f__law_lean.st).names f__law_lean.cd.body (defBody f__law_lean.st) = true := by decide +kernel
theorem ok__law_leans : okB (omOf tbl (gnOf csts) kws) 20 f__law_leans.N (defScope f__law_leans.st).names f__law_leans.cd.body (defBody f__law_leans.st) = true := by decide +kernel
theorem ok__law_is_firm : okB (omOf tbl (gnOf csts) kws) 21 f__law_is_firm.N (defScope f__law_is_firm.st).names f__law_is_firm.cd.body (defBody f__law_is_firm.st) = true := by decide +kernel
theorem ok_is_row : okB (omOf tbl (gnOf csts) kws) 22 f_is_row.N (defScope f_is_row.st).names f_is_row.cd.body (defBody f_is_row.st) = true := by decide +kernel
theorem ok_is_integer : okB (omOf tbl (gnOf csts) kws) 23 f_is_integer.N (defScope f_is_integer.st).names f_is_integer.cd.body (defBody f_is_integer.st) = true := by decide +kernel
theorem ok_is_ratio : okB (omOf tbl (gnOf csts) kws) 24 f_is_ratio.N (defScope f_is_ratio.st).names f_is_ratio.cd.body (defBody f_is_ratio.st) = true := by decide +kernel
theorem ok_is_wrench : okB (omOf tbl (gnOf csts) kws) 25 f_is_wrench.N (defScope f_is_wrench.st).names f_is_wrench.cd.body (defBody f_is_wrench.st) = true := by decide +kernel
theorem ok_is_thrust_in : okB (omOf tbl (gnOf csts) kws) 26 f_is_thrust_in.N (defScope f_is_thrust_in.st).names f_is_thrust_in.cd.body (defBody f_is_thrust_in.st) = true := by decide +kernel
theorem ok_is_upright : okB (omOf tbl (gnOf csts) kws) 27 f_is_upright.N (defScope f_is_upright.st).names f_is_upright.cd.body (defBody f_is_upright.st) = true := by decide +kernel
theorem ok_parts_in : okB (omOf tbl (gnOf csts) kws) 28 f_parts_in.N (defScope f_parts_in.st).names f_parts_in.cd.body (defBody f_parts_in.st) = true := by decide +kernel
theorem ok_fraction : okB (omOf tbl (gnOf csts) kws) 29 f_fraction.N (defScope f_fraction.st).names f_fraction.cd.body (defBody f_fraction.st) = true := by decide +kernel
theorem ok_plus : okB (omOf tbl (gnOf csts) kws) 30 f_plus.N (defScope f_plus.st).names f_plus.cd.body (defBody f_plus.st) = true := by decide +kernel
theorem ok_sum_in : okB (omOf tbl (gnOf csts) kws) 31 f_sum_in.N (defScope f_sum_in.st).names f_sum_in.cd.body (defBody f_sum_in.st) = true := by decide +kernel
theorem ok_opposite : okB (omOf tbl (gnOf csts) kws) 32 f_opposite.N (defScope f_opposite.st).names f_opposite.cd.body (defBody f_opposite.st) = true := by decide +kernel
theorem ok_less_in : okB (omOf tbl (gnOf csts) kws) 33 f_less_in.N (defScope f_less_in.st).names f_less_in.cd.body (defBody f_less_in.st) = true := by decide +kernel
theorem ok_passed_in : okB (omOf tbl (gnOf csts) kws) 34 f_passed_in.N (defScope f_passed_in.st).names f_passed_in.cd.body (defBody f_passed_in.st) = true := by decide +kernel
theorem ok_joints_in : okB (omOf tbl (gnOf csts) kws) 35 f_joints_in.N (defScope f_joints_in.st).names f_joints_in.cd.body (defBody f_joints_in.st) = true := by decide +kernel
theorem ok_product : okB (omOf tbl (gnOf csts) kws) 36 f_product.N (defScope f_product.st).names f_product.cd.body (defBody f_product.st) = true := by decide +kernel
theorem ok_whole : okB (omOf tbl (gnOf csts) kws) 37 f_whole.N (defScope f_whole.st).names f_whole.cd.body (defBody f_whole.st) = true := by decide +kernel
theorem ok_minus : okB (omOf tbl (gnOf csts) kws) 38 f_minus.N (defScope f_minus.st).names f_minus.cd.body (defBody f_minus.st) = true := by decide +kernel
theorem ok_moment_in : okB (omOf tbl (gnOf csts) kws) 39 f_moment_in.N (defScope f_moment_in.st).names f_moment_in.cd.body (defBody f_moment_in.st) = true := by decide +kernel
theorem ok_lean_in : okB (omOf tbl (gnOf csts) kws) 40 f_lean_in.N (defScope f_lean_in.st).names f_lean_in.cd.body (defBody f_lean_in.st) = true := by decide +kernel
theorem ok_leans_in : okB (omOf tbl (gnOf csts) kws) 41 f_leans_in.N (defScope f_leans_in.st).names f_leans_in.cd.body (defBody f_leans_in.st) = true := by decide +kernel
theorem ok_stones_in : okB (omOf tbl (gnOf csts) kws) 42 f_stones_in.N (defScope f_stones_in.st).names f_stones_in.cd.body (defBody f_stones_in.st) = true := by decide +kernel
theorem ok_no_loads : okB (omOf tbl (gnOf csts) kws) 43 f_no_loads.N (defScope f_no_loads.st).names f_no_loads.cd.body (defBody f_no_loads.st) = true := by decide +kernel
theorem ok_is_push_in : okB (omOf tbl (gnOf csts) kws) 44 f_is_push_in.N (defScope f_is_push_in.st).names f_is_push_in.cd.body (defBody f_is_push_in.st) = true := by decide +kernel
theorem ok_want_push : okB (omOf tbl (gnOf csts) kws) 45 f_want_push.N (defScope f_want_push.st).names f_want_push.cd.body (defBody f_want_push.st) = true := by decide +kernel
theorem ok_foot_count : okB (omOf tbl (gnOf csts) kws) 46 f_foot_count.N (defScope f_foot_count.st).names f_foot_count.cd.body (defBody f_foot_count.st) = true := by decide +kernel
theorem ok_is_move : okB (omOf tbl (gnOf csts) kws) 47 f_is_move.N (defScope f_is_move.st).names f_is_move.cd.body (defBody f_is_move.st) = true := by decide +kernel
theorem ok_is_movement_in : okB (omOf tbl (gnOf csts) kws) 48 f_is_movement_in.N (defScope f_is_movement_in.st).names f_is_movement_in.cd.body (defBody f_is_movement_in.st) = true := by decide +kernel
theorem ok_want_movement : okB (omOf tbl (gnOf csts) kws) 49 f_want_movement.N (defScope f_want_movement.st).names f_want_movement.cd.body (defBody f_want_movement.st) = true := by decide +kernel
theorem ok_shown : okB (omOf tbl (gnOf csts) kws) 50 f_shown.N (defScope f_shown.st).names f_shown.cd.body (defBody f_shown.st) = true := by decide +kernel
theorem ok_is_rising : okB (omOf tbl (gnOf csts) kws) 51 f_is_rising.N (defScope f_is_rising.st).names f_is_rising.cd.body (defBody f_is_rising.st) = true := by decide +kernel
theorem ok_is_between : okB (omOf tbl (gnOf csts) kws) 52 f_is_between.N (defScope f_is_between.st).names f_is_between.cd.body (defBody f_is_between.st) = true := by decide +kernel
theorem ok_is_within : okB (omOf tbl (gnOf csts) kws) 53 f_is_within.N (defScope f_is_within.st).names f_is_within.cd.body (defBody f_is_within.st) = true := by decide +kernel
theorem ok_is_point : okB (omOf tbl (gnOf csts) kws) 54 f_is_point.N (defScope f_is_point.st).names f_is_point.cd.body (defBody f_is_point.st) = true := by decide +kernel
theorem ok_is_joint : okB (omOf tbl (gnOf csts) kws) 55 f_is_joint.N (defScope f_is_joint.st).names f_is_joint.cd.body (defBody f_is_joint.st) = true := by decide +kernel
theorem ok_is_stone : okB (omOf tbl (gnOf csts) kws) 56 f_is_stone.N (defScope f_is_stone.st).names f_is_stone.cd.body (defBody f_is_stone.st) = true := by decide +kernel
theorem ok__are_laid : okB (omOf tbl (gnOf csts) kws) 57 f__are_laid.N (defScope f__are_laid.st).names f__are_laid.cd.body (defBody f__are_laid.st) = true := by decide +kernel
theorem ok__is_arch : okB (omOf tbl (gnOf csts) kws) 58 f__is_arch.N (defScope f__is_arch.st).names f__is_arch.cd.body (defBody f__is_arch.st) = true := by decide +kernel
theorem ok__is_pier : okB (omOf tbl (gnOf csts) kws) 59 f__is_pier.N (defScope f__is_pier.st).names f__is_pier.cd.body (defBody f__is_pier.st) = true := by decide +kernel
theorem ok_is_cart : okB (omOf tbl (gnOf csts) kws) 60 f_is_cart.N (defScope f_is_cart.st).names f_is_cart.cd.body (defBody f_is_cart.st) = true := by decide +kernel
theorem ok_is_load : okB (omOf tbl (gnOf csts) kws) 61 f_is_load.N (defScope f_is_load.st).names f_is_load.cd.body (defBody f_is_load.st) = true := by decide +kernel
theorem ok_is_bridge : okB (omOf tbl (gnOf csts) kws) 62 f_is_bridge.N (defScope f_is_bridge.st).names f_is_bridge.cd.body (defBody f_is_bridge.st) = true := by decide +kernel
theorem ok_want_bridge : okB (omOf tbl (gnOf csts) kws) 63 f_want_bridge.N (defScope f_want_bridge.st).names f_want_bridge.cd.body (defBody f_want_bridge.st) = true := by decide +kernel
theorem ok_total : okB (omOf tbl (gnOf csts) kws) 64 f_total.N (defScope f_total.st).names f_total.cd.body (defBody f_total.st) = true := by decide +kernel
theorem ok_worked : okB (omOf tbl (gnOf csts) kws) 65 f_worked.N (defScope f_worked.st).names f_worked.cd.body (defBody f_worked.st) = true := by decide +kernel
theorem ok_taken_in : okB (omOf tbl (gnOf csts) kws) 66 f_taken_in.N (defScope f_taken_in.st).names f_taken_in.cd.body (defBody f_taken_in.st) = true := by decide +kernel
theorem ok_onto_foot : okB (omOf tbl (gnOf csts) kws) 67 f_onto_foot.N (defScope f_onto_foot.st).names f_onto_foot.cd.body (defBody f_onto_foot.st) = true := by decide +kernel
theorem ok_borne_in : okB (omOf tbl (gnOf csts) kws) 68 f_borne_in.N (defScope f_borne_in.st).names f_borne_in.cd.body (defBody f_borne_in.st) = true := by decide +kernel
theorem ok_work_in : okB (omOf tbl (gnOf csts) kws) 69 f_work_in.N (defScope f_work_in.st).names f_work_in.cd.body (defBody f_work_in.st) = true := by decide +kernel
theorem ok_push_work : okB (omOf tbl (gnOf csts) kws) 70 f_push_work.N (defScope f_push_work.st).names f_push_work.cd.body (defBody f_push_work.st) = true := by decide +kernel
theorem ok__law_ratio : okB (omOf tbl (gnOf csts) kws) 71 f__law_ratio.N (defScope f__law_ratio.st).names f__law_ratio.cd.body (defBody f__law_ratio.st) = true := by decide +kernel
theorem ok__law_move : okB (omOf tbl (gnOf csts) kws) 72 f__law_move.N (defScope f__law_move.st).names f__law_move.cd.body (defBody f__law_move.st) = true := by decide +kernel
theorem ok__law_sides : okB (omOf tbl (gnOf csts) kws) 73 f__law_sides.N (defScope f__law_sides.st).names f__law_sides.cd.body (defBody f__law_sides.st) = true := by decide +kernel
theorem ok__law_borne : okB (omOf tbl (gnOf csts) kws) 74 f__law_borne.N (defScope f__law_borne.st).names f__law_borne.cd.body (defBody f__law_borne.st) = true := by decide +kernel
theorem ok__law_sum : okB (omOf tbl (gnOf csts) kws) 75 f__law_sum.N (defScope f__law_sum.st).names f__law_sum.cd.body (defBody f__law_sum.st) = true := by decide +kernel
theorem ok__law_works : okB (omOf tbl (gnOf csts) kws) 76 f__law_works.N (defScope f__law_works.st).names f__law_works.cd.body (defBody f__law_works.st) = true := by decide +kernel
theorem ok__law_work : okB (omOf tbl (gnOf csts) kws) 77 f__law_work.N (defScope f__law_work.st).names f__law_work.cd.body (defBody f__law_work.st) = true := by decide +kernel
theorem ok__law_all_loads : okB (omOf tbl (gnOf csts) kws) 78 f__law_all_loads.N (defScope f__law_all_loads.st).names f__law_all_loads.cd.body (defBody f__law_all_loads.st) = true := by decide +kernel
theorem ok_want_state : okB (omOf tbl (gnOf csts) kws) 79 f_want_state.N (defScope f_want_state.st).names f_want_state.cd.body (defBody f_want_state.st) = true := by decide +kernel
theorem ok_want_thrust : okB (omOf tbl (gnOf csts) kws) 80 f_want_thrust.N (defScope f_want_thrust.st).names f_want_thrust.cd.body (defBody f_want_thrust.st) = true := by decide +kernel
theorem ok_loads_of : okB (omOf tbl (gnOf csts) kws) 81 f_loads_of.N (defScope f_loads_of.st).names f_loads_of.cd.body (defBody f_loads_of.st) = true := by decide +kernel
theorem ok_own_pulls : okB (omOf tbl (gnOf csts) kws) 82 f_own_pulls.N (defScope f_own_pulls.st).names f_own_pulls.cd.body (defBody f_own_pulls.st) = true := by decide +kernel
theorem ok_pulls_by : okB (omOf tbl (gnOf csts) kws) 83 f_pulls_by.N (defScope f_pulls_by.st).names f_pulls_by.cd.body (defBody f_pulls_by.st) = true := by decide +kernel
theorem ok_pulls_in : okB (omOf tbl (gnOf csts) kws) 84 f_pulls_in.N (defScope f_pulls_in.st).names f_pulls_in.cd.body (defBody f_pulls_in.st) = true := by decide +kernel
theorem ok_loads_in : okB (omOf tbl (gnOf csts) kws) 85 f_loads_in.N (defScope f_loads_in.st).names f_loads_in.cd.body (defBody f_loads_in.st) = true := by decide +kernel
theorem ok_work : okB (omOf tbl (gnOf csts) kws) 86 f_work.N (defScope f_work.st).names f_work.cd.body (defBody f_work.st) = true := by decide +kernel
theorem ok__want_all : okB (omOf tbl (gnOf csts) kws) 87 f__want_all.N (defScope f__want_all.st).names f__want_all.cd.body (defBody f__want_all.st) = true := by decide +kernel
theorem ok_want_foot : okB (omOf tbl (gnOf csts) kws) 88 f_want_foot.N (defScope f_want_foot.st).names f_want_foot.cd.body (defBody f_want_foot.st) = true := by decide +kernel
theorem ok_told : okB (omOf tbl (gnOf csts) kws) 89 f_told.N (defScope f_told.st).names f_told.cd.body (defBody f_told.st) = true := by decide +kernel
theorem ok_foot_wrench : okB (omOf tbl (gnOf csts) kws) 90 f_foot_wrench.N (defScope f_foot_wrench.st).names f_foot_wrench.cd.body (defBody f_foot_wrench.st) = true := by decide +kernel
theorem ok_want_ratio : okB (omOf tbl (gnOf csts) kws) 91 f_want_ratio.N (defScope f_want_ratio.st).names f_want_ratio.cd.body (defBody f_want_ratio.st) = true := by decide +kernel
theorem ok_rigid : okB (omOf tbl (gnOf csts) kws) 92 f_rigid.N (defScope f_rigid.st).names f_rigid.cd.body (defBody f_rigid.st) = true := by decide +kernel
theorem ok_told_movement : okB (omOf tbl (gnOf csts) kws) 93 f_told_movement.N (defScope f_told_movement.st).names f_told_movement.cd.body (defBody f_told_movement.st) = true := by decide +kernel
theorem ok_moves_added : okB (omOf tbl (gnOf csts) kws) 94 f_moves_added.N (defScope f_moves_added.st).names f_moves_added.cd.body (defBody f_moves_added.st) = true := by decide +kernel
theorem ok_added : okB (omOf tbl (gnOf csts) kws) 95 f_added.N (defScope f_added.st).names f_added.cd.body (defBody f_added.st) = true := by decide +kernel
theorem ok_move_taken : okB (omOf tbl (gnOf csts) kws) 96 f_move_taken.N (defScope f_move_taken.st).names f_move_taken.cd.body (defBody f_move_taken.st) = true := by decide +kernel
theorem ok_taken : okB (omOf tbl (gnOf csts) kws) 97 f_taken.N (defScope f_taken.st).names f_taken.cd.body (defBody f_taken.st) = true := by decide +kernel
theorem ok_borne : okB (omOf tbl (gnOf csts) kws) 98 f_borne.N (defScope f_borne.st).names f_borne.cd.body (defBody f_borne.st) = true := by decide +kernel
theorem ok__law_works_right : okB (omOf tbl (gnOf csts) kws) 99 f__law_works_right.N (defScope f__law_works_right.st).names f__law_works_right.cd.body (defBody f__law_works_right.st) = true := by decide +kernel
theorem ok_is_push : okB (omOf tbl (gnOf csts) kws) 100 f_is_push.N (defScope f_is_push.st).names f_is_push.cd.body (defBody f_is_push.st) = true := by decide +kernel
theorem ok__law_right : okB (omOf tbl (gnOf csts) kws) 101 f__law_right.N (defScope f__law_right.st).names f__law_right.cd.body (defBody f__law_right.st) = true := by decide +kernel
theorem ok__law_pot : okB (omOf tbl (gnOf csts) kws) 102 f__law_pot.N (defScope f__law_pot.st).names f__law_pot.cd.body (defBody f__law_pot.st) = true := by decide +kernel
theorem ok_law : okB (omOf tbl (gnOf csts) kws) 103 f_law.N (defScope f_law.st).names f_law.cd.body (defBody f_law.st) = true := by decide +kernel
theorem oks : ∀ (j : Nat) d, tbl[j]? = some d → okB (omOf tbl (gnOf csts) kws) j d.N (defScope d.st).names d.cd.body (defBody d.st) = true := eachNum ⟨ok__law_draw, ok__law_made, ok__law_over, ok__law_plus, ok__law_minus, ok__law_by, ok__law_on, ok__law_joint, ok__law_add, ok__law_pull, ok__law_arch, ok__law_stones, ok__law_pier, ok__law_take, ok__law_bridge, ok__law_lines, ok__law_joints, ok__law_loads, ok__law_passed, ok__law_lean, ok__law_leans, ok__law_is_firm, ok_is_row, ok_is_integer, ok_is_ratio, ok_is_wrench, ok_is_thrust_in, ok_is_upright, ok_parts_in, ok_fraction, ok_plus, ok_sum_in, ok_opposite, ok_less_in, ok_passed_in, ok_joints_in, ok_product, ok_whole, ok_minus, ok_moment_in, ok_lean_in, ok_leans_in, ok_stones_in, ok_no_loads, ok_is_push_in, ok_want_push, ok_foot_count, ok_is_move, ok_is_movement_in, ok_want_movement, ok_shown, ok_is_rising, ok_is_between, ok_is_within, ok_is_point, ok_is_joint, ok_is_stone, ok__are_laid, ok__is_arch, ok__is_pier, ok_is_cart, ok_is_load, ok_is_bridge, ok_want_bridge, ok_total, ok_worked, ok_taken_in, ok_onto_foot, ok_borne_in, ok_work_in, ok_push_work, ok__law_ratio, ok__law_move, ok__law_sides, ok__law_borne, ok__law_sum, ok__law_works, ok__law_work, ok__law_all_loads, ok_want_state, ok_want_thrust, ok_loads_of, ok_own_pulls, ok_pulls_by, ok_pulls_in, ok_loads_in, ok_work, ok__want_all, ok_want_foot, ok_told, ok_foot_wrench, ok_want_ratio, ok_rigid, ok_told_movement, ok_moves_added, ok_added, ok_move_taken, ok_taken, ok_borne, ok__law_works_right, ok_is_push, ok__law_right, ok__law_pot, ok_law, trivial⟩
theorem kw_0 : KwAll f_work ["movement", "thrust", "state", "bridge"] [3, 2, 1, 0] := fun _ _ _ _ _ _ ws hl => match ws, hl with | [_, _, _, _], _ => rfl
theorem kw_1 : KwAll f_borne ["thrust", "state", "bridge"] [2, 1, 0] := fun _ _ _ _ _ _ ws hl => match ws, hl with | [_, _, _], _ => rfl
theorem kw_2 : KwAll f_push_work ["movement", "push", "bridge"] [2, 1, 0] := fun _ _ _ _ _ _ ws hl => match ws, hl with | [_, _, _], _ => rfl
theorem kw_3 : KwAll f_is_push ["value", "bridge"] [1, 0] := fun _ _ _ _ _ _ ws hl => match ws, hl with | [_, _], _ => rfl
theorem kwsOk : ∀ e ∈ kws, ∀ d, tbl[e.1]? = some d → KwAll d e.2.1 e.2.2 := eachKw ⟨fun _ h => Option.some.inj h ▸ kw_0, fun _ h => Option.some.inj h ▸ kw_1, fun _ h => Option.some.inj h ▸ kw_2, fun _ h => Option.some.inj h ▸ kw_3, trivial⟩
def loose0 : List Str := ["SpanError", "LimitError", "InvalidRatio", "InvalidBridge", "InvalidState", "InvalidFoot", "InvalidThrust", "InvalidMovement", "InvalidPush", "TooMany", "is_integer", "is_within", "is_row", "is_between", "is_rising", "NOUGHT", "DIGITS", "BEYOND", "fraction", "plus", "opposite", "minus", "product", "total", "whole", "is_ratio", "want_ratio", "shown", "MOST_COORDINATE", "STILL"]
def loose1 : List Str := ["sum_in", "taken_in", "less_in", "moment_in", "lean_in", "is_wrench", "is_point", "told", "MOST_ARCHES", "MOST_JOINTS", "MOST_DEEP", "MOST_STATES", "MOST_CARTS", "GREATEST", "is_joint", "is_stone", "_are_laid", "_is_arch", "_is_pier", "is_cart", "is_load", "parts_in", "stones_in", "joints_in", "is_bridge", "want_bridge", "want_state", "want_foot", "pulls_by", "own_pulls"]
def loose2 : List Str := ["pulls_in", "loads_of", "loads_in", "passed_in", "leans_in", "is_upright", "is_thrust_in", "want_thrust", "_want_all", "onto_foot", "foot_wrench", "is_move", "moves_added", "move_taken", "worked", "foot_count", "is_movement_in", "want_movement", "told_movement", "borne_in", "work_in", "no_loads", "is_push_in", "want_push", "rigid", "added", "taken", "borne", "work", "is_push"]
def loose3 : List Str := ["push_work", "_law_pot", "_law_draw", "_law_pick", "_law_made", "_law_plus", "_law_minus", "_law_by", "_law_sum", "_law_is_less", "_law_add", "_law_take", "_law_works", "_law_pull", "_law_lean", "_law_lines", "_law_stones", "_law_joints", "_law_ends", "_law_sides", "_law_loads", "_law_passed", "_law_leans", "_law_is_firm", "_law_borne", "_law_work", "_law_gain", "_law_turn", "_law_led", "_law_away"]
def loose4 : List Str := ["_law_turns", "_law_between", "_law_joint", "_law_on", "_law_over", "_law_arch", "_law_pier", "_law_bridge", "_law_ratio", "_law_move", "_law_drawn_turns", "_law_all_loads", "_law_works_right", "_law_right"]
abbrev loose : List Str := loose0 ++ loose1 ++ loose2 ++ loose3 ++ loose4
abbrev R : PySem.W.OpenRow := PySem.W.OpenLaw.row PySem.Challenge.rw_stonespans_k81_whole_what_feet_bear
abbrev hk : PySem.W.Hook := hookM 2 bltFa csts (tbl.map dfOf)
abbrev ob : PySem.W.SharedT → He.AlD := fun s => obsMG 2 bltFa csts (tbl.map dfOf) (HandSHeadRun.getT s)
theorem ob_eq (s : PySem.W.SharedT) : ob s = hk.obs s.abs := obsMG_eq (HandSHeadRun.getT_eq s)
abbrev viewQ : PySem.Program := PySem.W.view R.prog [0, 143]
noncomputable abbrev wholeQ0 (w : World) : Option (Shared × PySem.W.SharedT) := HandSHeadRun.wholeF (fun p => HandSHeadRun.stepQ (HandSHeadRun.denQ HandSHeadRun.tabQ) p w) HandSHeadRun.fenceQ 8000 R.prog
theorem run_a (w : World) : (wholeQ0 w).map (fun x => (HandSHeadRun.looksF R.prog x.1.heap x.2.abs, HandSHeadRun.seenQ viewQ loose (importedModules R.prog.main.body) (fun s => PySem.W.xlAt viewQ [] s && PySem.W.recOk R.toRowW.records s) x.2.abs)) = some (true, PySem.W.openGood viewQ loose) := by kernel_rfl
theorem run_b (w : World) : (wholeQ0 w).map (fun x => obB bltFa csts (frT 2 x.2)) = some true := by kernel_rfl
theorem run_c0 (w : World) : PartOk (wholeQ0 w) 2 ((tbl.map dfOf).take 30) := by
  unfold PartOk
  kernel_rfl
theorem run_c1 (w : World) : PartOk (wholeQ0 w) 2 (((tbl.map dfOf).drop 30).take 30) := by
  unfold PartOk
  kernel_rfl
theorem run_c2 (w : World) : PartOk (wholeQ0 w) 2 ((((tbl.map dfOf).drop 30).drop 30).take 30) := by
  unfold PartOk
  kernel_rfl
theorem run_c3 (w : World) : PartOk (wholeQ0 w) 2 ((((tbl.map dfOf).drop 30).drop 30).drop 30) := by
  unfold PartOk
  kernel_rfl
theorem run (w : World) : HandSHeadRun.RunEqI R viewQ hk ob 8000 loose w := run_joinI (run_a w) (run_b w) (part_join 30 (run_c0 w) (part_join 30 (run_c1 w) (part_join 30 (run_c2 w) (run_c3 w))))
end LAW
open PySem PySem.W PySem.Calls PyProof.Rows
theorem LAW.holds_of (hrun : ∀ ns : List Int, ns.length ≤ 63 → ∃ st', LAW.F_law [.ref 0] [.fzl (ns.map .int)] = some (.bl true, st')) : PySem.Challenge.rw_stonespans_k81_whole_what_feet_bear.Holds := by
  w_on; o_law
  refine HandSHeadRun.head_imp (r := OpenLaw.row PySem.Challenge.rw_stonespans_k81_whole_what_feet_bear) (q := view (OpenLaw.row PySem.Challenge.rw_stonespans_k81_whole_what_feet_bear).prog [0, 143]) (H := LAW.hk) (ob := LAW.ob) (M := 8000) (loose := LAW.loose) (d := HandSHeadRun.topDef (OpenLaw.row PySem.Challenge.rw_stonespans_k81_whole_what_feet_bear).prog 143) (kwd := []) LAW.ob_eq
    LAW.run (by kernel_rfl) (by kernel_rfl) (by kernel_rfl) (by rfl) (by first | assumption | decide +kernel) (by decide +kernel) ⟨rfl, rfl, rfl, rfl, rfl, by decide +kernel⟩ ?hw ?hc
  case hw => w_witness2
  case hc =>
    exact MP.walk_M (l := PySem.Challenge.rw_stonespans_k81_whole_what_feet_bear) (ds := LAW.tbl) (gname := MP.gnOf LAW.csts) (kws := LAW.kws) (G := LAW.G0) (j := 103) (dl := LAW.f_law) rfl (by kernel_rfl) ⟨rfl, by decide, by decide⟩ rfl (by kernel_rfl) rfl LAW.fines LAW.binds LAW.oks MP.gOf_ok LAW.kwsOk hrun

end
section
set_option Elab.async false
set_option linter.all false
set_option maxRecDepth 100000
set_option maxHeartbeats 4000000
namespace LAW
open PySem MP
/-- a number of fewer bits than ever matters -/
def Sm (i : Int) : Prop := i.natAbs < 2 ^ 4000
theorem log_lt {n k : Nat} (h : n < 2 ^ k) (hk : 0 < k) : n.log2 < k := by
  by_cases h0 : n = 0
  · subst h0; simpa using hk
  · exact (Nat.log2_lt h0).2 h
theorem Sm.mul {i j : Int} (a : Sm i) (b : Sm j) : L2.CMulW i j := by
  unfold Sm at a b
  have := log_lt a (by decide)
  have := log_lt b (by decide)
  unfold L2.CMulW
  omega
theorem Sm.div {i j : Int} (b : Sm j) (h : 0 < j) : L2.CDivW i j := ⟨h, Nat.lt_trans (log_lt b (by decide)) (by decide)⟩
theorem Sm.le {i j : Int} (b : Sm j) (h : i.natAbs ≤ j.natAbs) : Sm i := Nat.lt_of_le_of_lt h b
def mkR (n u : Int) : PV := .tup [.int n, .int u]
/-- n over u, made small -/
def rN (n u : Int) : Int := (if u < 0 then -n else n) / Int.gcd n u
def rD (n u : Int) : Int := (u.natAbs : Int) / Int.gcd n u
theorem made_ok {n u : Int} (hu : u ≠ 0) (sn : Sm n) (su : Sm u) {st : Sto} {Q : PV × Sto → Prop} (q : Q (mkR (rN n u) (rD n u), st)) : Ok (F__law_made [.int n, .int u] st) Q := by
  refine run__law_made rfl ?_
  simp [b__law_made, rest_at]
  have hg : 0 < Int.gcd n u := Int.gcd_pos_of_ne_zero_right _ hu
  have hgu : Int.gcd n u ≤ u.natAbs := Nat.le_of_dvd (Int.natAbs_pos.mpr hu) (Int.gcd_dvd_natAbs_right n u)
  have sg : Sm ((Int.gcd n u : Nat) : Int) := su.le (by simpa using hgu)
  have s1 : Sm 1 := by unfold Sm; decide
  have s2 : Sm (-1) := by unfold Sm; decide
  have e : ∀ i : Int, (if i < 0 then -i else i) = ((i.natAbs : Nat) : Int) := fun i => by split <;> omega
  rw [e, e]
  refine while_rule (fun m σ s => s = st ∧ ∃ a c : Nat, σ = [some (.int n), some (.int u), some (.int a), some (.int c), none] ∧ Nat.gcd a c = Int.gcd n u ∧ c = m) ?_ (m := u.natAbs) ⟨rfl, n.natAbs, u.natAbs, rfl, rfl, rfl⟩
  rintro m σ s ⟨rfl, a, c, rfl, h1, rfl⟩
  simp [rest_at]
  refine ⟨fun hc => ⟨by omega, a % c, Nat.mod_lt _ hc, c, ⟨rfl, ?_⟩, ?_⟩, fun hc => ?_⟩
  · rw [Int.fmod_eq_emod_of_nonneg _ (by omega)]; rfl
  · rw [Nat.gcd_comm, ← Nat.gcd_rec, Nat.gcd_comm]; exact h1
  · subst hc
    rw [Nat.gcd_zero_right] at h1
    subst h1
    have dv : L2.CDivW (-n) ((Int.gcd n u : Nat) : Int) := sg.div (by omega)
    have dv' : L2.CDivW n ((Int.gcd n u : Nat) : Int) := sg.div (by omega)
    refine ⟨fun hu0 => ⟨s2.mul sn, dv, sg.div (by omega), ?_⟩, fun hu0 => ⟨s1.mul sn, dv', sg.div (by omega), ?_⟩⟩
    · rw [e]
      unfold mkR rN rD at q
      rw [if_pos hu0] at q
      exact q
    · rw [e]
      unfold mkR rN rD at q
      rw [if_neg (by omega)] at q
      exact q
/-! ### the pot -/
def PotAt (st : Sto) (n : Nat) : Prop := ∃ a c : Int, st[n]? = some (.lst [.int a, .int c]) ∧ 0 ≤ a ∧ 0 ≤ c ∧ c < 2147483587
/-- the same store but for the pot -/
structure PR (n : Nat) (st st' : Sto) : Prop where
  len : st'.length = st.length
  same : ∀ i, i ≠ n → st'[i]? = st[i]?
  pot : PotAt st' n
theorem PR.trans {n : Nat} {a b c : Sto} (x : PR n a b) (y : PR n b c) : PR n a c := ⟨y.len.trans x.len, fun i h => (y.same i h).trans (x.same i h), y.pot⟩
theorem PotAt.lt {st : Sto} {n : Nat} (h : PotAt st n) : n < st.length := by
  obtain ⟨a, c, e, _⟩ := h
  rcases Nat.lt_or_ge n st.length with h | h
  · exact h
  · rw [List.getElem?_eq_none h] at e; cases e
theorem draw_ok {st : Sto} {n : Nat} {m : Int} (hp : PotAt st n) (h1 : 1 ≤ m) (hm : Sm m) {Q : PV × Sto → Prop} (q : ∀ d st', 0 ≤ d → d < m → PR n st st' → Q (.int d, st')) : Ok (F__law_draw [.ref n, .int m] st) Q := by
  have hn := hp.lt
  obtain ⟨a, c, e, ha, hc, hc2⟩ := hp
  refine run__law_draw rfl ?_
  have e' : seqOf (.ref n) st = some [.int a, .int c] := seq_ref e
  have x0 : L2.ixN 2 0 = some 0 := rfl
  have x1 : L2.ixN 2 1 = some 1 := rfl
  simp [b__law_draw, rest_at, e', put_ok e x0, put_ok e x1, seq_set hn]
  have pr : ∀ a' c' : Int, 0 ≤ a' → 0 ≤ c' → c' < 2147483587 → PR n st (st.set n (.lst [.int a', .int c'])) := fun a' c' h1 h2 h3 =>
    ⟨by simp, fun i hi => by rw [List.getElem?_set_ne (by omega)], ⟨a', c', by simp [hn], h1, h2, h3⟩⟩
  have sm : ∀ i : Int, 0 ≤ i → i < 4294967296 → Sm i := fun i h1 h2 => by
    unfold Sm
    have : i.natAbs < 2 ^ 32 := by omega
    exact Nat.lt_trans this (Nat.pow_lt_pow_right (by decide) (by decide))
  have f1 : ∀ i k : Int, 0 < k → i.fmod k = i % k := fun i k h => Int.fmod_eq_emod_of_nonneg _ (by omega)
  refine ⟨fun _ => ⟨hm.div (by omega), ?_⟩, fun _ => ?_⟩
  · exact q _ _ (Int.emod_nonneg _ (by omega)) (Int.emod_lt_of_pos _ (by omega)) (pr _ _ (Int.ediv_nonneg ha (by omega)) hc hc2)
  · rw [f1 _ 2147483587 (by decide)]
    have b1 : 0 ≤ (c * 39373 + 211) % 2147483587 := Int.emod_nonneg _ (by decide)
    have b2 : (c * 39373 + 211) % 2147483587 < 2147483587 := Int.emod_lt_of_pos _ (by decide)
    generalize (c * 39373 + 211) % 2147483587 = c' at b1 b2
    refine ⟨(sm c hc (by omega)).mul (sm _ (by decide) (by decide)), (sm c' b1 (by omega)).mul (sm c' b1 (by omega)), (sm 19 (by decide) (by decide)).div (by decide), by omega, ?_⟩
    rw [f1 _ m (by omega)]
    exact q _ _ (Int.emod_nonneg _ (by omega)) (Int.emod_lt_of_pos _ (by omega)) (pr _ _ ha b1 b2)
end LAW

end
section
set_option Elab.async false
set_option linter.all false
set_option maxRecDepth 100000
set_option maxHeartbeats 4000000
namespace LAW
open PySem MP
def Bd (i : Int) : Prop := i.natAbs < 2 ^ 500
theorem Bd.sm {i : Int} (h : Bd i) : Sm i := Nat.lt_trans h (Nat.pow_lt_pow_right (by decide) (by decide))
theorem Bd.mul {i j : Int} (a : Bd i) (b : Bd j) : Sm (i * j) := by
  unfold Bd at a b
  unfold Sm
  rw [Int.natAbs_mul]
  have h : i.natAbs * j.natAbs < 2 ^ 500 * 2 ^ 500 := Nat.mul_lt_mul'' a b
  rw [← Nat.pow_add] at h
  exact Nat.lt_trans h (Nat.pow_lt_pow_right (by decide) (by decide))
theorem Bd.mul2 {i j k l : Int} (a : Bd i) (b : Bd j) (c : Bd k) (d : Bd l) : Sm (i * j + k * l) := by
  unfold Bd at a b c d
  unfold Sm
  have h1 : i.natAbs * j.natAbs < 2 ^ 500 * 2 ^ 500 := Nat.mul_lt_mul'' a b
  have h2 : k.natAbs * l.natAbs < 2 ^ 500 * 2 ^ 500 := Nat.mul_lt_mul'' c d
  rw [← Nat.pow_add] at h1 h2
  have h3 : (i * j + k * l).natAbs ≤ (i * j).natAbs + (k * l).natAbs := Int.natAbs_add_le _ _
  rw [Int.natAbs_mul, Int.natAbs_mul] at h3
  have h4 : 2 ^ (500 + 500) + 2 ^ (500 + 500) < 2 ^ 4000 := by
    have : 2 ^ (500 + 500) + 2 ^ (500 + 500) = 2 ^ 1001 := by rw [← Nat.two_mul, ← Nat.pow_succ']
    rw [this]
    exact Nat.pow_lt_pow_right (by decide) (by decide)
  omega
theorem Bd.small {i : Int} (h1 : -1000000000000 < i) (h2 : i < 1000000000000) : Bd i := by
  unfold Bd
  have : i.natAbs < 2 ^ 40 := by omega
  exact Nat.lt_trans this (Nat.pow_lt_pow_right (by decide) (by decide))
section
variable {a b c d : Int} {st : Sto} {Q : PV × Sto → Prop}
theorem plus_ok (hb : b ≠ 0) (hd : d ≠ 0) (ba : Bd a) (bb : Bd b) (bc : Bd c) (bd : Bd d) (q : Q (mkR (rN (a * d + c * b) (b * d)) (rD (a * d + c * b) (b * d)), st)) : Ok (F__law_plus [mkR a b, mkR c d] st) Q := by
  refine run__law_plus rfl ?_
  simp [b__law_plus, mkR, Gat_lt, ba.sm.mul bd.sm, bc.sm.mul bb.sm, bb.sm.mul bd.sm]
  refine made_ok (Int.mul_ne_zero hb hd) (ba.mul2 bd bc bb) (bb.mul bd) ?_
  simpa [mkR] using q
theorem by_ok (hb : b ≠ 0) (hd : d ≠ 0) (ba : Bd a) (bb : Bd b) (bc : Bd c) (bd : Bd d) (q : Q (mkR (rN (a * c) (b * d)) (rD (a * c) (b * d)), st)) : Ok (F__law_by [mkR a b, mkR c d] st) Q := by
  refine run__law_by rfl ?_
  simp [b__law_by, mkR, Gat_lt, ba.sm.mul bc.sm, bb.sm.mul bd.sm]
  refine made_ok (Int.mul_ne_zero hb hd) (ba.mul bc) (bb.mul bd) ?_
  simpa [mkR] using q
theorem minus_ok (hb : b ≠ 0) (hd : d ≠ 0) (ba : Bd a) (bb : Bd b) (bc : Bd c) (bd : Bd d) (q : Q (mkR (rN (a * d + -c * b) (b * d)) (rD (a * d + -c * b) (b * d)), st)) : Ok (F__law_minus [mkR a b, mkR c d] st) Q := by
  refine run__law_minus rfl ?_
  simp [b__law_minus, mkR, Gat_lt]
  refine plus_ok hb hd ba bb (by unfold Bd at *; simpa using bc) bd ?_
  simpa [mkR] using q
theorem over_ok (hc : c ≠ 0) (hb : b ≠ 0) (ba : Bd a) (bb : Bd b) (bc : Bd c) (bd : Bd d) (q : Q (mkR (rN (a * d) (b * c)) (rD (a * d) (b * c)), st)) : Ok (F__law_over [mkR a b, mkR c d] st) Q := by
  refine run__law_over rfl ?_
  simp [b__law_over, mkR, Gat_lt, ba.sm.mul bd.sm, bb.sm.mul bc.sm]
  refine made_ok (Int.mul_ne_zero hb hc) (ba.mul bd) (bb.mul bc) ?_
  simpa [mkR] using q
/-! over one -/
theorem rN_one : rN a 1 = a := by simp [rN]
theorem rD_one : rD a 1 = 1 := by simp [rD]
theorem b1 : Bd 1 := .small (by decide) (by decide)
theorem plus1 (ba : Bd a) (bc : Bd c) (q : Q (mkR (a + c) 1, st)) : Ok (F__law_plus [mkR a 1, mkR c 1] st) Q :=
  plus_ok (by decide) (by decide) ba b1 bc b1 (by simpa [rN_one, rD_one] using q)
theorem by1 (ba : Bd a) (bc : Bd c) (q : Q (mkR (a * c) 1, st)) : Ok (F__law_by [mkR a 1, mkR c 1] st) Q :=
  by_ok (by decide) (by decide) ba b1 bc b1 (by simpa [rN_one, rD_one] using q)
theorem minus1 (ba : Bd a) (bc : Bd c) (q : Q (mkR (a - c) 1, st)) : Ok (F__law_minus [mkR a 1, mkR c 1] st) Q :=
  minus_ok (by decide) (by decide) ba b1 bc b1 (by
    rw [show a * 1 + -c * 1 = a - c by omega, show (1 : Int) * 1 = 1 from rfl, rN_one, rD_one]; exact q)
theorem over1 (hc : c ≠ 0) (ba : Bd a) (bc : Bd c) (q : Q (mkR (rN a c) (rD a c), st)) : Ok (F__law_over [mkR a 1, mkR c 1] st) Q :=
  over_ok hc (by decide) ba b1 bc b1 (by simpa using q)
/-- a wrench of whole numbers -/
def mkW (h v m : Int) : PV := .tup [mkR h 1, mkR v 1, mkR m 1]
theorem pull_ok {x w : Int} (bx : Bd x) (bw : Bd w) (q : Q (mkW 0 (-w) (-(x * w)), st)) : Ok (F__law_pull [.int x, .int w] st) Q := by
  refine run__law_pull rfl ?_
  simp [b__law_pull, mkR, bx.sm.mul bw.sm]
  simpa [mkW, mkR] using q
end
/-! ### the pot ahead of lists of one's own -/
theorem PR.app {n : Nat} {st g s : Sto} (hn : n < st.length) (h : PR n (st ++ g) s) : ∃ st', s = st' ++ g ∧ PR n st st' := by
  have hl := h.len
  rw [List.length_append] at hl
  have hlt : (s.take st.length).length = st.length := by rw [List.length_take]; omega
  refine ⟨s.take st.length, ?_, hlt, fun i hi => ?_, ?_⟩
  · apply List.ext_getElem?
    intro i
    rcases Nat.lt_or_ge i st.length with q | q
    · rw [List.getElem?_append_left (by omega), List.getElem?_take_of_lt q]
    · rw [List.getElem?_append_right (by omega), h.same i (by omega), List.getElem?_append_right q, hlt]
  · rcases Nat.lt_or_ge i st.length with q | q
    · rw [List.getElem?_take_of_lt q, h.same i hi, List.getElem?_append_left q]
    · rw [List.getElem?_eq_none (by omega), List.getElem?_eq_none q]
  · obtain ⟨a, c, e, r⟩ := h.pot
    exact ⟨a, c, by rw [List.getElem?_take_of_lt hn]; exact e, r⟩
theorem PotAt.app {n : Nat} {st g : Sto} (h : PotAt st n) : PotAt (st ++ g) n := by
  obtain ⟨a, c, e, r⟩ := h
  exact ⟨a, c, by rw [List.getElem?_append_left (PotAt.lt ⟨a, c, e, r⟩)]; exact e, r⟩
theorem PR.refl {n : Nat} {st : Sto} (h : PotAt st n) : PR n st st := ⟨rfl, fun _ _ => rfl, h⟩
theorem draw_app {st g : Sto} {n : Nat} {m : Int} (hp : PotAt st n) (h1 : 1 ≤ m) (hm : m < 1000000000000) {Q : PV × Sto → Prop} (q : ∀ d st', 0 ≤ d → d < m → PR n st st' → Q (.int d, st' ++ g)) : Ok (F__law_draw [.ref n, .int m] (st ++ g)) Q := by
  refine draw_ok hp.app h1 (Bd.small (by omega) hm).sm fun d s h0 hd pr => ?_
  obtain ⟨st', rfl, p⟩ := pr.app hp.lt
  exact q d st' h0 hd p
theorem draw_at {st : Sto} {n : Nat} {m : Int} (hp : PotAt st n) (h1 : 1 ≤ m) (hm : m < 1000000000000) {Q : PV × Sto → Prop} (q : ∀ d st', 0 ≤ d → d < m → PR n st st' → Q (.int d, st')) : Ok (F__law_draw [.ref n, .int m] st) Q :=
  draw_ok hp h1 (Bd.small (by omega) hm).sm q
end LAW

end
section
set_option Elab.async false
set_option linter.all false
set_option maxRecDepth 100000
set_option maxHeartbeats 4000000
namespace LAW
open PySem MP
section
variable {a b c d h v m h' v' m' x : Int} {st : Sto} {Q : PV × Sto → Prop}
theorem addW (b1 : Bd h) (b2 : Bd v) (b3 : Bd m) (c1 : Bd h') (c2 : Bd v') (c3 : Bd m') (q : Q (mkW (h + h') (v + v') (m + m'), st)) : Ok (F__law_add [mkW h v m, mkW h' v' m'] st) Q := by
  refine run__law_add rfl ?_
  simp [b__law_add, mkW, paired, Gat_lt]
  refine plus1 b1 c1 ?_
  simp
  refine plus1 b2 c2 ?_
  simp
  refine plus1 b3 c3 ?_
  simpa [mkR, mkW] using q
theorem negW (b1 : Bd h) (b2 : Bd v) (b3 : Bd m) (q : Q (mkW (-h) (-v) (-m), st)) : Ok (F__law_take [mkW h v m, mkR (-1) 1] st) Q := by
  have bm : Bd (-1) := .small (by decide) (by decide)
  refine run__law_take rfl ?_
  simp [b__law_take, mkW, Gat_lt]
  refine by1 b1 bm ?_
  simp
  refine by1 b2 bm ?_
  simp
  refine by1 b3 bm ?_
  simpa [mkR, mkW] using q
theorem on_arch (hh : h ≠ 0) (b1 : Bd h) (b2 : Bd v) (b3 : Bd m) (bx : Bd x) (b4 : Bd (x * v)) (b5 : Bd (x * v - m)) (q : Q (mkR (rN (x * v - m) h) (rD (x * v - m) h), st)) : Ok (F__law_on [mkW h v m, .int x, .bl false] st) Q := by
  refine run__law_on rfl ?_
  simp [b__law_on, rest_at, mkW, Gat_lt]
  refine by1 bx b2 ?_
  refine minus1 b4 b3 ?_
  refine over1 hh b5 b1 ?_
  simpa [mkR] using q
theorem on_pier (hv : v ≠ 0) (b1 : Bd h) (b2 : Bd v) (b3 : Bd m) (bx : Bd x) (b4 : Bd (x * h)) (b5 : Bd (m + x * h)) (q : Q (mkR (rN (m + x * h) v) (rD (m + x * h) v), st)) : Ok (F__law_on [mkW h v m, .int x, .bl true] st) Q := by
  refine run__law_on rfl ?_
  simp [b__law_on, rest_at, mkW, Gat_lt]
  refine by1 bx b1 ?_
  refine plus1 b3 b4 ?_
  refine over1 hv b5 b2 ?_
  simpa [mkR] using q
end
/-- two points, not the same, none far out -/
def IsJ (v : PV) : Prop := ∃ x0 y0 x1 y1 : Int, v = .tup [.tup [.int x0, .int y0], .tup [.int x1, .int y1]] ∧ (-999 ≤ x0 ∧ x0 ≤ 999) ∧ (-999 ≤ y0 ∧ y0 ≤ 999) ∧ (-999 ≤ x1 ∧ x1 ≤ 999) ∧ (-999 ≤ y1 ∧ y1 ≤ 999) ∧ (x0 ≠ x1 ∨ y0 ≠ y1)
/-- what _law_on says at the spots that a joint asks -/
structure OnAt (W : PV) (p : Bool) (lo hi : Int) (fN fD : Int → Int) : Prop where
  run : ∀ s, lo ≤ s → s ≤ hi → ∀ (st : Sto) (Q : PV × Sto → Prop), Q (mkR (fN s) (fD s), st) → Ok (F__law_on [W, .int s, .bl p] st) Q
  pos : ∀ s, lo ≤ s → s ≤ hi → 0 < fD s
  low : ∀ s, lo ≤ s → s ≤ hi → -900 * fD s ≤ fN s
  high : ∀ s, lo ≤ s → s ≤ hi → fN s ≤ 900 * fD s
  sm : ∀ s, lo ≤ s → s ≤ hi → Sm (fD s)
/-- one of a joint's points: at the end e -/
def PtOk (p : Bool) (lo hi : Int) (fN fD : Int → Int) (t e : Int) (v : PV) : Prop := ∃ s out num : Int, lo ≤ s ∧ s ≤ hi ∧ 0 ≤ out ∧ out ≤ 3 ∧ (out = 0 → t = e) ∧ num = (if e = 0 then fN s / fD s - out else -(-fN s / fD s) + out) ∧
  v = if p then .tup [.int num, .int s] else .tup [.int s, .int num]
theorem joint_ok {W : PV} {p : Bool} {x lo hi : Int} {fN fD : Int → Int} {st : Sto} {n : Nat} {Q : PV × Sto → Prop} (hp : PotAt st n) (on : OnAt W p lo hi fN fD) (hl : lo ≤ x) (hh : x ≤ hi) (hlh : p = false → lo = x - 1 ∧ hi = x + 1) (hx : -900 ≤ lo ∧ hi ≤ 900)
    (q : ∀ t a b st', PtOk p lo hi fN fD t 0 a → PtOk p lo hi fN fD t 1 b → PR n st st' → Q (.tup [a, b], st')) : Ok (F__law_joint [.ref n, W, .int x, .bl p] st) Q := by
  refine run__law_joint rfl ?_
  simp [b__law_joint, Gat_lt]
  refine draw_at hp (by decide) (by decide) fun t st1 ht0 ht1 p1 => ?_
  simp
  rw [rest_at]
  simp [-for_cons]
  have hL : st.length = st1.length := p1.len.symm
  obtain ⟨I, hI⟩ : ∃ I : Nat → Sl → Sto → Prop, I = fun k σ s => ∃ (st' : Sto) (acc : List PV) (s6 s7 s8 s9 s10 : Option PV), PR n st st' ∧ s = st' ++ [.lst acc, .lst [.int 0, .int 1]] ∧ acc.length = k ∧ (∀ (i : Nat) v, acc[i]? = some v → PtOk p lo hi fN fD t i v) ∧
    σ = [some (.ref n), some W, some (.int x), some (.bl p), some (.int t), some (.ref st1.length), s6, s7, s8, s9, s10] := ⟨_, rfl⟩
  refine for_rule (k := 0) I (by rw [hI]; exact ⟨st1, [], _, _, _, _, _, p1, rfl, rfl, by simp, rfl⟩) ?_ ?_
  · intro i e σ s he hi0
    rw [hI] at hi0
    obtain ⟨st2, acc, s6, s7, s8, s9, s10, p2, rfl, hk, hacc, rfl⟩ := hi0
    have he2 : e = .int i ∧ i < 2 := by
      match i, he with
      | 0, he => simp at he; exact ⟨he.symm, by omega⟩
      | 1, he => simp at he; exact ⟨he.symm, by omega⟩
      | (i + 2), he => simp at he
    obtain ⟨rfl, hi2⟩ := he2
    rw [ok_lpS]
    simp only [t_name, b_cons]
    refine ⟨by simp, ?_⟩
    obtain ⟨K, hK⟩ : ∃ K : Fl → Prop, K = fun f => ∃ off st3, lo ≤ off ∧ off ≤ hi ∧ PR n st st3 ∧ f = Fl.nx [some (.ref n), some W, some (.int x), some (.bl p), some (.int t), some (.ref st1.length), some (.int i), some (.int off), s8, s9, s10] (st3 ++ [.lst acc, .lst [.int 0, .int 1]]) := ⟨_, rfl⟩
    refine Ok.mono (Q := K) ?_ ?_
    · simp [Gat_lt]
      refine ⟨fun _ => ?_, fun hpf => ?_⟩
      · rw [hK]; exact ⟨x, st2, hl, hh, p2, rfl⟩
      obtain ⟨h1, h2⟩ := hlh hpf
      refine draw_app (g := [_, _]) p2.pot (by decide) (by decide) fun d st3 hd0 hd1 p3 => ?_
      simp
      rw [hK]; exact ⟨x + d - 1, st3, by omega, by omega, p2.trans p3, rfl⟩
    · rw [hK]
      rintro _ ⟨off, st3, h1, h2, p3, rfl⟩
      clear hK K
      rw [sq_nx, rest_at]
      simp [Gat_lt]
      refine on.run off h1 h2 _ _ ?_
      have hpos := on.pos off h1 h2
      have hlow := on.low off h1 h2
      have hhigh := on.high off h1 h2
      have hsm := on.sm off h1 h2
      generalize hN : fN off = N at hlow hhigh
      generalize hD : fD off = D at hpos hlow hhigh hsm
      simp only
      rw [rest_at, b_cons]
      obtain ⟨K, hK⟩ : ∃ K : Fl → Prop, K = fun f => ∃ out st3, 0 ≤ out ∧ out ≤ 3 ∧ (out = 0 → t = i) ∧ PR n st st3 ∧ f = Fl.nx [some (.ref n), some W, some (.int x), some (.bl p), some (.int t), some (.ref st1.length), some (.int i), some (.int off), some (mkR N D), some (.int out), s10] (st3 ++ [.lst acc, .lst [.int 0, .int 1]]) := ⟨_, rfl⟩
      refine Ok.mono (Q := K) ?_ ?_
      · simp [Gat_lt, mkR]
        have dr : Ok (Gf G0 cds 0 [PV.ref n, PV.int 3] (st3 ++ [SO.lst acc, SO.lst [PV.int 0, PV.int 1]])) fun q => Ok (binop Op.add (PV.int 1) q.fst q.snd) fun p_1 =>
              K (Fl.nx [some (PV.ref n), some W, some (PV.int x), some (PV.bl p), some (PV.int t), some (PV.ref (List.length st1)), some (PV.int ↑i), some (PV.int off), some (PV.tup [PV.int N, PV.int D]), some p_1.fst, s10] p_1.snd) := by
          refine draw_app (g := [_, _]) p3.pot (by decide) (by decide) fun d st4 hd0 hd1 p4 => ?_
          simp
          rw [hK]; exact ⟨1 + d, st4, by omega, by omega, by omega, p3.trans p4, rfl⟩
        refine ⟨fun ht => ⟨fun hD1 => ?_, fun _ => dr⟩, fun _ => dr⟩
        rw [hK]; exact ⟨0, st3, by omega, by omega, fun _ => ht, p3, rfl⟩
      · rw [hK]
        rintro _ ⟨out, st4, h3, h4, h5, p4, rfl⟩
        clear hK K
        rw [sq_nx, rest_at]
        simp [mkR]
        have l4 : st4.length = st1.length := p4.len.trans hL
        have fin : ∀ (num : Int) (s8 s9 s10 : Option PV), num = (if (i : Int) = 0 then N / D - out else -(-N / D) + out) →
            I (i + 1) [some (.ref n), some W, some (.int x), some (.bl p), some (.int t), some (.ref st1.length), some (.int i), some (.int off), s8, s9, s10] (st4 ++ [.lst (acc ++ [if p then .tup [.int num, .int off] else .tup [.int off, .int num]]), .lst [.int 0, .int 1]]) := fun num s8 s9 s10 e => by
          rw [hI]
          refine ⟨st4, _, _, _, _, _, _, p4, rfl, by simp [hk], fun j v hv => ?_, rfl⟩
          rcases Nat.lt_or_ge j acc.length with hj | hj
          · rw [List.getElem?_append_left hj] at hv
            exact hacc j v hv
          · rw [List.getElem?_append_right hj] at hv
            have hj2 : j = i := by
              rcases Nat.lt_or_ge (j - acc.length) 1 with z | z
              · omega
              · rw [List.getElem?_eq_none (by simpa using z)] at hv; cases hv
            subst hj2
            rw [show j - acc.length = 0 by omega] at hv
            have hv' : (if p then PV.tup [.int num, .int off] else .tup [.int off, .int num]) = v := by simpa using hv
            exact ⟨off, out, num, h1, h2, h3, h4, h5, by rw [hN, hD]; exact e, hv'.symm⟩
        have al : acc.length < 1000000 := by omega
        have bs : st.length ≤ st1.length := by omega
        refine ⟨fun h0 => ⟨hsm.div hpos, ?_⟩, fun h0 => ⟨hsm.div hpos, ?_⟩⟩
        · rw [rest_at]
          simp [h0]
          rw [rest_at]
          simp [lst_h0 l4, app_h0 l4, get_h1 l4, al, bs]
          have f1 := fun s8 s9 s10 => fin (N / D - out) s8 s9 s10 (by simp [h0])
          refine ⟨fun hp => ?_, fun hp => ?_⟩
          · have := f1 (some (.tup [.int N, .int D])) (some (.int out)) (some (.int (N / D - out)))
            simpa [hp, h0, get_h1 l4] using this
          · have := f1 (some (.tup [.int N, .int D])) (some (.int out)) (some (.int (N / D - out)))
            simpa [hp, h0, get_h1 l4] using this
        · rw [rest_at]
          simp [h0]
          rw [rest_at]
          simp [lst_h0 l4, app_h0 l4, get_h1 l4, al, bs]
          have f1 := fun s8 s9 s10 => fin (-(-N / D) + out) s8 s9 s10 (by rw [if_neg (by omega)])
          refine ⟨fun hp => ?_, fun hp => ?_⟩
          · have := f1 (some (.tup [.int N, .int D])) (some (.int out)) (some (.int (-(-N / D) + out)))
            simpa [hp, get_h1 l4] using this
          · have := f1 (some (.tup [.int N, .int D])) (some (.int out)) (some (.int (-(-N / D) + out)))
            simpa [hp, get_h1 l4] using this
  · intro σ s hi0
    rw [hI] at hi0
    obtain ⟨st2, acc, s6, s7, s8, s9, s10, p2, rfl, hk, hacc, rfl⟩ := hi0
    have l2 : st2.length = st1.length := p2.len.trans hL
    obtain ⟨a, b, rfl⟩ : ∃ a b, acc = [a, b] := by
      match acc, hk with
      | [a, b], _ => exact ⟨a, b, rfl⟩
    have ha := hacc 0 a rfl
    have hb := hacc 1 b rfl
    rw [sq_nx, rest_at]
    simp [seq_h0 l2]
    have lt0 : ∀ k v e, PtOk p lo hi fN fD t e v → v.lt k = true := by
      rintro k v e ⟨s, out, num, _, _, _, _, _, _, rfl⟩
      cases p <;> simp
    rw [fin_tup (by simp [lt0 _ _ _ ha, lt0 _ _ _ hb]), take_at p2.len]
    exact q t a b st2 ha hb p2
end LAW

end
section
set_option Elab.async false
set_option linter.all false
set_option maxRecDepth 100000
set_option maxHeartbeats 4000000
namespace LAW
open PySem MP
theorem mul_bd {a b A B : Int} (h1 : -A ≤ a) (h2 : a ≤ A) (h3 : -B ≤ b) (h4 : b ≤ B) : -(A * B) ≤ a * b ∧ a * b ≤ A * B := by
  have hA : a.natAbs ≤ A.natAbs := by omega
  have hB : b.natAbs ≤ B.natAbs := by omega
  have h := Nat.mul_le_mul hA hB
  rw [← Int.natAbs_mul, ← Int.natAbs_mul] at h
  have hAB : 0 ≤ A * B := Int.mul_nonneg (by omega) (by omega)
  omega
theorem r_bd {A h : Int} (hh : h ≠ 0) (k : Int) (hk : 0 ≤ k) (h1 : A.natAbs ≤ k * h.natAbs) : 0 < rD A h ∧ -k * rD A h ≤ rN A h ∧ rN A h ≤ k * rD A h ∧ (rD A h).natAbs ≤ h.natAbs := by
  have hg : 0 < Int.gcd A h := Int.gcd_pos_of_ne_zero_right _ hh
  obtain ⟨c, hc⟩ : ((Int.gcd A h : Nat) : Int) ∣ A := Int.gcd_dvd_left ..
  obtain ⟨e, he⟩ : ((Int.gcd A h : Nat) : Int) ∣ h := Int.gcd_dvd_right ..
  have hg' : (0 : Int) < (Int.gcd A h : Nat) := by omega
  have hD : rD A h = e.natAbs := by
    unfold rD
    generalize (Int.gcd A h : Nat) = g at *
    subst he
    rw [Int.natAbs_mul, Int.natCast_mul, Int.natAbs_natCast, Int.mul_ediv_cancel_left _ (by omega)]
  have hN : rN A h = if h < 0 then -c else c := by
    unfold rN
    generalize (Int.gcd A h : Nat) = g at *
    have e1 : A / (g : Int) = c := by rw [hc, Int.mul_ediv_cancel_left _ (by omega)]
    have e2 : -A / (g : Int) = -c := by rw [hc, ← Int.mul_neg, Int.mul_ediv_cancel_left _ (by omega)]
    split
    · exact e2
    · exact e1
  have e0 : e ≠ 0 := fun z => by rw [z, Int.mul_zero] at he; exact hh he
  have h2 : (c.natAbs : Int) ≤ k * e.natAbs := by
    have : ((Int.gcd A h : Nat) : Int) * c.natAbs ≤ ((Int.gcd A h : Nat) : Int) * (k * e.natAbs) := by
      have x1 : A.natAbs = Int.gcd A h * c.natAbs := by
        conv => lhs; rw [hc]
        rw [Int.natAbs_mul, Int.natAbs_natCast]
      have x2 : h.natAbs = Int.gcd A h * e.natAbs := by
        conv => lhs; rw [he]
        rw [Int.natAbs_mul, Int.natAbs_natCast]
      rw [x1, x2] at h1
      rw [Int.natCast_mul, Int.natCast_mul] at h1
      rw [show ((Int.gcd A h : Nat) : Int) * (k * e.natAbs) = k * (((Int.gcd A h : Nat) : Int) * e.natAbs) by rw [Int.mul_left_comm]]
      exact h1
    exact Int.le_of_mul_le_mul_left this hg'
  rw [hD, hN, Int.neg_mul]
  have h3 : (e.natAbs : Int).natAbs ≤ h.natAbs := by
    rw [Int.natAbs_natCast]
    exact Nat.le_of_dvd (Int.natAbs_pos.mpr hh) (Int.natAbs_dvd_natAbs.mpr ⟨_, by rw [Int.mul_comm]; exact he⟩)
  refine ⟨by omega, ?_, ?_, h3⟩ <;> split <;> omega
theorem floor_bd {N D : Int} (hD : 0 < D) (h1 : -900 * D ≤ N) (h2 : N ≤ 900 * D) : (-900 ≤ N / D ∧ N / D ≤ 900) ∧ (-900 ≤ -N / D ∧ -N / D ≤ 900) ∧ N / D + -N / D ≤ 0 := by
  refine ⟨⟨Int.le_ediv_of_mul_le hD h1, ?_⟩, ⟨Int.le_ediv_of_mul_le hD (by omega), ?_⟩, ?_⟩
  · have := Int.ediv_le_ediv hD h2
    rwa [Int.mul_ediv_cancel _ (by omega)] at this
  · have := Int.ediv_le_ediv hD (show -N ≤ 900 * D by omega)
    rwa [Int.mul_ediv_cancel _ (by omega)] at this
  · have a := Int.ediv_mul_le N (show D ≠ 0 by omega)
    have b := Int.ediv_mul_le (-N) (show D ≠ 0 by omega)
    have c : (N / D + -N / D) * D ≤ 0 * D := by rw [Int.add_mul]; omega
    exact Int.le_of_mul_le_mul_right c hD
theorem ptsJ {W : PV} {p : Bool} {lo hi t : Int} {fN fD : Int → Int} {a b : PV} (on : OnAt W p lo hi fN fD) (hx : -900 ≤ lo ∧ hi ≤ 900) (ha : PtOk p lo hi fN fD t 0 a) (hb : PtOk p lo hi fN fD t 1 b) : IsJ (.tup [a, b]) := by
  obtain ⟨s, o, u, h1, h2, h3, h4, h5, h6, rfl⟩ := ha
  obtain ⟨s', o', u', k1, k2, k3, k4, k5, k6, rfl⟩ := hb
  rw [if_pos rfl] at h6
  rw [if_neg (by decide)] at k6
  obtain ⟨⟨f1, f2⟩, _, f5⟩ := floor_bd (on.pos s h1 h2) (on.low s h1 h2) (on.high s h1 h2)
  obtain ⟨_, ⟨g3, g4⟩, g5⟩ := floor_bd (on.pos s' k1 k2) (on.low s' k1 k2) (on.high s' k1 k2)
  have dist : s ≠ s' ∨ u ≠ u' := by
    by_cases e : s = s'
    · right
      subst e
      intro e
      by_cases z : o = 0
      · by_cases z' : o' = 0
        · have := h5 z; have := k5 z'; omega
        · omega
      · omega
    · exact .inl e
  cases p with
  | true => exact ⟨u, s, u', s', rfl, by omega, by omega, by omega, by omega, by omega⟩
  | false => exact ⟨s, u, s', u', rfl, by omega, by omega, by omega, by omega, by omega⟩
/-- a joint ahead of lists of one's own -/
theorem joint_app {W : PV} {p : Bool} {x lo hi : Int} {fN fD : Int → Int} {st g : Sto} {n : Nat} {Q : PV × Sto → Prop} (hp : PotAt st n) (on : OnAt W p lo hi fN fD) (hl : lo ≤ x) (hh : x ≤ hi) (hlh : p = false → lo = x - 1 ∧ hi = x + 1) (hx : -900 ≤ lo ∧ hi ≤ 900)
    (q : ∀ v st', IsJ v → PR n st st' → Q (v, st' ++ g)) : Ok (F__law_joint [.ref n, W, .int x, .bl p] (st ++ g)) Q := by
  refine joint_ok hp.app on hl hh hlh hx fun t a b s ha hb pr => ?_
  obtain ⟨st', rfl, p⟩ := pr.app hp.lt
  exact q _ st' (ptsJ on hx ha hb) p
theorem onArch {h v m x : Int} (hh : 4 ≤ h) (hh2 : h ≤ 23) (b : ∀ s, x - 1 ≤ s → s ≤ x + 1 → -3600 ≤ s * v - m ∧ s * v - m ≤ 3600) (hv : -1000 ≤ v ∧ v ≤ 1000) (hm : -1000000 ≤ m ∧ m ≤ 1000000) (hx : -800 ≤ x ∧ x ≤ 800) :
    OnAt (mkW h v m) false (x - 1) (x + 1) (fun s => rN (s * v - m) h) (fun s => rD (s * v - m) h) := by
  have key : ∀ s, x - 1 ≤ s → s ≤ x + 1 → 0 < rD (s * v - m) h ∧ -900 * rD (s * v - m) h ≤ rN (s * v - m) h ∧ rN (s * v - m) h ≤ 900 * rD (s * v - m) h ∧ (rD (s * v - m) h).natAbs ≤ h.natAbs := fun s h1 h2 =>
    r_bd (by omega) 900 (by decide) (by have := b s h1 h2; omega)
  refine ⟨fun s h1 h2 st Q q => ?_, fun s h1 h2 => (key s h1 h2).1, fun s h1 h2 => (key s h1 h2).2.1, fun s h1 h2 => (key s h1 h2).2.2.1, fun s h1 h2 => ?_⟩
  · have := b s h1 h2
    exact on_arch (by omega) (.small (by omega) (by omega)) (.small (by omega) (by omega)) (.small (by omega) (by omega)) (.small (by omega) (by omega)) (.small (by omega) (by omega)) (.small (by omega) (by omega)) q
  · have := (key s h1 h2).2.2.2
    exact (Bd.small (by omega) (by omega)).sm
end LAW

end
section
set_option Elab.async false
set_option linter.all false
set_option maxRecDepth 100000
set_option maxHeartbeats 4000000
namespace LAW
open PySem MP
def IsS (v : PV) : Prop := ∃ x w : Int, v = .tup [.int x, .int w] ∧ (-999 ≤ x ∧ x ≤ 999) ∧ (1 ≤ w ∧ w ≤ 999)
theorem IsJ.lt {v : PV} (h : IsJ v) (k : Nat) : v.lt k = true := by
  obtain ⟨_, _, _, _, rfl, _⟩ := h
  simp
theorem IsS.lt {v : PV} (h : IsS v) (k : Nat) : v.lt k = true := by
  obtain ⟨_, _, rfl, _⟩ := h
  simp
theorem all_lt {P : PV → Prop} (h : ∀ v, P v → ∀ k, v.lt k = true) {xs : List PV} (hx : ∀ x ∈ xs, P x) (k : Nat) : PV.ltA k xs = true := ltA_iff.mpr fun x hm => h x (hx x hm) k
theorem joint_arch {h v m x : Int} {st g : Sto} {n : Nat} {Q : PV × Sto → Prop} (hp : PotAt st n) (hh : 4 ≤ h) (hh2 : h ≤ 23) (b : ∀ s, x - 1 ≤ s → s ≤ x + 1 → -3600 ≤ s * v - m ∧ s * v - m ≤ 3600) (hv : -1000 ≤ v ∧ v ≤ 1000) (hm : -1000000 ≤ m ∧ m ≤ 1000000) (hx : -800 ≤ x ∧ x ≤ 800)
    (q : ∀ w st', IsJ w → PR n st st' → Q (w, st' ++ g)) : Ok (F__law_joint [.ref n, mkW h v m, .int x, .bl false] (st ++ g)) Q :=
  joint_app hp (onArch hh hh2 b hv hm hx) (by omega) (by omega) (fun _ => ⟨rfl, rfl⟩) (by omega) q
/-- an arch's place, its turns so far -/
structure ArchAt (x0 up h : Int) (k : Nat) (v m x : Int) : Prop where
  x1 : x0 + 2 * k ≤ x
  x2 : x ≤ x0 + 6 * k
  v1 : up - 12 * k ≤ v
  v2 : v ≤ up - k
  m1 : -69 - 216 * (k : Int) ≤ m - x0 * v
  m2 : m - x0 * v ≤ 0
theorem ArchAt.joint {x0 up h v m x : Int} {k : Nat} (a : ArchAt x0 up h k v m x) (hk : k ≤ 3) (hx : 0 ≤ x0 ∧ x0 ≤ 100) (hu : 4 ≤ up ∧ up ≤ 13) (hh : 4 ≤ h) :
    (∀ s, x - 1 ≤ s → s ≤ x + 1 → -3600 ≤ s * v - m ∧ s * v - m ≤ 3600) ∧ (-1000 ≤ v ∧ v ≤ 1000) ∧ (-1000000 ≤ m ∧ m ≤ 1000000) ∧ (-800 ≤ x ∧ x ≤ 800) := by
  obtain ⟨x1, x2, v1, v2, m1, m2⟩ := a
  refine ⟨fun s h1 h2 => ?_, by omega, ?_, by omega⟩
  · have e : s * v - m = (s - x0) * v - (m - x0 * v) := by rw [Int.sub_mul]; omega
    have := mul_bd (a := s - x0) (b := v) (A := 19) (B := 49) (by omega) (by omega) (by omega) (by omega)
    rw [e]
    omega
  · have := mul_bd (a := x0) (b := v) (A := 100) (B := 49) (by omega) (by omega) (by omega) (by omega)
    omega
theorem ArchAt.next {x0 up h v m x s sx w : Int} {k : Nat} (a : ArchAt x0 up h k v m x) (hk : k ≤ 2) (hs : 2 ≤ s ∧ s ≤ 6) (h1 : x + 1 ≤ sx) (h2 : sx ≤ x + s - 1) (hw : 1 ≤ w ∧ w ≤ 12) : ArchAt x0 up h (k + 1) (v - w) (m - sx * w) (x + s) := by
  obtain ⟨x1, x2, v1, v2, m1, m2⟩ := a
  have e : m - sx * w - x0 * (v - w) = (m - x0 * v) - (sx - x0) * w := by rw [Int.mul_sub, Int.sub_mul]; omega
  have p1 : 0 ≤ (sx - x0) * w := Int.mul_nonneg (by omega) (by omega)
  have p2 := (mul_bd (a := sx - x0) (b := w) (A := 18) (B := 12) (by omega) (by omega) (by omega) (by omega)).2
  refine ⟨by omega, by omega, by omega, by omega, ?_, ?_⟩ <;> rw [e] <;> omega
theorem arch_ok {x0 up h : Int} {m : Int} {many : Int} {st : Sto} {n : Nat} {Q : PV × Sto → Prop} (hp : PotAt st n) (hh : 4 ≤ h) (hh2 : h ≤ 23) (hx : 0 ≤ x0 ∧ x0 ≤ 100) (hu : 4 ≤ up ∧ up ≤ 13) (hm : 1 ≤ many ∧ many ≤ 3) (ha : ArchAt x0 up h 0 up m x0)
    (q : ∀ (Js Ss : List PV) v' m' x' st', (∀ j ∈ Js, IsJ j) → (∀ s ∈ Ss, IsS s) → Js.length = many.toNat + 1 → Ss.length = many.toNat → ArchAt x0 up h many.toNat v' m' x' → PR n st st' → Q (.tup [.tup [.tup Js, .tup Ss], mkW h v' m', .int x'], st')) :
    Ok (F__law_arch [.ref n, mkW h up m, .int x0, .int many] st) Q := by
  refine run__law_arch rfl ?_
  simp [b__law_arch, Gat_lt]
  obtain ⟨b1, b2, b3, b4⟩ := ha.joint (by omega) hx hu hh
  rw [show st = st ++ [] by simp]
  refine joint_arch hp hh hh2 b1 b2 b3 b4 fun j0 st1 hj0 p1 => ?_
  simp
  rw [rest_at]
  simp
  refine ⟨by omega, ?_⟩
  have hL : st.length = st1.length := p1.len.symm
  obtain ⟨I, hI⟩ : ∃ I : Nat → Sl → Sto → Prop, I = fun k σ s => ∃ (st' : Sto) (Js Ss : List PV) (v m x : Int) (s6 s7 s8 : Option PV), PR n st st' ∧ s = st' ++ [.lst Js, .lst Ss] ∧ Js.length = k + 1 ∧ Ss.length = k ∧ (∀ j ∈ Js, IsJ j) ∧ (∀ s ∈ Ss, IsS s) ∧ ArchAt x0 up h k v m x ∧
    σ = [some (.ref n), some (mkW h v m), some (.int x), some (.int many), some (.ref st1.length), some (.ref (st1.length + 1)), s6, s7, s8] := ⟨_, rfl⟩
  have cl : ∀ (lo : Int) (k : Nat), (counted lo k).length = k := by
    intro lo k
    induction k generalizing lo with
    | zero => rfl
    | succ k ih => simp [counted, ih]
  refine for_rule (k := 0) I (by rw [hI]; exact ⟨st1, [j0], [], up, m, x0, _, _, _, p1, rfl, rfl, rfl, by simpa using hj0, by simp, ha, rfl⟩) ?_ ?_
  · intro i e σ s he hi0
    rw [hI] at hi0
    obtain ⟨st2, Js, Ss, v, m, x, s6, s7, s8, p2, rfl, lJ, lS, hJ, hS, A, rfl⟩ := hi0
    have hik : i < many.toNat := by
      rcases Nat.lt_or_ge i many.toNat with z | z
      · exact z
      · rw [List.getElem?_eq_none (by rw [cl]; exact z)] at he; cases he
    rw [Nat.zero_add] at A lS lJ
    have l2 : st2.length = st1.length := p2.len.trans hL
    rw [ok_lpS]
    simp [Gat_lt]
    refine draw_app (g := [_, _]) p2.pot (by decide) (by decide) fun d st3 hd0 hd1 p3 => ?_
    simp
    rw [rest_at]
    simp [Gat_lt]
    refine draw_app (g := [_, _]) p3.pot (by omega) (by omega) fun d2 st4 hd2 hd3 p4 => ?_
    simp
    refine draw_app (g := [_, _]) p4.pot (by decide) (by decide) fun d3 st5 hd4 hd5 p5 => ?_
    simp
    rw [rest_at]
    simp [Gat_lt]
    obtain ⟨c1, c2, c3, c4⟩ := A.joint (by omega) hx hu hh
    have A2 := A.next (s := 2 + d) (sx := x + 1 + d2) (w := 1 + d3) (by omega) (by omega) (by omega) (by omega) (by omega)
    obtain ⟨e1, e2, e3, e4⟩ := A2.joint (by omega) hx hu hh
    refine pull_ok (.small (by omega) (by omega)) (.small (by omega) (by omega)) ?_
    simp
    refine addW (.small (by omega) (by omega)) (.small (by omega) (by omega)) (.small (by omega) (by omega)) (.small (by omega) (by omega)) (.small (by omega) (by omega)) (.small (by omega) (by omega)) ?_
    rw [Int.add_zero, ← Int.sub_eq_add_neg, ← Int.sub_eq_add_neg]
    have p25 : PR n st st5 := ((p2.trans p3).trans p4).trans p5
    have l5 : st5.length = st1.length := p25.len.trans hL
    simp
    rw [rest_at]
    simp [lst_h1 l5, app_h1 l5]
    refine ⟨by omega, ?_⟩
    rw [rest_at]
    simp [lst_h0 l5, Gat_lt]
    refine joint_arch p5.pot hh hh2 e1 e2 e3 e4 fun j st6 hj p6 => ?_
    have p26 := p25.trans p6
    have l6 : st6.length = st1.length := p26.len.trans hL
    simp [app_h0 l6]
    refine ⟨by omega, by omega, ?_⟩
    rw [hI]
    refine ⟨st6, _, _, _, _, _, _, _, _, p26, rfl, by simp [lJ], by simp [lS], ?_, ?_, by simpa using A2, rfl⟩
    · intro y hy
      rcases List.mem_append.mp hy with z | z
      · exact hJ y z
      · rw [List.mem_singleton.mp z]; exact hj
    · intro y hy
      rcases List.mem_append.mp hy with z | z
      · exact hS y z
      · rw [List.mem_singleton.mp z]; exact ⟨x + 1 + d2, 1 + d3, rfl, by omega, by omega⟩
  · intro σ s hi0
    rw [hI] at hi0
    obtain ⟨st2, Js, Ss, v, m, x, s6, s7, s8, p2, rfl, lJ, lS, hJ, hS, A, rfl⟩ := hi0
    rw [cl, Nat.zero_add] at A lS lJ
    have l2 : st2.length = st1.length := p2.len.trans hL
    rw [sq_nx, rest_at]
    simp [seq_h0 l2, seq_h1 l2]
    rw [fin_tup (by simp [mkW, mkR, all_lt (fun v => IsJ.lt) hJ, all_lt (fun v => IsS.lt) hS]), take_at p2.len]
    exact q Js Ss v m x st2 hJ hS lJ lS A p2
end LAW

end
section
set_option Elab.async false
set_option linter.all false
set_option maxRecDepth 100000
set_option maxHeartbeats 4000000
namespace LAW
open PySem MP
theorem counted_len (lo : Int) (k : Nat) : (counted lo k).length = k := by
  induction k generalizing lo with
  | zero => rfl
  | succ k ih => simp [counted, ih]
theorem counted_lt {lo : Int} {k i : Nat} {e : PV} (h : (counted lo k)[i]? = some e) : i < k := by
  rcases Nat.lt_or_ge i k with z | z
  · exact z
  · rw [List.getElem?_eq_none (by rw [counted_len]; exact z)] at h; cases h
def IsP (v : PV) : Prop := ∃ (h : PV) (Js Ss : List PV), v = .tup [h, .tup Js, .tup Ss] ∧ IsS h ∧ (∀ j ∈ Js, IsJ j) ∧ (∀ s ∈ Ss, IsS s) ∧ Js.length = Ss.length + 1 ∧ Ss.length ≤ 2
theorem onPier {h v m x : Int} (hh : -19 ≤ h ∧ h ≤ 19) (hv : -1000 ≤ v ∧ v ≤ -1) (b : (m + x * h).natAbs ≤ 900 * v.natAbs) (hm : -1000000 ≤ m ∧ m ≤ 1000000) (hx : -20 ≤ x ∧ x ≤ 0) :
    OnAt (mkW h v m) true x x (fun s => rN (m + s * h) v) (fun s => rD (m + s * h) v) := by
  have key : ∀ s, x ≤ s → s ≤ x → 0 < rD (m + s * h) v ∧ -900 * rD (m + s * h) v ≤ rN (m + s * h) v ∧ rN (m + s * h) v ≤ 900 * rD (m + s * h) v ∧ (rD (m + s * h) v).natAbs ≤ v.natAbs := fun s h1 h2 => by
    have : s = x := by omega
    subst this
    exact r_bd (by omega) 900 (by decide) (by omega)
  refine ⟨fun s h1 h2 st Q q => ?_, fun s h1 h2 => (key s h1 h2).1, fun s h1 h2 => (key s h1 h2).2.1, fun s h1 h2 => (key s h1 h2).2.2.1, fun s h1 h2 => ?_⟩
  · have : s = x := by omega
    subst this
    have := mul_bd (a := s) (b := h) (A := 20) (B := 19) (by omega) (by omega) (by omega) (by omega)
    exact on_pier (by omega) (.small (by omega) (by omega)) (.small (by omega) (by omega)) (.small (by omega) (by omega)) (.small (by omega) (by omega)) (.small (by omega) (by omega)) (.small (by omega) (by omega)) q
  · have := (key s h1 h2).2.2.2
    exact (Bd.small (by omega) (by omega)).sm
structure PierAt (X h : Int) (k : Nat) (v m y : Int) : Prop where
  v1 : -79 - 9 * (k : Int) ≤ v
  v2 : v ≤ -7
  m1 : -1421 ≤ m - X * v
  m2 : m - X * v ≤ 1558 + 27 * k
  y1 : -3 - 3 * (k : Int) ≤ y
  y2 : y ≤ -3
theorem PierAt.joint {X h v m y : Int} {k : Nat} (a : PierAt X h k v m y) (hk : k ≤ 2) (hX : 0 ≤ X ∧ X ≤ 150) (hh : -19 ≤ h ∧ h ≤ 19) : (-1000 ≤ v ∧ v ≤ -1) ∧ (m + y * h).natAbs ≤ 900 * v.natAbs ∧ (-1000000 ≤ m ∧ m ≤ 1000000) ∧ (-20 ≤ y ∧ y ≤ 0) := by
  obtain ⟨v1, v2, m1, m2, y1, y2⟩ := a
  have p1 := mul_bd (a := y) (b := h) (A := 9) (B := 19) (by omega) (by omega) (by omega) (by omega)
  have p2 : X * v ≤ 0 := by have := Int.mul_nonneg hX.1 (show 0 ≤ -v by omega); rw [Int.mul_neg] at this; omega
  have p3 : 150 * v ≤ X * v := by
    have := Int.mul_nonneg (show 0 ≤ 150 - X by omega) (show 0 ≤ -v by omega)
    rw [Int.mul_neg, Int.sub_mul] at this
    omega
  refine ⟨by omega, by omega, by omega, by omega⟩
theorem PierAt.next {X h v m y s w dy : Int} {k : Nat} (a : PierAt X h k v m y) (h1 : X - 3 ≤ s) (h2 : s ≤ X) (hw : 1 ≤ w ∧ w ≤ 9) (hd : 1 ≤ dy ∧ dy ≤ 3) : PierAt X h (k + 1) (v - w) (m - s * w) (y - dy) := by
  obtain ⟨v1, v2, m1, m2, y1, y2⟩ := a
  have e : m - s * w - X * (v - w) = (m - X * v) - (s - X) * w := by rw [Int.mul_sub, Int.sub_mul]; omega
  have p1 : 0 ≤ (X - s) * w := Int.mul_nonneg (by omega) (by omega)
  have p2 := (mul_bd (a := X - s) (b := w) (A := 3) (B := 9) (by omega) (by omega) (by omega) (by omega)).2
  have p3 : (s - X) * w = -((X - s) * w) := by rw [← Int.neg_mul, Int.neg_sub]
  refine ⟨by omega, by omega, ?_, ?_, by omega, by omega⟩ <;> rw [e] <;> omega
theorem joint_pier {h v m y : Int} {st g : Sto} {n : Nat} {Q : PV × Sto → Prop} (hp : PotAt st n) (hh : -19 ≤ h ∧ h ≤ 19) (b : (-1000 ≤ v ∧ v ≤ -1) ∧ (m + y * h).natAbs ≤ 900 * v.natAbs ∧ (-1000000 ≤ m ∧ m ≤ 1000000) ∧ (-20 ≤ y ∧ y ≤ 0))
    (q : ∀ w st', IsJ w → PR n st st' → Q (w, st' ++ g)) : Ok (F__law_joint [.ref n, mkW h v m, .int y, .bl true] (st ++ g)) Q :=
  joint_app hp (onPier hh b.1 b.2.1 b.2.2.1 b.2.2.2) (by omega) (by omega) (fun e => by cases e) (by omega) q
theorem pier_ok {X h v m : Int} {st : Sto} {n : Nat} {Q : PV × Sto → Prop} (hp : PotAt st n) (hX : 0 ≤ X ∧ X ≤ 150) (hh : -19 ≤ h ∧ h ≤ 19) (hv : -45 ≤ v ∧ v ≤ 8) (hm : -1421 ≤ m - X * v ∧ m - X * v ≤ 1490)
    (q : ∀ p st', IsP p → PR n st st' → Q (p, st')) : Ok (F__law_pier [.ref n, mkW h v m, .int (X - 3)] st) Q := by
  refine run__law_pier rfl ?_
  simp [b__law_pier, Gat_lt]
  refine draw_at hp (by decide) (by decide) fun d st1 hd0 hd1 p1 => ?_
  simp
  refine draw_at p1.pot (by decide) (by decide) fun d2 st2 hd2 hd3 p2 => ?_
  simp
  rw [rest_at]
  simp [Gat_lt]
  have mb := mul_bd (a := X) (b := v) (A := 150) (B := 45) (by omega) (by omega) (by omega) (by omega)
  have A0 : PierAt X h 0 (v - (15 + d2)) (m - (X - 3 + 1 + d) * (15 + d2)) (-3) := by
    have e : m - (X - 3 + 1 + d) * (15 + d2) - X * (v - (15 + d2)) = (m - X * v) + (2 - d) * (15 + d2) := by
      rw [show X - 3 + 1 + d = X - (2 - d) by omega, Int.sub_mul, Int.mul_sub]; omega
    have p1 := (mul_bd (a := 2 - d) (b := 15 + d2) (A := 2) (B := 34) (by omega) (by omega) (by omega) (by omega)).2
    have p2 : 0 ≤ (2 - d) * (15 + d2) := Int.mul_nonneg (by omega) (by omega)
    refine ⟨by omega, by omega, ?_, ?_, by omega, by omega⟩ <;> rw [e] <;> omega
  have hj0 := A0.joint (by omega) hX hh
  have mb2 := mul_bd (a := X - 3 + 1 + d) (b := 15 + d2) (A := 200) (B := 34) (by omega) (by omega) (by omega) (by omega)
  refine pull_ok (.small (by omega) (by omega)) (.small (by omega) (by omega)) ?_
  simp
  refine addW (.small (by omega) (by omega)) (.small (by omega) (by omega)) (.small (by omega) (by omega)) (.small (by omega) (by omega)) (.small (by omega) (by omega)) (.small (by omega) (by omega)) ?_
  rw [Int.add_zero, ← Int.sub_eq_add_neg, ← Int.sub_eq_add_neg]
  simp
  rw [rest_at]
  simp [Gat_lt]
  have p02 := p1.trans p2
  rw [show st2 = st2 ++ [] by simp]
  refine joint_pier p2.pot hh hj0 fun j0 st3 hj0 p3 => ?_
  have p03 := p02.trans p3
  simp
  rw [rest_at]
  simp [Gat_lt]
  refine draw_app (g := [_, _]) p3.pot (by decide) (by decide) fun d4 st4 hd4 hd5 p4 => ?_
  have p04 := p03.trans p4
  have hL : st.length = st3.length := p03.len.symm
  simp
  refine ⟨by omega, ?_⟩
  obtain ⟨I, hI⟩ : ∃ I : Nat → Sl → Sto → Prop, I = fun k σ s => ∃ (st' : Sto) (Js Ss : List PV) (v m y : Int) (s1 s8 s9 : Option PV), PR n st st' ∧ s = st' ++ [.lst Js, .lst Ss] ∧ Js.length = k + 1 ∧ Ss.length = k ∧ (∀ j ∈ Js, IsJ j) ∧ (∀ s ∈ Ss, IsS s) ∧ PierAt X h k v m y ∧
    σ = [some (.ref n), s1, some (.int (X - 3)), some (.tup [.int (X - 3 + 1 + d), .int (15 + d2)]), some (mkW h v m), some (.int y), some (.ref st3.length), some (.ref (st3.length + 1)), s8, s9] := ⟨_, rfl⟩
  refine for_rule (k := 0) I (by rw [hI]; exact ⟨st4, [j0], [], _, _, _, _, _, _, p04, rfl, rfl, rfl, by simpa using hj0, by simp, A0, rfl⟩) ?_ ?_
  · intro i e σ s he hi0
    rw [hI] at hi0
    obtain ⟨st5, Js, Ss, v, m, y, s1, s8, s9, p05, rfl, lJ, lS, hJ, hS, A, rfl⟩ := hi0
    have hik := counted_lt he
    rw [Nat.zero_add] at A lS lJ
    rw [ok_lpS]
    simp [Gat_lt]
    refine draw_app (g := [_, _]) p05.pot (by decide) (by decide) fun c st6 hc0 hc1 p6 => ?_
    simp
    refine draw_app (g := [_, _]) p6.pot (by decide) (by decide) fun c2 st7 hc2 hc3 p7 => ?_
    simp
    rw [rest_at]
    simp [Gat_lt]
    obtain ⟨c1, c4, c5, c6⟩ := A.joint (by omega) hX hh
    have mb3 := mul_bd (a := X - 3 + c) (b := 1 + c2) (A := 200) (B := 34) (by omega) (by omega) (by omega) (by omega)
    refine pull_ok (.small (by omega) (by omega)) (.small (by omega) (by omega)) ?_
    simp
    refine addW (.small (by omega) (by omega)) (.small (by omega) (by omega)) (.small (by omega) (by omega)) (.small (by omega) (by omega)) (.small (by omega) (by omega)) (.small (by omega) (by omega)) ?_
    rw [Int.add_zero, ← Int.sub_eq_add_neg, ← Int.sub_eq_add_neg]
    simp
    refine draw_app (g := [_, _]) p7.pot (by decide) (by decide) fun c3 st8 hc4 hc5 p8 => ?_
    simp
    rw [show y - 1 - c3 = y - (1 + c3) by omega]
    have A2 := A.next (s := X - 3 + c) (w := 1 + c2) (dy := 1 + c3) (by omega) (by omega) (by omega) (by omega)
    have A2j := A2.joint (by omega) hX hh
    have p08 : PR n st st8 := ((p05.trans p6).trans p7).trans p8
    have l8 : st8.length = st3.length := p08.len.trans hL
    rw [rest_at]
    simp [lst_h1 l8, app_h1 l8]
    refine ⟨by omega, ?_⟩
    rw [rest_at]
    simp [lst_h0 l8, Gat_lt]
    refine joint_pier p8.pot hh A2j fun j st9 hj p9 => ?_
    have p09 := p08.trans p9
    have l9 : st9.length = st3.length := p09.len.trans hL
    simp [app_h0 l9]
    refine ⟨by omega, by omega, ?_⟩
    rw [hI]
    refine ⟨st9, _, _, _, _, _, _, _, _, p09, rfl, by simp [lJ], by simp [lS], ?_, ?_, by simpa using A2, rfl⟩
    · intro y hy
      rcases List.mem_append.mp hy with z | z
      · exact hJ y z
      · rw [List.mem_singleton.mp z]; exact hj
    · intro y hy
      rcases List.mem_append.mp hy with z | z
      · exact hS y z
      · rw [List.mem_singleton.mp z]; exact ⟨X - 3 + c, 1 + c2, rfl, by omega, by omega⟩
  · intro σ s hi0
    rw [hI] at hi0
    obtain ⟨st5, Js, Ss, v, m, y, s1, s8, s9, p05, rfl, lJ, lS, hJ, hS, A, rfl⟩ := hi0
    rw [counted_len, Nat.zero_add] at A lS lJ
    have l5 : st5.length = st3.length := p05.len.trans hL
    rw [sq_nx, rest_at]
    simp [seq_h0 l5, seq_h1 l5]
    rw [fin_tup (by simp [all_lt (fun v => IsJ.lt) hJ, all_lt (fun v => IsS.lt) hS]), take_at p05.len]
    exact q _ st5 ⟨_, Js, Ss, rfl, ⟨X - 3 + 1 + d, 15 + d2, rfl, by omega, by omega⟩, hJ, hS, by omega, by omega⟩ p05
end LAW

end
section
set_option Elab.async false
set_option linter.all false
set_option maxRecDepth 100000
set_option maxHeartbeats 4000000
namespace LAW
open PySem MP
def IsA (v : PV) : Prop := ∃ (Js Ss : List PV), v = .tup [.tup Js, .tup Ss] ∧ (∀ j ∈ Js, IsJ j) ∧ (∀ s ∈ Ss, IsS s) ∧ Js.length = Ss.length + 1 ∧ 1 ≤ Ss.length ∧ Ss.length ≤ 3
/-- a list of one's own behind the store, whatever else stands there -/
structure Own (st S : Sto) (acc : List PV) : Prop where
  same : S.take st.length = st
  at_ : S[st.length]? = some (.lst acc)
theorem Own.first {st : Sto} {acc : List PV} : Own st (st ++ [.lst acc]) acc := ⟨by simp, by simp⟩
theorem Own.lt {st S : Sto} {acc : List PV} (h : Own st S acc) : st.length < S.length := by
  rcases Nat.lt_or_ge st.length S.length with q | q
  · exact q
  · have := h.at_; rw [List.getElem?_eq_none q] at this; cases this
theorem Own.more {st S g : Sto} {acc : List PV} (h : Own st S acc) : Own st (S ++ g) acc :=
  ⟨by rw [List.take_append_of_le_length (by have := h.lt; omega)]; exact h.same, by rw [List.getElem?_append_left h.lt]; exact h.at_⟩
theorem Own.put {st S : Sto} {acc acc' : List PV} (h : Own st S acc) : Own st (S.set st.length (.lst acc')) acc' :=
  ⟨by rw [List.take_set_of_le (by omega)]; exact h.same, by simp [h.lt]⟩
theorem Own.ret {st S : Sto} {acc : List PV} (h : Own st S acc) (hl : PV.ltA st.length acc = true) : fin st.length (.ref st.length) S = (.ref st.length, st ++ [.lst acc]) := by
  rw [fin_ref (Nat.le_refl _) h.at_ hl, h.same]
def nA : PV → Nat
  | .tup [_, .tup Ss] => Ss.length
  | _ => 0
def nP : PV → Nat
  | .tup [_, _, .tup Ss] => Ss.length + 1
  | _ => 0
def cnt (As Ps : List PV) : Nat → Nat
  | 0 => 0
  | i + 1 => cnt As Ps i + (As[i]?.elim 0 nA) + (Ps[i]?.elim 0 nP)
theorem numbered_get {xs : List PV} : ∀ {k i : Nat} {e : PV}, (MP.numbered k xs)[i]? = some e → ∃ x, xs[i]? = some x ∧ e = .tup [.int (k + i : Nat), x] := by
  induction xs with
  | nil => intro k i e h; simp [MP.numbered] at h
  | cons x xs ih =>
    intro k i e h
    cases i with
    | zero => simp [MP.numbered] at h; exact ⟨x, rfl, h.symm⟩
    | succ i =>
      simp [MP.numbered] at h
      obtain ⟨y, h1, h2⟩ := ih h
      exact ⟨y, by simpa using h1, by rw [h2]; congr 4; omega⟩
theorem numbered_len (xs : List PV) : ∀ k, (MP.numbered k xs).length = xs.length := by
  induction xs with
  | nil => intro k; rfl
  | cons x xs ih => intro k; simp [MP.numbered, ih]
theorem stones_ok {b s : PV} {As Ps : List PV} {st : Sto} {Q : PV × Sto → Prop} (hA : ∀ a ∈ As, IsA a) (hP : ∀ p ∈ Ps, IsP p) (hl : Ps.length ≤ As.length) (hl2 : As.length ≤ 4)
    (q : ∀ Ss : List PV, Ss.length = cnt As Ps As.length → (∀ x ∈ Ss, IsS x) → Q (.ref st.length, st ++ [.lst Ss])) : Ok (F__law_stones [.tup [b, .tup As, .tup Ps, s]] st) Q := by
  refine run__law_stones rfl ?_
  simp [b__law_stones, rest_at]
  obtain ⟨I, hI⟩ : ∃ I : Nat → Sl → Sto → Prop, I = fun k σ S => ∃ (acc : List PV) (s2 s3 s4 : Option PV), Own st S acc ∧ acc.length = cnt As Ps k ∧ acc.length ≤ 7 * k ∧ (∀ x ∈ acc, IsS x) ∧
    σ = [some (.tup [b, .tup As, .tup Ps, s]), some (.ref st.length), s2, s3, s4] := ⟨_, rfl⟩
  refine for_rule (k := 0) I (by rw [hI]; exact ⟨[], _, _, _, Own.first, rfl, by simp, by simp, rfl⟩) ?_ ?_
  · intro i e σ S he hi0
    rw [hI] at hi0
    obtain ⟨acc, s2, s3, s4, ow, hc, hc7, hS, rfl⟩ := hi0
    rw [Nat.zero_add] at hc hc7
    obtain ⟨a, ha, rfl⟩ := numbered_get he
    rw [Nat.zero_add]
    have hi : i < As.length := by
      rcases Nat.lt_or_ge i As.length with z | z
      · exact z
      · rw [List.getElem?_eq_none z] at ha; cases ha
    obtain ⟨Js, Ss, rfl, aJ, aS, al, al1, al3⟩ := hA a (List.mem_of_getElem? ha)
    rw [ok_lpS]
    simp [lst_ref ow.at_]
    have ow1 := ow.more (g := [.lst Ss])
    rw [ext_ok ow1.at_]
    have ow2 := ow1.put (acc' := acc ++ Ss)
    refine ⟨.inl (Nat.le_refl _), by omega, ?_⟩
    generalize (S ++ [SO.lst Ss]).set st.length (.lst (acc ++ Ss)) = S2 at ow2
    have hS2 : ∀ x ∈ acc ++ Ss, IsS x := fun x hx => by
      rcases List.mem_append.mp hx with z | z
      · exact hS x z
      · exact aS x z
    have e1 : As[i]?.elim 0 nA = Ss.length := by rw [ha]; rfl
    rw [rest_at]
    simp
    refine ⟨fun hip => ?_, fun hip => ?_⟩
    · have hp : Ps[i]? = some Ps[i] := List.getElem?_eq_getElem hip
      have ap := hP _ (List.mem_of_getElem? hp)
      generalize Ps[i] = p at hp ap
      obtain ⟨h, Js', Ss', rfl, ph, pJ, pS, pl, pl2⟩ := ap
      have e2 : Ps[i]?.elim 0 nP = Ss'.length + 1 := by rw [hp]; rfl
      have ix : L2.atI Ps (i : Int) = some (.tup [h, .tup Js', .tup Ss']) := by rw [at_nat rfl hip, hp]
      simp [lst_ref ow2.at_, ix]
      have lt1 : PV.ltA S2.length (h :: Ss') = true := by simp [ph.lt, all_lt (fun v => IsS.lt) pS]
      have f3 : fin S2.length (PV.ref (S2.length + 2)) (S2 ++ [SO.lst [h], SO.lst Ss', SO.lst (h :: Ss')]) = (.ref S2.length, S2 ++ [.lst (h :: Ss')]) := by
        rw [fin_ref (o := .lst (h :: Ss')) (by omega) (by simp) lt1]
        simp
      rw [f3]
      simp
      have ow3 := ow2.more (g := [.lst (h :: Ss')])
      rw [ext_ok ow3.at_]
      have hc4 : (acc ++ Ss).length ≤ 7 * i + 3 := by simp; omega
      refine ⟨by omega, .inl (Nat.le_refl _), by simp at hc4 ⊢; omega, ?_⟩
      rw [hI]
      refine ⟨_, _, _, _, ow3.put, by simp [cnt, e1, e2, hc]; omega, by simp at hc4 ⊢; omega, ?_, rfl⟩
      intro x hx
      rcases List.mem_append.mp hx with z | z
      · exact hS2 x z
      · rcases List.mem_cons.mp z with z | z
        · rw [z]; exact ph
        · exact pS x z
    · have e2 : Ps[i]?.elim 0 nP = 0 := by rw [List.getElem?_eq_none hip]; rfl
      rw [hI]
      exact ⟨acc ++ Ss, _, _, _, ow2, by simp [cnt, e1, e2, hc], by simp; omega, hS2, rfl⟩
  · intro σ S hi0
    rw [hI] at hi0
    obtain ⟨acc, s2, s3, s4, ow, hc, hc7, hS, rfl⟩ := hi0
    rw [numbered_len, Nat.zero_add] at hc
    simp [rest_at]
    rw [ow.ret (all_lt (fun v => IsS.lt) hS _)]
    exact q acc hc hS
/-- a part that parts_in tells -/
def IsPt (v : PV) : Prop := ∃ (k : Str) (a x y : Int) (Js Ss : List PV), v = .tup [.str k, .int a, .tup Js, .tup Ss, .int x, .int y] ∧ (∀ j ∈ Js, IsJ j) ∧ (∀ s ∈ Ss, IsS s) ∧ Ss.length ≤ 3
def nPt : PV → Nat
  | .tup [_, _, _, .tup Ss, _, _] => Ss.length
  | _ => 0
theorem IsPt.lt {v : PV} (h : IsPt v) (k : Nat) : v.lt k = true := by
  obtain ⟨_, _, _, _, Js, Ss, rfl, h1, h2, _⟩ := h
  simp [all_lt (fun v => IsJ.lt) h1, all_lt (fun v => IsS.lt) h2]
theorem parts_ok {b s : PV} {As Ps : List PV} {st : Sto} {Q : PV × Sto → Prop} (hA : ∀ a ∈ As, IsA a) (hP : ∀ p ∈ Ps, IsP p) (hl : Ps.length ≤ As.length) (hl2 : As.length ≤ 4)
    (q : ∀ Pt : List PV, (Pt.map nPt).sum = cnt As Ps As.length → Pt.length ≤ 8 → (∀ x ∈ Pt, IsPt x) → Q (.ref st.length, st ++ [.lst Pt])) : Ok (F_parts_in [.tup [b, .tup As, .tup Ps, s]] st) Q := by
  refine run_parts_in rfl ?_
  simp [b_parts_in, rest_at]
  obtain ⟨I, hI⟩ : ∃ I : Nat → Sl → Sto → Prop, I = fun k σ S => ∃ (acc : List PV) (j t : Int) (s4 s5 s6 s7 s8 s9 : Option PV), Own st S acc ∧ (acc.map nPt).sum = cnt As Ps k ∧ acc.length ≤ 2 * k ∧ (∀ x ∈ acc, IsPt x) ∧
    σ = [some (.tup [b, .tup As, .tup Ps, s]), some (.ref st.length), some (.int j), some (.int t), s4, s5, s6, s7, s8, s9] := ⟨_, rfl⟩
  refine for_rule (k := 0) I (by rw [hI]; exact ⟨[], _, _, _, _, _, _, _, _, Own.first, rfl, by simp, by simp, rfl⟩) ?_ ?_
  · intro i e σ S he hi0
    rw [hI] at hi0
    obtain ⟨acc, j, t, s4, s5, s6, s7, s8, s9, ow, hc, hc7, hS, rfl⟩ := hi0
    rw [Nat.zero_add] at hc hc7
    obtain ⟨a, ha, rfl⟩ := numbered_get he
    rw [Nat.zero_add]
    have hi : i < As.length := by
      rcases Nat.lt_or_ge i As.length with z | z
      · exact z
      · rw [List.getElem?_eq_none z] at ha; cases ha
    obtain ⟨Js, Ss, rfl, aJ, aS, al, al1, al3⟩ := hA a (List.mem_of_getElem? ha)
    have e1 : As[i]?.elim 0 nA = Ss.length := by rw [ha]; rfl
    rw [ok_lpS]
    simp [lst_ref ow.at_, app_ok ow.at_]
    refine ⟨by omega, ?_⟩
    have ow2 := ow.put (acc' := acc ++ [.tup [.str "arch", .int i, .tup Js, .tup Ss, .int j, .int t]])
    generalize S.set st.length _ = S2 at ow2
    have pt1 : IsPt (.tup [.str "arch", .int i, .tup Js, .tup Ss, .int j, .int t]) := ⟨_, _, _, _, Js, Ss, rfl, aJ, aS, al3⟩
    rw [rest_at]
    simp
    rw [rest_at]
    simp
    refine ⟨fun hip => ?_, fun hip => ?_⟩
    · have hp : Ps[i]? = some Ps[i] := List.getElem?_eq_getElem hip
      have ap := hP _ (List.mem_of_getElem? hp)
      generalize Ps[i] = p at hp ap
      obtain ⟨h, Js', Ss', rfl, ph, pJ, pS, pl, pl2⟩ := ap
      have e2 : Ps[i]?.elim 0 nP = Ss'.length + 1 := by rw [hp]; rfl
      have ix : L2.atI Ps (i : Int) = some (.tup [h, .tup Js', .tup Ss']) := by rw [at_nat rfl hip, hp]
      simp [ix]
      rw [rest_at]
      simp [lst_ref ow2.at_, app_ok ow2.at_]
      refine ⟨by omega, by omega, ?_⟩
      rw [rest_at]
      simp
      have pt2 : IsPt (.tup [.str "pier", .int i, .tup Js', .tup (h :: Ss'), .int (j + Js.length), .int (t + Ss.length)]) := ⟨_, _, _, _, Js', h :: Ss', rfl, pJ, by
        intro x hx
        rcases List.mem_cons.mp hx with z | z
        · rw [z]; exact ph
        · exact pS x z, by simp; omega⟩
      rw [hI]
      refine ⟨_, _, _, _, _, _, _, _, _, ow2.put, by simp [cnt, e1, e2, hc, nPt]; omega, by simp; omega, ?_, rfl⟩
      intro x hx
      simp only [List.append_assoc, List.mem_append, List.mem_cons, List.not_mem_nil, or_false] at hx
      rcases hx with z | z | z
      · exact hS x z
      · rw [z]; exact pt1
      · rw [z]; exact pt2
    · have e2 : Ps[i]?.elim 0 nP = 0 := by rw [List.getElem?_eq_none hip]; rfl
      rw [hI]
      refine ⟨_, _, _, _, _, _, _, _, _, ow2, by simp [cnt, e1, e2, hc, nPt], by simp; omega, ?_, rfl⟩
      intro x hx
      simp only [List.mem_append, List.mem_cons, List.not_mem_nil, or_false] at hx
      rcases hx with z | z
      · exact hS x z
      · rw [z]; exact pt1
  · intro σ S hi0
    rw [hI] at hi0
    obtain ⟨acc, j, t, s4, s5, s6, s7, s8, s9, ow, hc, hc7, hS, rfl⟩ := hi0
    rw [numbered_len, Nat.zero_add] at hc hc7
    simp [rest_at]
    rw [ow.ret (all_lt (fun v => IsPt.lt) hS _)]
    exact q acc hc (by omega) hS
theorem stonesin_ok {b s : PV} {As Ps : List PV} {st : Sto} {Q : PV × Sto → Prop} (hA : ∀ a ∈ As, IsA a) (hP : ∀ p ∈ Ps, IsP p) (hl : Ps.length ≤ As.length) (hl2 : As.length ≤ 4)
    (q : ∀ Ss : List PV, Ss.length = cnt As Ps As.length → Q (.tup Ss, st)) : Ok (F_stones_in [.tup [b, .tup As, .tup Ps, s]] st) Q := by
  refine run_stones_in rfl ?_
  simp [b_stones_in, Gat_lt]
  refine parts_ok hA hP hl hl2 fun Pt hsum hlen hPt => ?_
  simp
  refine lc_rule (k := 0) (fun k S => ∃ acc : List PV, S = st ++ [.lst Pt, .lst acc] ∧ acc.length = ((Pt.take k).map nPt).sum ∧ acc.length ≤ 3 * k ∧ ∀ x ∈ acc, IsS x) ⟨[], rfl, by simp, by simp, by simp⟩ ?_ ?_
  · rintro i x S hx ⟨acc, rfl, hc, hc3, hS⟩
    rw [Nat.zero_add] at hc hc3
    obtain ⟨k, a, u, v, Js, Ss, rfl, h1, h2, h3⟩ := hPt x (List.mem_of_getElem? hx)
    have hi : i < Pt.length := by
      rcases Nat.lt_or_ge i Pt.length with z | z
      · exact z
      · rw [List.getElem?_eq_none z] at hx; cases hx
    rw [ok_lcS2]
    simp
    rw [show st ++ [SO.lst Pt, SO.lst acc] = (st ++ [.lst Pt]) ++ [.lst acc] by simp]
    refine lc_pure id (by simp) (by omega) (fun y hy acc' hl' => ?_) ?_
    · rw [ok_lcS1]
      simp [CT.slots]
      omega
    · simp
      refine ⟨?_, by omega, fun x hx => hx.elim (hS x) (h2 x)⟩
      rw [List.map_take] at hc
      rw [List.take_succ, List.getElem?_map, hx]
      simp [hc, nPt]
  · rintro S ⟨acc, rfl, hc, hc3, hS⟩
    rw [Nat.zero_add, List.take_length] at hc
    simp
    rw [fin_tup (all_lt (fun v => IsS.lt) hS _), take_app]
    exact q acc (by rw [hc, hsum])
end LAW

end
section
set_option Elab.async false
set_option linter.all false
set_option maxRecDepth 100000
set_option maxHeartbeats 4000000
namespace LAW
open PySem MP
def IsC (N : Nat) (v : PV) : Prop := ∃ i x w : Int, v = .tup [.int i, .int x, .int w] ∧ (0 ≤ i ∧ i < N) ∧ (0 ≤ x ∧ x ≤ 999) ∧ (1 ≤ w ∧ w ≤ 999)
/-- carts in their order -/
def Rise : List PV → Prop
  | x :: y :: r => (∃ ns ms, ints? (match x with | .tup xs => xs | _ => []) = some ns ∧ ints? (match y with | .tup xs => xs | _ => []) = some ms ∧ HT.lexLt ns ms = true) ∧ Rise (y :: r)
  | _ => True
def IsB (v : PV) : Prop := ∃ (As Ps Cs : List PV), v = .tup [.str "bridge", .tup As, .tup Ps, .tup [.tup [], .tup Cs]] ∧ (∀ a ∈ As, IsA a) ∧ (∀ p ∈ Ps, IsP p) ∧ Ps.length + 1 = As.length ∧ As.length ≤ 3 ∧
  (∀ c ∈ Cs, IsC (cnt As Ps As.length) c) ∧ 1 ≤ Cs.length ∧ Cs.length ≤ 2 ∧ Rise Cs
theorem IsC.lt {N : Nat} {v : PV} (h : IsC N v) (k : Nat) : v.lt k = true := by
  obtain ⟨_, _, _, rfl, _⟩ := h
  simp
theorem IsA.lt {v : PV} (h : IsA v) (k : Nat) : v.lt k = true := by
  obtain ⟨Js, Ss, rfl, h1, h2, _⟩ := h
  simp [all_lt (fun v => IsJ.lt) h1, all_lt (fun v => IsS.lt) h2]
theorem IsP.lt {v : PV} (h : IsP v) (k : Nat) : v.lt k = true := by
  obtain ⟨_, Js, Ss, rfl, h0, h1, h2, _⟩ := h
  simp [h0.lt, all_lt (fun v => IsJ.lt) h1, all_lt (fun v => IsS.lt) h2]
@[simp] theorem isNon_W {h v m : Int} : isNon (mkW h v m) = false := rfl
@[simp] theorem isNon_non : isNon .non = true := rfl
/-- what is carried from arch to arch -/
def LateAt (k : Nat) (x : Int) (late : PV) : Prop := if k = 0 then late = .non else ∃ h v m : Int, late = mkW h v m ∧ (4 ≤ h ∧ h ≤ 23) ∧ (-32 ≤ v ∧ v ≤ 12) ∧ (-1421 ≤ m - x * v ∧ m - x * v ≤ 704)
/-- wrenches of thrusts -/
def IsW (v : PV) : Prop := ∃ h u m : Int, v = mkW h u m ∧ (-999 ≤ h ∧ h ≤ 999) ∧ (-999 ≤ u ∧ u ≤ 999) ∧ (-99999 ≤ m ∧ m ≤ 99999)
def nOf (v : PV) : Nat := match v with
  | .tup (_ :: .tup As :: _) => As.length
  | _ => 0
theorem IsW.lt {v : PV} (h : IsW v) (k : Nat) : v.lt k = true := by
  obtain ⟨_, _, _, rfl, _⟩ := h
  simp [mkW, mkR]
structure BAt (n : Nat) (st : Sto) (k : Nat) (st' : Sto) (As Ps Th : List PV) (x : Int) (late : PV) : Prop where
  pr : PR n st st'
  la : As.length = k
  lp : Ps.length = k - 1
  a : ∀ a ∈ As, IsA a
  p : ∀ p ∈ Ps, IsP p
  th : ∀ w ∈ Th, IsW w
  lth : Th.length = k
  x1 : 6 * (k : Int) ≤ x
  x2 : x ≤ 22 * (k : Int)
  lt : LateAt k x late
theorem pier_app {X h v m : Int} {st g : Sto} {n : Nat} {Q : PV × Sto → Prop} (_ : True) (hp : PotAt st n) (hX : 0 ≤ X ∧ X ≤ 150) (hh : -19 ≤ h ∧ h ≤ 19) (hv : -45 ≤ v ∧ v ≤ 8) (hm : -1421 ≤ m - X * v ∧ m - X * v ≤ 1490)
    (q : ∀ p st', IsP p → PR n st st' → Q (p, st' ++ g)) : Ok (F__law_pier [.ref n, mkW h v m, .int (X - 3)] (st ++ g)) Q := by
  refine pier_ok hp.app hX hh hv hm fun p s hpp pr => ?_
  obtain ⟨st', rfl, p'⟩ := pr.app hp.lt
  exact q p st' hpp p'
theorem arch_app {x0 up h : Int} {m : Int} {many : Int} {st g : Sto} {n : Nat} {Q : PV × Sto → Prop} (hh : 4 ≤ h) (hh2 : h ≤ 23) (hx : 0 ≤ x0 ∧ x0 ≤ 100) (hu : 4 ≤ up ∧ up ≤ 13) (hm : 1 ≤ many ∧ many ≤ 3) (ha : ArchAt x0 up h 0 up m x0) (hp : PotAt st n)
    (q : ∀ (Js Ss : List PV) v' m' x' st', (∀ j ∈ Js, IsJ j) → (∀ s ∈ Ss, IsS s) → Js.length = many.toNat + 1 → Ss.length = many.toNat → ArchAt x0 up h many.toNat v' m' x' → PR n st st' → Q (.tup [.tup [.tup Js, .tup Ss], mkW h v' m', .int x'], st' ++ g)) :
    Ok (F__law_arch [.ref n, mkW h up m, .int x0, .int many] (st ++ g)) Q := by
  refine arch_ok hp.app hh hh2 hx hu hm ha fun Js Ss v' m' x' s h1 h2 h3 h4 h5 pr => ?_
  obtain ⟨st', rfl, p'⟩ := pr.app hp.lt
  exact q Js Ss v' m' x' st' h1 h2 h3 h4 h5 p'
theorem bridge_loop {st : Sto} {n : Nat} {T mx : Int} {Q : Fl → Prop} (hT : 1 ≤ T ∧ T ≤ 3) (hp : PotAt st n) {L : Nat} (hL : st.length = L) {s7 s8 s9 s10 s11 s12 s13 s14 : Option PV}
    (q : ∀ (st' : Sto) (As Ps Th : List PV) (x : Int) (late : PV) s7 s8 s9 s10 s11 s12, BAt n st T.toNat st' As Ps Th x late → Q (.nx [some (.ref n), some (.int mx), some (.ref L), some (.ref (L + 1)), some (.ref (L + 2)), some (.int x), some late, s7, s8, s9, s10, s11, s12, s13, s14] (st' ++ [.lst As, .lst Ps, .lst Th]))) :
    ∀ body, (CS.loop (.name 7) (.rng1 (.bin .add (.int 1) (.call 0 (.cons (.var 0) (.cons (.var 1) .nil))))) body ∈ (match b__law_bridge with | .cons _ (.cons s _) => [s] | _ => [])) →
    Ok (forL [] (lpS (Gat G0 cds 14) G0 (.name 7) body L) (counted 0 T.toNat) [some (.ref n), some (.int mx), some (.ref L), some (.ref (L + 1)), some (.ref (L + 2)), some (.int 0), some .non, s7, s8, s9, s10, s11, s12, s13, s14] (st ++ [.lst [], .lst [], .lst []])) Q := by
  intro body hb
  simp only [b__law_bridge, List.mem_singleton, CS.loop.injEq, true_and] at hb
  subst hb
  obtain ⟨I, hI⟩ : ∃ I : Nat → Sl → Sto → Prop, I = fun k σ S => ∃ (st' : Sto) (As Ps Th : List PV) (x : Int) (late : PV) (s7 s8 s9 s10 s11 s12 : Option PV), BAt n st k st' As Ps Th x late ∧ S = st' ++ [.lst As, .lst Ps, .lst Th] ∧
    σ = [some (.ref n), some (.int mx), some (.ref L), some (.ref (L + 1)), some (.ref (L + 2)), some (.int x), some late, s7, s8, s9, s10, s11, s12, s13, s14] := ⟨_, rfl⟩
  refine for_rule (k := 0) I (by rw [hI]; exact ⟨st, [], [], [], 0, .non, _, _, _, _, _, _, ⟨.refl hp, rfl, rfl, by simp, by simp, by simp, rfl, by omega, by omega, rfl⟩, rfl, rfl⟩) ?_ ?_
  · intro i e σ S he hi0
    rw [hI] at hi0
    obtain ⟨st1, As, Ps, Th, x, late, t7, t8, t9, t10, t11, t12, B, rfl, rfl⟩ := hi0
    rw [Nat.zero_add] at B
    have hi := counted_lt he
    rw [ok_lpS]
    simp [Gat_lt]
    refine draw_app (g := [_, _, _]) B.pr.pot (by decide) (by decide) fun d1 st2 hd1 hd1' p2 => ?_
    simp
    refine draw_app (g := [_, _, _]) p2.pot (by decide) (by decide) fun d2 st3 hd2 hd2' p3 => ?_
    simp
    rw [rest_at]
    simp [Gat_lt]
    refine draw_app (g := [_, _, _]) p3.pot (by decide) (by decide) fun d3 st4 hd3 hd3' p4 => ?_
    simp
    rw [rest_at]
    have x1 := B.x1
    have x2 := B.x2
    have c1 : L2.CMulW x (4 + d3) := (Bd.small (by omega) (by omega)).sm.mul (Bd.small (by omega) (by omega)).sm
    simp [Gat_lt, c1]
    refine draw_app (g := [_, _, _]) p4.pot (by decide) (by decide) fun d4 st5 hd4 hd4' p5 => ?_
    have c2 : L2.CMulW d4 (4 + d2) := (Bd.small (by omega) (by omega)).sm.mul (Bd.small (by omega) (by omega)).sm
    simp [c2]
    have p15 : PR n st st5 := (((B.pr.trans p2).trans p3).trans p4).trans p5
    have l5 : st5.length = L := p15.len.trans hL
    obtain ⟨W, hW⟩ : ∃ W, W = mkW (4 + d2) (4 + d3) (x * (4 + d3) - d4 * (4 + d2)) := ⟨_, rfl⟩
    have hW' : PV.tup [PV.tup [PV.int (4 + d2), PV.int 1], PV.tup [PV.int (4 + d3), PV.int 1], PV.tup [PV.int (x * (4 + d3) - d4 * (4 + d2)), PV.int 1]] = W := hW.symm
    rw [hW']
    rw [rest_at, b_cons]
    obtain ⟨K, hK⟩ : ∃ K : Fl → Prop, K = fun f => ∃ (st6 : Sto) (Ps' : List PV), PR n st st6 ∧ Ps'.length = i ∧ (∀ p ∈ Ps', IsP p) ∧ f = Fl.nx [some (.ref n), some (.int mx), some (.ref L), some (.ref (L + 1)), some (.ref (L + 2)), some (.int x), some late, some e, some (.int (1 + d1)), some (.int (4 + d2)), some (.int (4 + d3)), some W, t12, s13, s14] (st6 ++ [.lst As, .lst Ps', .lst Th]) := ⟨_, rfl⟩
    refine Ok.mono (Q := K) ?_ ?_
    · by_cases h0 : i = 0
      · have hlt := B.lt
        unfold LateAt at hlt
        rw [if_pos h0] at hlt
        subst hlt
        simp
        rw [hK]
        exact ⟨st5, Ps, p15, by have := B.lp; omega, B.p, rfl⟩
      · have hlt := B.lt
        unfold LateAt at hlt
        rw [if_neg h0] at hlt
        obtain ⟨h, v, m, rfl, ⟨h1, h2⟩, ⟨v1, v2⟩, m1, m2⟩ := hlt
        simp [lst_h1 l5, Gat_lt]
        rw [hW]
        have mb := mul_bd (a := x) (b := 4 + d3) (A := 100) (B := 20) (by omega) (by omega) (by omega) (by omega)
        have mb2 := mul_bd (a := d4) (b := 4 + d2) (A := 4) (B := 24) (by omega) (by omega) (by omega) (by omega)
        have mb3 := mul_bd (a := x) (b := v) (A := 100) (B := 50) (by omega) (by omega) (by omega) (by omega)
        refine negW (.small (by omega) (by omega)) (.small (by omega) (by omega)) (.small (by omega) (by omega)) ?_
        refine addW (.small (by omega) (by omega)) (.small (by omega) (by omega)) (.small (by omega) (by omega)) (.small (by omega) (by omega)) (.small (by omega) (by omega)) (.small (by omega) (by omega)) ?_
        simp
        refine pier_app trivial (X := x) p15.pot (by omega) (by omega) (by omega) ?_ fun p st6 hp6 p6 => ?_
        · have e2 : m + -(x * (4 + d3) - d4 * (4 + d2)) - x * (v + -(4 + d3)) = (m - x * v) + d4 * (4 + d2) := by rw [Int.mul_add x v, Int.mul_neg]; omega
          have mb4 : 0 ≤ d4 * (4 + d2) := Int.mul_nonneg (by omega) (by omega)
          have mb5 := (mul_bd (a := d4) (b := 4 + d2) (A := 3) (B := 23) (by omega) (by omega) (by omega) (by omega)).2
          rw [e2]; omega
        · have p16 := p15.trans p6
          have l6 : st6.length = L := p16.len.trans hL
          have lp := B.lp
          simp [app_h1 l6]
          refine ⟨by omega, ?_⟩
          rw [hK, hW]
          refine ⟨st6, Ps ++ [p], p16, by simp; omega, fun y hy => ?_, rfl⟩
          rcases List.mem_append.mp hy with z | z
          · exact B.p y z
          · rw [List.mem_singleton.mp z]; exact hp6
    · rw [hK]
      rintro _ ⟨st6, Ps', p16, lP, hP, rfl⟩
      clear hK K
      have l6 : st6.length = L := p16.len.trans hL
      rw [sq_nx, rest_at]
      simp [Gat_lt]
      rw [hW]
      have mb5 := mul_bd (a := d4) (b := 4 + d2) (A := 3) (B := 23) (by omega) (by omega) (by omega) (by omega)
      have mb6 : 0 ≤ d4 * (4 + d2) := Int.mul_nonneg (by omega) (by omega)
      refine arch_app (by omega) (by omega) (by omega) (by omega) (by omega) ⟨by omega, by omega, by omega, by omega, by omega, by omega⟩ p16.pot fun Js Ss v' m' x' st7 hJ hS lJ lS A p7 => ?_
      have p17 := p16.trans p7
      have l7 : st7.length = L := p17.len.trans hL
      obtain ⟨a1, a2, a3, a4, a5, a6⟩ := A
      simp
      rw [rest_at]
      have la := B.la
      have lth := B.lth
      simp [lst_h0 l7, app_h0 l7]
      refine ⟨by omega, ?_⟩
      rw [rest_at]
      simp [lst_h2 l7, app_h2 l7]
      refine ⟨by omega, ?_⟩
      rw [rest_at]
      simp
      rw [hI]
      refine ⟨st7, _, _, _, _, _, _, _, _, _, _, _, ⟨p17, by simp [la], by simp [lP], ?_, hP, ?_, by simp [lth], ?_, ?_, ?_⟩, rfl, rfl⟩
      · intro y hy
        rcases List.mem_append.mp hy with z | z
        · exact B.a y z
        · rw [List.mem_singleton.mp z]; exact ⟨Js, Ss, rfl, hJ, hS, by omega, by omega, by omega⟩
      · intro y hy
        rcases List.mem_append.mp hy with z | z
        · exact B.th y z
        · rw [List.mem_singleton.mp z]
          have mb7 := mul_bd (a := x) (b := 4 + d3) (A := 100) (B := 20) (by omega) (by omega) (by omega) (by omega)
          exact ⟨_, _, _, rfl, by omega, by omega, by omega⟩
      · push_cast; omega
      · push_cast; omega
      · unfold LateAt
        rw [if_neg (by omega)]
        refine ⟨_, v', m', rfl, by omega, by omega, ?_⟩
        have e2 : m' - (x' + 4) * v' = (m' - x * v') - (x' + 4 - x) * v' := by rw [Int.sub_mul]; omega
        have q1 := mul_bd (a := x' + 4 - x) (b := -v') (A := 22) (B := 32) (by omega) (by omega) (by omega) (by omega)
        have q2 : -264 ≤ -((x' + 4 - x) * v') := by
          have := Int.mul_nonneg (show 0 ≤ x' + 4 - x by omega) (show 0 ≤ 12 - v' by omega)
          rw [Int.mul_sub] at this
          omega
        rw [Int.mul_neg] at q1
        rw [e2]; omega
  · intro σ S hi0
    rw [hI] at hi0
    obtain ⟨st', As, Ps, Th, x, late, t7, t8, t9, t10, t11, t12, B, rfl, rfl⟩ := hi0
    rw [counted_len, Nat.zero_add] at B
    exact q st' As Ps Th x late _ _ _ _ _ _ B
end LAW

end
section
set_option Elab.async false
set_option linter.all false
set_option maxRecDepth 100000
set_option maxHeartbeats 4000000
namespace LAW
open PySem MP
theorem cnt_le {As Ps : List PV} (hA : ∀ a ∈ As, IsA a) (hP : ∀ p ∈ Ps, IsP p) : ∀ k, cnt As Ps k ≤ 6 * k
  | 0 => by simp [cnt]
  | k + 1 => by
    have ih := cnt_le hA hP k
    have a1 : As[k]?.elim 0 nA ≤ 3 := by
      rcases h : As[k]? with _ | a
      · simp
      · obtain ⟨Js, Ss, rfl, _, _, _, _, h3⟩ := hA a (List.mem_of_getElem? h)
        exact h3
    have a2 : Ps[k]?.elim 0 nP ≤ 3 := by
      rcases h : Ps[k]? with _ | p
      · simp
      · obtain ⟨_, Js, Ss, rfl, _, _, _, _, h3⟩ := hP p (List.mem_of_getElem? h)
        show Ss.length + 1 ≤ 3
        omega
    simp only [cnt]; omega
theorem cnt_pos {As Ps : List PV} (hA : ∀ a ∈ As, IsA a) (h0 : 1 ≤ As.length) : ∀ k, 1 ≤ k → 1 ≤ cnt As Ps k
  | 1, _ => by
    have a1 : 1 ≤ As[0]?.elim 0 nA := by
      rw [List.getElem?_eq_getElem (by omega)]
      obtain ⟨Js, Ss, e, _, _, _, h1, _⟩ := hA _ (List.getElem_mem (show 0 < As.length by omega))
      rw [e]
      exact h1
    simp only [cnt]; omega
  | k + 2, _ => by
    have := cnt_pos (As := As) (Ps := Ps) hA h0 (k + 1) (by omega)
    rw [cnt]; omega
@[simp] theorem ints_cons {i : Int} {r : List PV} : ints? (.int i :: r) = (ints? r).map (i :: ·) := rfl
@[simp] theorem ints_nil : ints? [] = some [] := rfl
theorem cart_lt {a b c a' b' c' : Int} (hb : 0 ≤ b ∧ b < 100000) (hc : 0 ≤ c ∧ c < 100000) (hb' : 0 ≤ b' ∧ b' < 100000) (hc' : 0 ≤ c' ∧ c' < 100000) (h : TS.code setB [a, b, c] < TS.code setB [a', b', c']) : HT.lexLt [a, b, c] [a', b', c'] = true := by
  simp only [TS.code, setB, List.length_cons, List.length_nil] at h
  have e2 : (100000 : Int) ^ (0 + 1 + 1) = 10000000000 := by decide
  have e1 : (100000 : Int) ^ (0 + 1) = 100000 := by decide
  have e0 : (100000 : Int) ^ 0 = 1 := by decide
  rw [e2, e1, e0] at h
  simp only [HT.lexLt]
  by_cases e1 : a = a'
  · by_cases e2 : b = b'
    · by_cases e3 : c = c'
      · omega
      · simp [e1, e2, e3]; omega
    · simp [e1, e2]; omega
  · simp [e1]; omega
theorem take3 {st g : Sto} {a b c : SO} : List.take (st.length + 3) (st ++ a :: b :: c :: g) = st ++ [a, b, c] := by
  rw [show st ++ a :: b :: c :: g = (st ++ [a, b, c]) ++ g by simp]
  exact List.take_left' (by simp)
theorem take4 {st g : Sto} {a b c d : SO} : List.take (st.length + 4) (st ++ a :: b :: c :: d :: g) = st ++ [a, b, c, d] := by
  rw [show st ++ a :: b :: c :: d :: g = (st ++ [a, b, c, d]) ++ g by simp]
  exact List.take_left' (by simp)
open Classical in
theorem sset_ok {N : Nat} (hN : N ≤ 1000) {Cs : List PV} (hC : ∀ c ∈ Cs, IsC N c) (h1 : 1 ≤ Cs.length) (h2 : Cs.length ≤ 2) :
    ∃ Cs', (∀ c ∈ Cs', IsC N c) ∧ 1 ≤ Cs'.length ∧ Cs'.length ≤ 2 ∧ Rise Cs' ∧ ∀ (S : Sto) (n' : Nat), lstOf (.ref n') S = some Cs → blt .sset [.ref n'] S = some (.ref S.length, S ++ [.lst Cs']) := by
  have run : ∀ (rs : List (List Int)), rows? Cs = some rs → (rs.length < 64 ∧ ∀ r ∈ rs, r.length = 3 ∧ TS.Bd setB r) → ∀ (S : Sto) (n' : Nat), lstOf (.ref n') S = some Cs → blt .sset [.ref n'] S = some (.ref S.length, S ++ [.lst ((sortC setB rs).map fun ns => .tup (ns.map .int))]) := by
    intro rs hr hc S n' h
    show ((lstOf (.ref n') S).bind fun xs => (rows? xs).bind fun rs => if rs.length < 64 ∧ ∀ r ∈ rs, r.length = 3 ∧ TS.Bd setB r then some (PV.ref S.length, S ++ [SO.lst ((sortC setB rs).map fun ns => .tup (ns.map .int))]) else none) = _
    rw [h]
    simp only [Option.bind_some, hr]
    rw [if_pos hc]
  have bd : ∀ {i x w : Int}, (0 ≤ i ∧ i < N) → (0 ≤ x ∧ x ≤ 999) → (1 ≤ w ∧ w ≤ 999) → [i, x, w].length = 3 ∧ TS.Bd setB [i, x, w] := fun h1 h2 h3 => ⟨rfl, fun m hm => by
    simp at hm
    unfold setB
    rcases hm with rfl | rfl | rfl <;> omega⟩
  match Cs, h1, h2, hC, run with
  | [c], _, _, hC, run =>
    obtain ⟨i, x, w, rfl, b1, b2, b3⟩ := hC c (by simp)
    exact ⟨[.tup [.int i, .int x, .int w]], by simpa using hC, by simp, by simp, trivial, fun S n' h => run [[i, x, w]] rfl ⟨by simp, by simpa using bd b1 b2 b3⟩ S n' h⟩
  | [c, c'], _, _, hC, run =>
    obtain ⟨i, x, w, rfl, b1, b2, b3⟩ := hC c (by simp)
    obtain ⟨i', x', w', rfl, b1', b2', b3'⟩ := hC c' (by simp)
    have r := run [[i, x, w], [i', x', w']] rfl ⟨by simp, by
      intro r hr
      simp at hr
      rcases hr with rfl | rfl
      · exact bd b1 b2 b3
      · exact bd b1' b2' b3'⟩
    have e : sortC setB [[i, x, w], [i', x', w']] = if TS.code setB [i, x, w] < TS.code setB [i', x', w'] then [[i, x, w], [i', x', w']] else if TS.code setB [i, x, w] = TS.code setB [i', x', w'] then [[i', x', w']] else [[i', x', w'], [i, x, w]] := rfl
    rw [e] at r
    by_cases z : TS.code setB [i, x, w] < TS.code setB [i', x', w']
    · rw [if_pos z] at r
      exact ⟨_, hC, by simp, by simp, ⟨⟨[i, x, w], [i', x', w'], rfl, rfl, cart_lt (by omega) (by omega) (by omega) (by omega) z⟩, trivial⟩, r⟩
    · rw [if_neg z] at r
      by_cases y : TS.code setB [i, x, w] = TS.code setB [i', x', w']
      · rw [if_pos y] at r
        exact ⟨[.tup [.int i', .int x', .int w']], by simpa using hC _ (List.mem_cons_of_mem _ (List.mem_singleton.mpr rfl)), by simp, by simp, trivial, r⟩
      · rw [if_neg y] at r
        have hC2 : ∀ c ∈ [PV.tup [.int i', .int x', .int w'], .tup [.int i, .int x, .int w]], IsC N c := fun c hc => by
          rcases List.mem_cons.mp hc with z | z
          · exact hC c (by rw [z]; simp)
          · exact hC c (by rw [List.mem_singleton.mp z]; simp)
        exact ⟨_, hC2, by simp, by simp, ⟨⟨[i', x', w'], [i, x, w], rfl, rfl, cart_lt (by omega) (by omega) (by omega) (by omega) (by omega)⟩, trivial⟩, r⟩
theorem bridge_ok {mx : Int} (hmx : 1 ≤ mx ∧ mx ≤ 3) {st : Sto} {n : Nat} {Q : PV × Sto → Prop} (hp : PotAt st n) (q : ∀ B Th st', IsB B → (∀ w ∈ Th, IsW w) → Th.length = nOf B → PR n st st' → Q (.tup [B, .tup Th], st')) : Ok (F__law_bridge [.ref n, .int mx] st) Q := by
  refine run__law_bridge rfl ?_
  simp [b__law_bridge]
  rw [rest_at]
  simp [Gat_lt]
  refine draw_app (g := [_, _, _]) hp (by omega) (by omega) fun d st1 hd hd' p1 => ?_
  simp
  refine ⟨by omega, ?_⟩
  refine bridge_loop (T := 1 + d) (L := st.length) (by omega) p1.pot p1.len ?_ _ (by simp [b__law_bridge])
  intro st2 As Ps Th x late t7 t8 t9 t10 t11 t12 B
  have p2 := p1.trans B.pr
  have l2 : st2.length = st.length := p2.len
  have la := B.la
  have lp := B.lp
  have hA := B.a
  have hP := B.p
  have lth := B.lth
  have x1 := B.x1
  have x2 := B.x2
  rw [sq_nx, rest_at]
  simp [Gat_lt, seq_h0 l2, seq_h1 l2]
  refine stones_ok hA hP (by omega) (by omega) fun Ss lS hS => ?_
  have hN1 := cnt_pos (Ps := Ps) hA (by omega) As.length (by omega)
  have hN2 := cnt_le hA hP As.length
  simp
  rw [show List.take (st2.length + 3) (st2 ++ [SO.lst As, SO.lst Ps, SO.lst Th, SO.lst Ss]) = st2 ++ [.lst As, .lst Ps, .lst Th] from take3]
  rw [rest_at]
  simp [Gat_lt]
  refine draw_app (g := [_, _, _]) p2.pot (by decide) (by decide) fun d2 st3 hd2 hd2' p3 => ?_
  simp
  have p03 := p2.trans p3
  have l3 : st3.length = st.length := p03.len
  refine ⟨by omega, ?_⟩
  obtain ⟨I, hI⟩ : ∃ I : Nat → Sto → Prop, I = fun k S => ∃ (st' : Sto) (acc : List PV), PR n st st' ∧ S = st' ++ [.lst As, .lst Ps, .lst Th, .lst acc] ∧ acc.length = k ∧ (∀ c ∈ acc, IsC (cnt As Ps As.length) c) := ⟨_, rfl⟩
  refine lc_rule (k := 0) I (by rw [hI]; exact ⟨st3, [], p03, rfl, rfl, by simp⟩) ?_ ?_
  · intro i e S he hi0
    rw [hI] at hi0
    obtain ⟨st4, acc, p4, rfl, lacc, hacc⟩ := hi0
    have hi := counted_lt he
    have l4 : st4.length = st3.length := p4.len.trans l3.symm
    rw [ok_lcS]
    simp [Gat_lt]
    refine draw_app (g := [_, _, _, _]) p4.pot (by omega) (by omega) fun d3 st5 hd3 hd3' p5 => ?_
    simp
    refine draw_app (g := [_, _, _, _]) p5.pot (by omega) (by omega) fun d4 st6 hd4 hd4' p6 => ?_
    simp
    refine draw_app (g := [_, _, _, _]) p6.pot (by omega) (by omega) fun d5 st7 hd5 hd5' p7 => ?_
    simp
    have p07 := ((p4.trans p5).trans p6).trans p7
    have l7 : st7.length = st3.length := p07.len.trans l3.symm
    rw [app_h3 l7]
    refine ⟨.inl (by omega), by omega, ?_⟩
    rw [hI]
    refine ⟨st7, _, p07, rfl, by simp [lacc], fun y hy => ?_⟩
    rcases List.mem_append.mp hy with z | z
    · exact hacc y z
    · rw [List.mem_singleton.mp z]; exact ⟨d3, d4, 1 + d5, rfl, by omega, by omega, by omega⟩
  · intro S hi0
    rw [hI] at hi0
    obtain ⟨st4, Cs, p4, rfl, lC, hC⟩ := hi0
    rw [counted_len, Nat.zero_add] at lC
    have l4 : st4.length = st.length := p4.len
    have e43 : st3.length = st.length := l3
    rw [rest_at]
    obtain ⟨Cs', hC', c1, c2, hR, hs⟩ := sset_ok (by omega) hC (by omega) (by omega)
    have ltC := all_lt (fun v => IsC.lt) hC'
    have g3 : lstOf (.ref (st.length + 3)) (st4 ++ [.lst As, .lst Ps, .lst Th, .lst Cs]) = some Cs := lst_h3 l4
    simp [seq_h0 l4, seq_h1 l4, seq_h2 l4, l3]
    rw [hs _ _ g3]
    simp
    have g4 : seqOf (.ref (st4.length + 4)) (st4 ++ [.lst As, .lst Ps, .lst Th, .lst Cs, .lst Cs']) = some Cs' := seq_ref (by simp)
    rw [g4]
    simp only [ok_some]
    rw [fin_tup (ltC _), take4]
    simp [seq_h2 l4]
    rw [fin_tup (by simp [all_lt (fun v => IsA.lt) hA, all_lt (fun v => IsP.lt) hP, ltC, all_lt (fun v => IsW.lt) B.th]), take_at l4]
    exact q _ Th st4 ⟨As, Ps, Cs', rfl, hA, hP, by omega, by omega, hC', c1, c2, hR⟩ B.th (by show Th.length = As.length; omega) p4
end LAW

end
section
set_option Elab.async false
set_option linter.all false
set_option maxRecDepth 100000
set_option maxHeartbeats 4000000
namespace LAW
open PySem MP
section
variable {st : Sto} {Q : PV × Sto → Prop} {xs : List PV} {i lo hi m : Int}
theorem is_row_tup (q : Q (.bl (decide ((xs.length : Int) = m)), st)) : Ok (F_is_row [.tup xs, .int m] st) Q := by
  refine run_is_row rfl ?_
  simp [b_is_row]
  exact q
theorem is_between_tup (h1 : lo ≤ xs.length) (h2 : (xs.length : Int) ≤ hi) (q : Q (.bl true, st)) : Ok (F_is_between [.tup xs, .int lo, .int hi] st) Q := by
  refine run_is_between rfl ?_
  simp [b_is_between, h1, h2]
  exact q
theorem is_integer_int (q : Q (.bl true, st)) : Ok (F_is_integer [.int i] st) Q := by
  refine run_is_integer rfl ?_
  simp [b_is_integer]
  exact q
theorem is_within_ok (h1 : lo ≤ i) (h2 : i ≤ hi) (q : Q (.bl true, st)) : Ok (F_is_within [.int i, .int lo, .int hi] st) Q := by
  refine run_is_within rfl ?_
  simp [b_is_within, Gat_lt]
  refine is_integer_int ?_
  simp [h1, h2]
  exact ⟨q, fun h => absurd h (by omega)⟩
/-- all([f(one) for one in xs]) where each is true -/
theorem all_true {Γ : Tab} {G : Nat → Option PV} {e : CE} {k : Nat} {own : List Nat} {b : Nat} {σ : Sl} {Q : Sto → Prop} (hl : xs.length ≤ 1000000)
    (h : ∀ x ∈ xs, ∀ acc : List PV, acc.length < 1000000 → Ok (lcS Γ G e (.name k) .nil own b σ st.length x (st ++ [.lst acc])) (fun s => s = st ++ [.lst (acc ++ [.bl true])]))
    (q : Q (st ++ [.lst (xs.map fun _ => .bl true)])) : Ok (lcL [] (lcS Γ G e (.name k) .nil own b σ st.length) xs (st ++ [.lst []])) Q :=
  lc_pure (fun _ => .bl true) (by simp) (by simpa using hl) h (by simpa using q)
theorem bools_true {α : Type} {xs : List α} : bools? (xs.map fun _ => PV.bl true) = some (xs.map fun _ => true) := bools_map (f := fun _ => true)
theorem all_id {α : Type} {xs : List α} : (xs.map fun _ => true).all id = true := by simp
theorem is_point_ok {x y : Int} (hx : -999 ≤ x ∧ x ≤ 999) (hy : -999 ≤ y ∧ y ≤ 999) (q : Q (.bl true, st)) : Ok (F_is_point [.tup [.int x, .int y]] st) Q := by
  refine run_is_point rfl ?_
  simp [b_is_point, Gat_lt]
  refine is_row_tup ?_
  simp
  rw [rest_at]
  simp [Gat_lt, g_MOST_COORDINATE]
  refine is_within_ok (by omega) (by omega) ?_
  simp
  refine is_within_ok (by omega) (by omega) ?_
  simp [bools?]
  exact q
theorem is_stone_ok {v : PV} (h : IsS v) (q : Q (.bl true, st)) : Ok (F_is_stone [v] st) Q := by
  obtain ⟨x, w, rfl, hx, hw⟩ := h
  refine run_is_stone rfl ?_
  simp [b_is_stone, Gat_lt, g_MOST_COORDINATE]
  refine is_row_tup ?_
  simp
  refine is_within_ok (by omega) (by omega) ?_
  simp
  rw [rest_at]
  simp [Gat_lt, g_GREATEST]
  refine is_within_ok (by omega) (by omega) ?_
  simp
  exact q
theorem eq_pts {x y x' y' : Int} {st : Sto} : cmpop .ne (.tup [.int x, .int y]) (.tup [.int x', .int y']) st = some (!(decide (x = x') && decide (y = y'))) := by
  have e : ∀ a b : Int, toD st deep (.tup [.int a, .int b]) = some (.tuple [.int a, .int b]) := fun a b => rfl
  simp only [cmpop, e]
  simp [SeqAt.shaped, PyData.eqv, PyData.eqvAll, PyData.canLay0, PyData.canLayAll0, PyData.depth, PyData.depthAll]
  by_cases h1 : x = x' <;> by_cases h2 : y = y' <;> simp [h1, h2]
theorem is_joint_ok {v : PV} (h : IsJ v) (q : Q (.bl true, st)) : Ok (F_is_joint [v] st) Q := by
  obtain ⟨x, y, x', y', rfl, h1, h2, h3, h4, hne⟩ := h
  refine run_is_joint rfl ?_
  simp [b_is_joint, Gat_lt]
  refine is_row_tup ?_
  simp
  refine is_point_ok h1 h2 ?_
  simp
  refine is_point_ok h3 h4 ?_
  simp only [eq_pts, ok_some]
  have e : (!(decide (x = x') && decide (y = y'))) = true := by
    rcases hne with z | z <;> simp [z]
  rw [e]
  simpa using q
theorem laid_ok {Js Ss : List PV} {lo hi : Int} (hJ : ∀ j ∈ Js, IsJ j) (hS : ∀ s ∈ Ss, IsS s) (hl : Js.length = Ss.length + 1) (h1 : lo ≤ Js.length) (h2 : (Js.length : Int) ≤ hi) (h3 : Js.length ≤ 1000) (q : Q (.bl true, st)) : Ok (F__are_laid [.tup Js, .tup Ss, .int lo, .int hi] st) Q := by
  refine run__are_laid rfl ?_
  simp [b__are_laid, Gat_lt]
  refine is_between_tup h1 h2 ?_
  simp
  refine is_row_tup ?_
  have e : decide ((Ss.length : Int) = (Js.length : Int) - 1) = true := by simp; omega
  rw [e]
  simp
  rw [rest_at]
  simp [Gat_lt]
  refine all_true (by omega) (fun x hx acc ha => ?_) ?_
  · rw [ok_lcS]
    simp [Gat_lt]
    refine is_joint_ok (hJ x hx) ?_
    simp; omega
  · simp only [lst_s0, Option.bind_some, bools_true, all_id, ok_some, seq_s0]
    simp
    refine all_true (by omega) (fun x hx acc ha => ?_) ?_
    · rw [ok_lcS]
      simp [Gat_lt]
      refine is_stone_ok (hS x hx) ?_
      simp; omega
    · simp only [lst_s0, Option.bind_some, bools_true, all_id, ok_some, seq_s0]
      simp
      exact q
theorem is_arch_ok {v : PV} (h : IsA v) (q : Q (.bl true, st)) : Ok (F__is_arch [v] st) Q := by
  obtain ⟨Js, Ss, rfl, hJ, hS, hl, l1, l3⟩ := h
  refine run__is_arch rfl ?_
  simp [b__is_arch, Gat_lt, g_MOST_JOINTS]
  refine is_row_tup ?_
  simp
  refine laid_ok hJ hS hl (by omega) (by omega) (by omega) ?_
  simpa using q
theorem is_pier_ok {v : PV} (h : IsP v) (q : Q (.bl true, st)) : Ok (F__is_pier [v] st) Q := by
  obtain ⟨h, Js, Ss, rfl, hh, hJ, hS, hl, l2⟩ := h
  refine run__is_pier rfl ?_
  simp [b__is_pier, Gat_lt, g_MOST_DEEP]
  refine is_row_tup ?_
  simp
  refine is_stone_ok hh ?_
  simp
  refine laid_ok hJ hS hl (by omega) (by omega) (by omega) ?_
  simpa using q
theorem is_cart_ok {v : PV} {N : Nat} (h : IsC N v) (q : Q (.bl true, st)) : Ok (F_is_cart [v, .int N] st) Q := by
  obtain ⟨i, x, w, rfl, hi, hx, hw⟩ := h
  refine run_is_cart rfl ?_
  simp [b_is_cart, Gat_lt]
  refine is_row_tup ?_
  simp
  refine is_within_ok hi.1 (by omega) ?_
  simp
  rw [show slOp (PV.tup [PV.int i, PV.int x, PV.int w]) (some 1) none st = some (.tup [.int x, .int w], st) from rfl]
  simp
  refine is_stone_ok ⟨x, w, rfl, by omega, by omega⟩ ?_
  simpa using q
theorem rising_ok {xs : List PV} (h : xs = [] ∨ (∃ a, xs = [a]) ∨ ∃ a b, xs = [a, b] ∧ cmpop .lt a b = fun _ => some true) (q : Q (.bl true, st)) : Ok (F_is_rising [.tup xs] st) Q := by
  refine run_is_rising rfl ?_
  simp [b_is_rising]
  rcases h with rfl | ⟨a, rfl⟩ | ⟨a, b, rfl, hab⟩
  · simp [counted, bools?]
    exact q
  · simp [counted, bools?]
    exact q
  · simp [counted, hab, bools?]
    exact q
theorem lt_tups {xs ys : List PV} {ns ms : List Int} (h1 : ints? xs = some ns) (h2 : ints? ys = some ms) (h3 : HT.lexLt ns ms = true) : cmpop .lt (.tup xs) (.tup ys) = fun _ => some true := by
  funext st
  cases xs with
  | nil =>
    cases ys with
    | nil =>
      rw [ints_nil] at h1 h2
      cases h1; cases h2
      cases h3
    | cons y ys => rfl
  | cons x xs =>
    show (match ints? (x :: xs), ints? ys with | some ns, some ms => some (HT.lexLt ns ms) | _, _ => none) = _
    rw [h1, h2]
    simp only [h3]
theorem is_load_ok {xs : List PV} {N : Nat} (hC : ∀ c ∈ xs, IsC N c) (hl : xs.length ≤ 2) (hr : Rise xs) (q : Q (.bl true, st)) : Ok (F_is_load [.tup xs, .int N] st) Q := by
  refine run_is_load rfl ?_
  simp [b_is_load, Gat_lt, g_MOST_CARTS]
  refine is_between_tup (by omega) (by omega) ?_
  simp
  refine all_true (by omega) (fun x hx acc ha => ?_) ?_
  · rw [ok_lcS]
    simp [Gat_lt]
    refine is_cart_ok (hC x hx) ?_
    simp; omega
  · simp only [lst_s0, Option.bind_some, bools_true, all_id, ok_some, seq_s0]
    simp
    refine rising_ok ?_ ?_
    · match xs, hl, hr, hC with
      | [], _, _, _ => exact .inl rfl
      | [a], _, _, _ => exact .inr (.inl ⟨a, rfl⟩)
      | [a, b], _, hr, hC =>
        obtain ⟨_, _, _, rfl, _⟩ := hC a (by simp)
        obtain ⟨_, _, _, rfl, _⟩ := hC b (by simp)
        obtain ⟨⟨ns, ms, h1, h2, h3⟩, _⟩ := hr
        exact .inr (.inr ⟨_, _, rfl, lt_tups h1 h2 h3⟩)
    · simpa using q
theorem is_bridge_ok {v : PV} (h : IsB v) (q : Q (.bl true, st)) : Ok (F_is_bridge [v] st) Q := by
  obtain ⟨As, Ps, Cs, rfl, hA, hP, hl, l2, hC, c1, c2, hR⟩ := h
  refine run_is_bridge rfl ?_
  have ne : cmpop .ne (.str (Str.ofString "bridge")) (.str (Str.ofString "bridge")) st = some false := by
    show some (!decide (Str.ofString "bridge" = Str.ofString "bridge")) = _
    simp
  simp [b_is_bridge, Gat_lt]
  refine is_row_tup ?_
  simp [ne]
  rw [rest_at]
  simp [Gat_lt, g_MOST_ARCHES]
  refine is_between_tup (by omega) (by omega) ?_
  simp
  refine all_true (by omega) (fun x hx acc ha => ?_) ?_
  · rw [ok_lcS]
    simp [Gat_lt]
    refine is_arch_ok (hA x hx) ?_
    simp; omega
  simp only [lst_s0, Option.bind_some, bools_true, all_id, ok_some, seq_s0]
  simp
  rw [rest_at]
  simp [Gat_lt]
  refine is_row_tup ?_
  have e1 : decide ((Ps.length : Int) = (As.length : Int) - 1) = true := by simp; omega
  rw [e1]
  simp
  refine all_true (by omega) (fun x hx acc ha => ?_) ?_
  · rw [ok_lcS]
    simp [Gat_lt]
    refine is_pier_ok (hP x hx) ?_
    simp; omega
  simp only [lst_s0, Option.bind_some, bools_true, all_id, ok_some, seq_s0]
  simp
  rw [rest_at]
  simp [Gat_lt]
  refine stonesin_ok hA hP (by omega) (by omega) fun Ss lS => ?_
  simp
  rw [rest_at]
  simp [Gat_lt, g_MOST_STATES]
  refine is_between_tup (by simp) (by simp) ?_
  simp
  refine is_load_ok (by simp) (by simp) trivial ?_
  simp
  rw [lS]
  refine is_load_ok hC c2 hR ?_
  simp [bools?]
  rw [rest_at]
  simp [Gat_lt]
  refine rising_ok (.inr (.inr ⟨_, _, rfl, ?_⟩)) ?_
  · funext st
    match Cs, c1 with
    | c :: r, _ => rfl
  · simpa using q
theorem want_bridge_ok {v : PV} (h : IsB v) (q : Q (v, st)) : Ok (F_want_bridge [v] st) Q := by
  refine run_want_bridge rfl ?_
  simp [b_want_bridge, Gat_lt]
  refine is_bridge_ok h ?_
  simp
  rw [rest_at]
  obtain ⟨As, Ps, Cs, rfl, hA, hP, hl, l2, hC, c1, c2, hR⟩ := h
  simp [all_lt (fun v => IsA.lt) hA, all_lt (fun v => IsP.lt) hP, all_lt (fun v => IsC.lt) hC]
  exact q
end
end LAW

end
section
set_option Elab.async false
set_option linter.all false
set_option maxRecDepth 100000
set_option maxHeartbeats 4000000
namespace LAW
open PySem MP
/-! ### values of any kind -/
def isiB : PV → Ty → Bool
  | .non, _ => false
  | .bl _, t => t == .int || t == .bool
  | .int _, t => t == .int
  | .str _, t => t == .str
  | .tup _, t => t == .tup
  | .ref _, _ => false
theorem isi_ok {v : PV} {t : Ty} {st : Sto} (h : v.lt st.length = true) : isi v t st = some (isiB v t) := by
  cases v with
  | ref n => exact isi_ref (by simpa [PV.lt] using h)
  | _ => rfl
mutual
/-- its numbers are not beyond all bounds -/
def smB : PV → Bool
  | .int i => decide (i.natAbs < 2 ^ 999)
  | .tup xs => smA xs
  | .non => true | .bl _ => true | .str _ => true | .ref _ => true
def smA : List PV → Bool
  | [] => true
  | x :: xs => smB x && smA xs
end
theorem smA_iff {xs : List PV} : smA xs = true ↔ ∀ x ∈ xs, smB x = true := by
  induction xs with
  | nil => simp [smA]
  | cons x xs ih => simp [smA, ih]
def rowB (v : PV) (m : Int) : Bool := match v with
  | .tup xs => decide ((xs.length : Int) = m)
  | _ => false
def intB (v : PV) : Bool := match v with
  | .int _ => true
  | _ => false
def qB (a b : PV) : Bool := match a, b with
  | .int n, .int d => decide (0 < d) && decide (Int.gcd n d = 1)
  | _, _ => false
def ratioB (v : PV) : Bool := match v with
  | .tup [a, b] => qB a b
  | _ => false
theorem beyond : ∃ B : Int, G0 k_BEYOND = some (.int B) ∧ (2 : Int) ^ 1000 < B := ⟨_, g_BEYOND, by decide +kernel⟩
def moveB (v : PV) : Bool := match v with
  | .tup rs => decide (rs.length = 3) && rs.all ratioB
  | _ => false
def mvB (m : Nat) (v : PV) : Bool := match v with
  | .tup ms => decide (ms.length = m) && ms.all moveB
  | _ => false
section
variable {st : Sto} {Q : PV × Sto → Prop} {v : PV}
theorem is_row_any {m : Int} (h : v.lt st.length = true) (q : Q (.bl (rowB v m), st)) : Ok (F_is_row [v, .int m] st) Q := by
  refine run_is_row rfl ?_
  simp [b_is_row, isi_ok h]
  cases v <;> simp [isiB] <;> exact q
theorem is_integer_any (h : v.lt st.length = true) (q : Q (.bl (intB v), st)) : Ok (F_is_integer [v] st) Q := by
  refine run_is_integer rfl ?_
  simp [b_is_integer, isi_ok h]
  cases v <;> simp [isiB] <;> exact q
theorem small_lt {i : Int} (h : i.natAbs < 2 ^ 999) : ∀ B : Int, 2 ^ 999 < B → i < B ∧ -B < i := fun B hB => by
  have : (i.natAbs : Int) < 2 ^ 999 := by exact_mod_cast h
  omega
theorem is_ratio_any (h : v.lt st.length = true) (hs : smB v = true) (q : Q (.bl (ratioB v), st)) : Ok (F_is_ratio [v] st) Q := by
  refine run_is_ratio rfl ?_
  simp [b_is_ratio, Gat_lt]
  refine is_row_any h ?_
  simp
  refine ⟨fun hr => ?_, fun hr => ?_⟩
  · have : ratioB v = false := by
      match v, hr with
      | .tup [], _ => rfl
      | .tup [_], _ => rfl
      | .tup (_ :: _ :: _ :: _), _ => rfl
      | .non, _ => rfl
      | .bl _, _ => rfl
      | .int _, _ => rfl
      | .str _, _ => rfl
      | .ref _, _ => rfl
      | .tup [_, _], hr => simp [rowB] at hr
    rw [this] at q
    exact q
  · obtain ⟨a, b, rfl⟩ : ∃ a b, v = .tup [a, b] := by
      match v, hr with
      | .tup [a, b], _ => exact ⟨a, b, rfl⟩
      | .tup (_ :: _ :: _ :: r), hr => simp [rowB] at hr; omega
      | .tup [], hr => simp [rowB] at hr
      | .tup [_], hr => simp [rowB] at hr
    simp at h
    simp [smB, smA] at hs
    simp
    refine is_integer_any h.1 ?_
    simp
    refine ⟨fun ha => ?_, fun ha => ?_⟩
    · have : ratioB (.tup [a, b]) = false := by cases a <;> simp_all [intB, ratioB, qB]
      rw [this] at q
      exact q
    refine is_integer_any h.2 ?_
    simp
    refine ⟨fun hb => ?_, fun hb => ?_⟩
    · have : ratioB (.tup [a, b]) = false := by cases a <;> cases b <;> simp_all [intB, ratioB, qB]
      rw [this] at q
      exact q
    obtain ⟨n, rfl⟩ : ∃ n, a = .int n := by cases a <;> simp_all [intB]
    obtain ⟨d, rfl⟩ : ∃ d, b = .int d := by cases b <;> simp_all [intB]
    obtain ⟨B, hB, hB2⟩ := beyond
    rw [rest_at]
    simp [hB]
    simp only [smB, decide_eq_true_eq] at hs
    have b1 := small_lt hs.1 B (Int.lt_trans (by decide +kernel) hB2)
    have b2 := small_lt hs.2 B (Int.lt_trans (by decide +kernel) hB2)
    refine ⟨fun h0 => ⟨fun _ => ⟨fun _ => ⟨fun _ => ?_, fun z => absurd z (by omega)⟩, fun z => absurd z (by omega)⟩, fun z => absurd z (by omega)⟩, fun h0 => ?_⟩
    · have e : ratioB (.tup [.int n, .int d]) = decide (((Int.gcd n d : Nat) : Int) = 1) := by
        show (decide (0 < d) && decide (Int.gcd n d = 1)) = _
        rw [decide_eq_true h0, Bool.true_and]
        exact decide_eq_decide.mpr (by omega)
      rw [e] at q
      exact q
    · have e : ratioB (.tup [.int n, .int d]) = false := by
        show (decide (0 < d) && decide (Int.gcd n d = 1)) = false
        rw [decide_eq_false (by omega), Bool.false_and]
      rw [e] at q
      exact q
theorem all_map {α : Type} {f : α → Bool} {xs : List α} : (xs.map f).all id = xs.all f := by
  induction xs with
  | nil => rfl
  | cons x xs ih => simp
theorem is_move_any (h : v.lt st.length = true) (hs : smB v = true) (q : Q (.bl (moveB v), st)) : Ok (F_is_move [v] st) Q := by
  refine run_is_move rfl ?_
  simp [b_is_move, Gat_lt]
  refine is_row_any h ?_
  simp
  refine ⟨fun hr => ?_, fun hr => ?_⟩
  · obtain ⟨rs, rfl⟩ : ∃ rs, v = .tup rs := by cases v <;> simp_all [rowB]
    have hr' : rs.length = 3 := by simp [rowB] at hr; omega
    simp [smB] at h hs
    rw [ltA_iff] at h
    rw [smA_iff] at hs
    simp
    refine lc_pure (fun x => .bl (ratioB x)) (by simp) (by simpa using (by omega)) (fun x hx acc ha => ?_) ?_
    · rw [ok_lcS]
      simp [Gat_lt]
      refine is_ratio_any (PV.lt_mono (by simp) (h x hx)) (hs x hx) ?_
      simp; omega
    · simp only [List.nil_append, lst_s0, Option.bind_some, bools_map, ok_some, seq_s0, all_map]
      simp
      have e : moveB (.tup rs) = rs.all ratioB := by
        show (decide (rs.length = 3) && rs.all ratioB) = _
        rw [decide_eq_true hr', Bool.true_and]
      rw [e] at q
      exact q
  · have e : moveB v = false := by
      cases v <;> simp_all [rowB, moveB]
      omega
    rw [e] at q
    exact q
end
end LAW

end
section
set_option Elab.async false
set_option linter.all false
set_option maxRecDepth 100000
set_option maxHeartbeats 4000000
/-! ratios as rational numbers -/
namespace LAW
open PySem MP
/-- a ratio -/
def rq (r : Rat) : PV := mkR r.num r.den
theorem rN_num {n u : Int} (hu : u ≠ 0) : rN n u = ((n : Rat) / u).num := by
  rw [← Rat.divInt_eq_div, Rat.num_divInt]
  unfold rN
  rw [Int.gcd_comm]
  by_cases h : u < 0
  · rw [if_pos h, Int.sign_eq_neg_one_of_neg h, Int.neg_one_mul]
  · rw [if_neg h, Int.sign_eq_one_of_pos (by omega), Int.one_mul]
theorem rD_num {n u : Int} (hu : u ≠ 0) : rD n u = (((n : Rat) / u).den : Int) := by
  rw [← Rat.divInt_eq_div, Rat.den_divInt]
  unfold rD
  rw [if_neg hu, Int.gcd_comm]
  rfl
/-- r is n over D, n not beyond N -/
def Rd (D N : Nat) (r : Rat) : Prop := ∃ n : Int, r = (n : Rat) / (D : Nat) ∧ n.natAbs ≤ N
section
variable {D E N M : Nat} {r s : Rat}
theorem cast_ne (h : 0 < D) : ((D : Nat) : Rat) ≠ 0 := by
  intro e
  rw [Rat.natCast_eq_zero_iff] at e
  omega
theorem Rd.add (hD : 0 < D) (a : Rd D N r) (b : Rd D M s) : Rd D (N + M) (r + s) := by
  obtain ⟨n, rfl, h1⟩ := a
  obtain ⟨m, rfl, h2⟩ := b
  refine ⟨n + m, ?_, by omega⟩
  have := cast_ne hD
  rw [Rat.intCast_add]
  grind
theorem Rd.mul (hD : 0 < D) (hE : 0 < E) (a : Rd D N r) (b : Rd E M s) : Rd (D * E) (N * M) (r * s) := by
  obtain ⟨n, rfl, h1⟩ := a
  obtain ⟨m, rfl, h2⟩ := b
  refine ⟨n * m, ?_, by rw [Int.natAbs_mul]; exact Nat.mul_le_mul h1 h2⟩
  have := cast_ne hD
  have := cast_ne hE
  rw [Rat.intCast_mul, Rat.natCast_mul]
  grind
theorem Rd.neg (a : Rd D N r) : Rd D N (-r) := by
  obtain ⟨n, rfl, h1⟩ := a
  exact ⟨-n, by rw [Rat.intCast_neg]; grind, by omega⟩
theorem Rd.int {i : Int} (h : i.natAbs ≤ N) : Rd 1 N (i : Rat) := ⟨i, by grind, h⟩
theorem Rd.up {k : Nat} (hk : 0 < k) (a : Rd D N r) : Rd (D * k) (N * k) r := by
  obtain ⟨n, rfl, h1⟩ := a
  refine ⟨n * k, ?_, by rw [Int.natAbs_mul]; exact Nat.mul_le_mul_right k h1⟩
  have := cast_ne hk
  rw [Rat.intCast_mul, Rat.natCast_mul, Rat.intCast_natCast]
  by_cases h : ((D : Nat) : Rat) = 0
  · rw [h]; grind
  · grind
theorem Rd.mono (h : N ≤ M) (a : Rd D N r) : Rd D M r := by
  obtain ⟨n, e, h1⟩ := a
  exact ⟨n, e, by omega⟩
theorem Rd.num (hD : 0 < D) (a : Rd D N r) : r.num.natAbs ≤ N := by
  obtain ⟨n, rfl, h1⟩ := a
  rw [← Rat.mkRat_eq_div, Rat.num_mkRat, if_neg (by omega)]
  refine Nat.le_trans ?_ h1
  exact Int.natAbs_ediv_le_natAbs _ _
theorem Rd.den (hD : 0 < D) (a : Rd D N r) : r.den ≤ D := by
  obtain ⟨n, rfl, h1⟩ := a
  rw [← Rat.mkRat_eq_div, Rat.den_mkRat, if_neg (by omega)]
  exact Nat.div_le_self _ _
end

/-- not too many digits to go on with -/
structure Rb (r : Rat) : Prop where
  n : r.num.natAbs < 2 ^ 500
  d : r.den < 2 ^ 500
theorem Rd.rb {D N : Nat} {r : Rat} (hD : 0 < D) (a : Rd D N r) (h1 : N < 2 ^ 500) (h2 : D < 2 ^ 500) : Rb r := ⟨Nat.lt_of_le_of_lt (a.num hD) h1, Nat.lt_of_le_of_lt (a.den hD) h2⟩
theorem Rb.int {i : Int} (h : i.natAbs < 2 ^ 500) : Rb (i : Rat) := ⟨by simpa using h, by rw [Rat.den_intCast]; decide⟩
theorem Rb.neg {r : Rat} (h : Rb r) : Rb (-r) := ⟨by simpa using h.n, by simpa using h.d⟩
theorem rq_made {n u : Int} (hu : u ≠ 0) : mkR (rN n u) (rD n u) = rq ((n : Rat) / u) := by
  unfold rq
  rw [rN_num hu, rD_num hu]
theorem rq_int (i : Int) : rq (i : Rat) = mkR i 1 := by
  unfold rq
  rw [Rat.num_intCast, Rat.den_intCast]; rfl
theorem den_ne (r : Rat) : ((r.den : Nat) : Int) ≠ 0 := by have := r.den_nz; omega
theorem num_eq (r : Rat) : (r.num : Rat) = r * ((r.den : Int) : Rat) := by
  have h := Rat.num_divInt_den r
  rw [Rat.divInt_eq_div] at h
  have hd : (((r.den : Nat) : Int) : Rat) ≠ 0 := fun e => den_ne r (by rw [Rat.intCast_eq_zero_iff] at e; exact e)
  grind
theorem denq_ne (r : Rat) : ((r.den : Int) : Rat) ≠ 0 := fun e => den_ne r (by rw [Rat.intCast_eq_zero_iff] at e; exact e)
section
variable {r s : Rat} {st : Sto} {Q : PV × Sto → Prop}
theorem q_made {n u : Int} (hu : u ≠ 0) (sn : Sm n) (su : Sm u) (q : Q (rq ((n : Rat) / u), st)) : Ok (F__law_made [.int n, .int u] st) Q :=
  made_ok hu sn su (by rw [rq_made hu]; exact q)
theorem q_plus (hr : Rb r) (hs : Rb s) (q : Q (rq (r + s), st)) : Ok (F__law_plus [rq r, rq s] st) Q := by
  refine plus_ok (den_ne r) (den_ne s) hr.n (by simpa [Bd] using hr.d) hs.n (by simpa [Bd] using hs.d) ?_
  rw [rq_made (Int.mul_ne_zero (den_ne r) (den_ne s))]
  have e : (((r.num * s.den + s.num * r.den : Int)) : Rat) / ((r.den * s.den : Int) : Rat) = r + s := by
    rw [Rat.intCast_add, Rat.intCast_mul, Rat.intCast_mul, Rat.intCast_mul, num_eq r, num_eq s]
    have := denq_ne r
    have := denq_ne s
    grind
  rw [e]; exact q
theorem q_by (hr : Rb r) (hs : Rb s) (q : Q (rq (r * s), st)) : Ok (F__law_by [rq r, rq s] st) Q := by
  refine by_ok (den_ne r) (den_ne s) hr.n (by simpa [Bd] using hr.d) hs.n (by simpa [Bd] using hs.d) ?_
  rw [rq_made (Int.mul_ne_zero (den_ne r) (den_ne s))]
  have e : (((r.num * s.num : Int)) : Rat) / ((r.den * s.den : Int) : Rat) = r * s := by
    rw [Rat.intCast_mul, Rat.intCast_mul, num_eq r, num_eq s]
    have := denq_ne r
    have := denq_ne s
    grind
  rw [e]; exact q
theorem q_minus (hr : Rb r) (hs : Rb s) (q : Q (rq (r - s), st)) : Ok (F__law_minus [rq r, rq s] st) Q := by
  refine minus_ok (den_ne r) (den_ne s) hr.n (by simpa [Bd] using hr.d) hs.n (by simpa [Bd] using hs.d) ?_
  rw [rq_made (Int.mul_ne_zero (den_ne r) (den_ne s))]
  have e : (((r.num * s.den + -s.num * r.den : Int)) : Rat) / ((r.den * s.den : Int) : Rat) = r - s := by
    rw [Rat.intCast_add, Rat.intCast_mul, Rat.intCast_mul, Rat.intCast_mul, Rat.intCast_neg, num_eq r, num_eq s]
    have := denq_ne r
    have := denq_ne s
    grind
  rw [e]; exact q
end
end LAW

end
section
set_option Elab.async false
set_option linter.all false
set_option maxRecDepth 100000
set_option maxHeartbeats 4000000
/-! bridges with types -/
namespace LAW
open PySem MP
theorem lc_pureM {α : Type} {w : List (Nat × SO)} {st : Sto} {Q : Sto → Prop} {step : PV → Sto → Option Sto} (g f : α → PV) (hw : ∀ p ∈ w, p.1 < st.length ∧ st[p.1]? = some p.2) : ∀ {as : List α} {acc : List PV}, acc.length + as.length ≤ 1000000 →
    (∀ a ∈ as, ∀ acc : List PV, acc.length < 1000000 → Ok (step (g a) (st ++ [.lst acc])) (fun s => s = st ++ [.lst (acc ++ [f a])])) → Q (st ++ [.lst (acc ++ as.map f)]) → Ok (lcL w step (as.map g) (st ++ [.lst acc])) Q
  | [], acc, hl, hx, q => by simpa using q
  | a :: as, acc, hl, hx, q => by
    rw [List.map_cons, lc_cons]
    rw [List.length_cons] at hl
    refine (hx a (by simp) acc (by omega)).mono ?_
    rintro _ rfl
    refine ⟨fun p hp => ?_, lc_pureM g f hw (by simp; omega) (fun y hy => hx y (by simp [hy])) (by simpa using q)⟩
    rw [List.getElem?_append_left (hw p hp).1]
    exact (hw p hp).2
structure Jt where
  x0 : Int
  y0 : Int
  x1 : Int
  y1 : Int
structure Sn where
  x : Int
  w : Int
structure Ar where
  js : List Jt
  ss : List Sn
structure Pr where
  h : Sn
  js : List Jt
  ss : List Sn
structure Ct where
  i : Nat
  x : Int
  w : Int
structure Br where
  as : List Ar
  ps : List Pr
  cs : List Ct
def jv (j : Jt) : PV := .tup [.tup [.int j.x0, .int j.y0], .tup [.int j.x1, .int j.y1]]
def sv (s : Sn) : PV := .tup [.int s.x, .int s.w]
def av (a : Ar) : PV := .tup [.tup (a.js.map jv), .tup (a.ss.map sv)]
def piv (p : Pr) : PV := .tup [sv p.h, .tup (p.js.map jv), .tup (p.ss.map sv)]
def cv (c : Ct) : PV := .tup [.int c.i, .int c.x, .int c.w]
def bv (b : Br) : PV := .tup [.str "bridge", .tup (b.as.map av), .tup (b.ps.map piv), .tup [.tup [], .tup (b.cs.map cv)]]
structure Jok (j : Jt) : Prop where
  b0 : -999 ≤ j.x0 ∧ j.x0 ≤ 999
  b1 : -999 ≤ j.y0 ∧ j.y0 ≤ 999
  b2 : -999 ≤ j.x1 ∧ j.x1 ≤ 999
  b3 : -999 ≤ j.y1 ∧ j.y1 ≤ 999
  ne : j.x0 ≠ j.x1 ∨ j.y0 ≠ j.y1
structure Sok (s : Sn) : Prop where
  bx : -999 ≤ s.x ∧ s.x ≤ 999
  bw : 1 ≤ s.w ∧ s.w ≤ 999
structure Aok (a : Ar) : Prop where
  j : ∀ j ∈ a.js, Jok j
  s : ∀ s ∈ a.ss, Sok s
  l : a.js.length = a.ss.length + 1
  l1 : 1 ≤ a.ss.length
  l3 : a.ss.length ≤ 3
structure Pok (p : Pr) : Prop where
  h : Sok p.h
  j : ∀ j ∈ p.js, Jok j
  s : ∀ s ∈ p.ss, Sok s
  l : p.js.length = p.ss.length + 1
  l2 : p.ss.length ≤ 2
/-- all stones, by their numbers -/
def stonesOf : List Ar → List Pr → List Sn
  | [], _ => []
  | a :: as, [] => a.ss ++ stonesOf as []
  | a :: as, p :: ps => a.ss ++ (p.h :: p.ss) ++ stonesOf as ps
def jointsOf : List Ar → List Pr → List Jt
  | [], _ => []
  | a :: as, [] => a.js ++ jointsOf as []
  | a :: as, p :: ps => a.js ++ p.js ++ jointsOf as ps
structure Cok (n : Nat) (c : Ct) : Prop where
  i : c.i < n
  x : 0 ≤ c.x ∧ c.x ≤ 999
  w : 1 ≤ c.w ∧ c.w ≤ 999
structure Bok (b : Br) : Prop where
  a : ∀ a ∈ b.as, Aok a
  p : ∀ p ∈ b.ps, Pok p
  l : b.ps.length + 1 = b.as.length
  l3 : b.as.length ≤ 3
  c : ∀ c ∈ b.cs, Cok (stonesOf b.as b.ps).length c
  c1 : 1 ≤ b.cs.length
  c2 : b.cs.length ≤ 2
  r : Rise (b.cs.map cv)
theorem lift {α : Type} {P : PV → Prop} {f : α → PV} {R : α → Prop} (h : ∀ v, P v → ∃ a, v = f a ∧ R a) : ∀ {xs : List PV}, (∀ x ∈ xs, P x) → ∃ as : List α, xs = as.map f ∧ ∀ a ∈ as, R a
  | [], _ => ⟨[], rfl, by simp⟩
  | x :: xs, hx => by
    obtain ⟨a, e, r⟩ := h x (hx x (by simp))
    obtain ⟨as, es, rs⟩ := lift h (xs := xs) fun y hy => hx y (by simp [hy])
    refine ⟨a :: as, by rw [e, es]; rfl, fun b hb => ?_⟩
    rcases List.mem_cons.mp hb with z | z
    · rw [z]; exact r
    · exact rs b z
theorem IsJ.typed {v : PV} (h : IsJ v) : ∃ j, v = jv j ∧ Jok j := by
  obtain ⟨x0, y0, x1, y1, e, h0, h1, h2, h3, h4⟩ := h
  exact ⟨⟨x0, y0, x1, y1⟩, e, ⟨h0, h1, h2, h3, h4⟩⟩
theorem IsS.typed {v : PV} (h : IsS v) : ∃ s, v = sv s ∧ Sok s := by
  obtain ⟨x, w, e, h0, h1⟩ := h
  exact ⟨⟨x, w⟩, e, ⟨h0, h1⟩⟩
theorem IsA.typed {v : PV} (h : IsA v) : ∃ a, v = av a ∧ Aok a := by
  obtain ⟨Js, Ss, e, hj, hs, l, l1, l2⟩ := h
  obtain ⟨js, rfl, oj⟩ := lift (fun _ => IsJ.typed) hj
  obtain ⟨ss, rfl, os⟩ := lift (fun _ => IsS.typed) hs
  simp at l l1 l2
  exact ⟨⟨js, ss⟩, e, ⟨oj, os, l, by show 1 ≤ ss.length; omega, l2⟩⟩
theorem IsP.typed {v : PV} (h : IsP v) : ∃ p, v = piv p ∧ Pok p := by
  obtain ⟨hd, Js, Ss, e, hh, hj, hs, l, l2⟩ := h
  obtain ⟨h, rfl, oh⟩ := hh.typed
  obtain ⟨js, rfl, oj⟩ := lift (fun _ => IsJ.typed) hj
  obtain ⟨ss, rfl, os⟩ := lift (fun _ => IsS.typed) hs
  simp at l l2
  exact ⟨⟨h, js, ss⟩, e, ⟨oh, oj, os, l, l2⟩⟩
theorem cnt_zero (As Ps : List PV) : cnt As Ps 0 = 0 := rfl
theorem cnt_cons (A : PV) (As Ps : List PV) : ∀ i, cnt (A :: As) Ps (i + 1) = nA A + (Ps[0]?.elim 0 nP) + cnt As (Ps.drop 1) i
  | 0 => by simp [cnt]
  | i + 1 => by
    rw [cnt, cnt_cons A As Ps i, cnt]
    have e : (Ps.drop 1)[i]? = Ps[i + 1]? := by rw [List.getElem?_drop, Nat.add_comm]
    rw [e]
    simp
    omega
theorem cnt_none (Ps : List PV) : ∀ (As : List PV), Ps = [] → cnt As Ps As.length = (As.map nA).sum
  | [], h => rfl
  | A :: As, h => by
    subst h
    rw [List.length_cons, cnt_cons]
    have := cnt_none [] As rfl
    simp at this ⊢
    rw [this]
theorem stones_none : ∀ as : List Ar, (stonesOf as []).length = ((as.map av).map nA).sum
  | [] => rfl
  | a :: as => by
    have := stones_none as
    simp [stonesOf, this, av, nA]
theorem cnt_typed : ∀ {as : List Ar} {ps : List Pr}, cnt (as.map av) (ps.map piv) as.length = (stonesOf as ps).length
  | [], ps => rfl
  | a :: as, [] => by
    have := cnt_none [] ((a :: as).map av) rfl
    rw [List.length_map] at this
    rw [stones_none]
    exact this
  | a :: as, p :: ps => by
    rw [List.length_cons, List.map_cons, cnt_cons, List.map_cons]
    have := cnt_typed (as := as) (ps := ps)
    simp [this, stonesOf, av, nA, piv, nP]
    omega
theorem IsB.typed {v : PV} (h : IsB v) : ∃ b, v = bv b ∧ Bok b := by
  obtain ⟨As, Ps, Cs, e, hA, hP, hl, l2, hC, c1, c2, hR⟩ := h
  obtain ⟨as, rfl, oa⟩ := lift (fun _ => IsA.typed) hA
  obtain ⟨ps, rfl, op⟩ := lift (fun _ => IsP.typed) hP
  simp at hl l2
  rw [List.length_map, cnt_typed] at hC
  obtain ⟨cs, rfl, oc⟩ := lift (f := cv) (R := Cok (stonesOf as ps).length) (fun v (h : IsC _ v) => by
    obtain ⟨i, x, w, e, h0, h1, h2⟩ := h
    refine ⟨⟨i.toNat, x, w⟩, ?_, ⟨?_, h1, h2⟩⟩
    · rw [e]; unfold cv; simp; omega
    · show i.toNat < _; omega) hC
  simp at c1 c2
  exact ⟨⟨as, ps, cs⟩, e, ⟨oa, op, hl, by show as.length ≤ 3; omega, oc, by show 1 ≤ cs.length; omega, c2, hR⟩⟩
end LAW

end
section
set_option Elab.async false
set_option linter.all false
set_option maxRecDepth 100000
set_option maxHeartbeats 4000000
/-! bridges' parts, one behind another -/
namespace LAW
open PySem MP
structure Ln where
  pier : Bool
  at_ : Nat
  js : List Jt
  ss : List Sn
  j0 : Nat
  s0 : Nat
def lnsFrom : List Ar → List Pr → Nat → Nat → Nat → List Ln
  | [], _, _, _, _ => []
  | a :: as, [], k, j, s => ⟨false, k, a.js, a.ss, j, s⟩ :: lnsFrom as [] (k + 1) (j + a.js.length) (s + a.ss.length)
  | a :: as, p :: ps, k, j, s => ⟨false, k, a.js, a.ss, j, s⟩ :: ⟨true, k, p.js, p.h :: p.ss, j + a.js.length, s + a.ss.length⟩ ::
      lnsFrom as ps (k + 1) (j + a.js.length + p.js.length) (s + a.ss.length + 1 + p.ss.length)
def lns (b : Br) : List Ln := lnsFrom b.as b.ps 0 0 0
def kd (p : Bool) : Str := if p then "pier" else "arch"
def lnv (l : Ln) : PV := .tup [.str (kd l.pier), .int l.at_, .tup (l.js.map jv), .tup (l.ss.map sv), .int l.j0, .int l.s0]
def lnv4 (l : Ln) : PV := .tup [.str (kd l.pier), .tup (l.js.map jv), .int l.j0, .int l.s0]
theorem jv_lt (j : Jt) (k : Nat) : (jv j).lt k = true := by simp [jv]
theorem sv_lt (s : Sn) (k : Nat) : (sv s).lt k = true := by simp [sv]
theorem map_lt {α : Type} {f : α → PV} (h : ∀ a k, (f a).lt k = true) (xs : List α) (k : Nat) : PV.ltA k (xs.map f) = true := by
  rw [ltA_iff]
  intro x hx
  obtain ⟨a, _, rfl⟩ := List.mem_map.mp hx
  exact h a k
theorem lnv_lt (l : Ln) (k : Nat) : (lnv l).lt k = true := by simp [lnv, map_lt jv_lt, map_lt sv_lt]
theorem lnv4_lt (l : Ln) (k : Nat) : (lnv4 l).lt k = true := by simp [lnv4, map_lt jv_lt]
theorem lns_len : ∀ (as : List Ar) (ps : List Pr) (k j s : Nat), (lnsFrom as ps k j s).length ≤ as.length + ps.length
  | [], _, _, _, _ => by simp [lnsFrom]
  | a :: as, [], k, j, s => by
    have := lns_len as [] (k + 1) (j + a.js.length) (s + a.ss.length)
    simp [lnsFrom] at this ⊢
    omega
  | a :: as, p :: ps, k, j, s => by
    have := lns_len as ps (k + 1) (j + a.js.length + p.js.length) (s + a.ss.length + 1 + p.ss.length)
    simp [lnsFrom] at this ⊢
    omega
theorem drop_some {α : Type} {xs : List α} {i : Nat} {x : α} (h : xs[i]? = some x) : xs.drop i = x :: xs.drop (i + 1) := by
  obtain ⟨hl, rfl⟩ := List.getElem?_eq_some_iff.mp h
  exact List.drop_eq_getElem_cons hl
section
variable {b : Br} {st : Sto} {Q : PV × Sto → Prop}
theorem parts_okT (hb : Bok b) (q : Q (.ref st.length, st ++ [.lst ((lns b).map lnv)])) : Ok (F_parts_in [bv b] st) Q := by
  refine run_parts_in rfl ?_
  have hlen := lns_len b.as b.ps 0 0 0
  have hl := hb.l
  have hl3 := hb.l3
  simp [b_parts_in, rest_at, bv]
  obtain ⟨I, hI⟩ : ∃ I : Nat → Sl → Sto → Prop, I = fun k σ S => ∃ (acc : List Ln) (j t : Nat) (s4 s5 s6 s7 s8 s9 : Option PV), Own st S (acc.map lnv) ∧ acc ++ lnsFrom (b.as.drop k) (b.ps.drop k) k j t = lns b ∧
    σ = [some (bv b), some (.ref st.length), some (.int j), some (.int t), s4, s5, s6, s7, s8, s9] := ⟨_, rfl⟩
  refine for_rule (k := 0) I (by rw [hI]; exact ⟨[], 0, 0, _, _, _, _, _, _, Own.first, rfl, rfl⟩) ?_ ?_
  · intro i e σ S he hi0
    rw [hI] at hi0
    obtain ⟨acc, j, t, s4, s5, s6, s7, s8, s9, ow, hacc, rfl⟩ := hi0
    obtain ⟨x, hx, rfl⟩ := numbered_get he
    rw [List.getElem?_map, Option.map_eq_some_iff] at hx
    obtain ⟨a, ha, rfl⟩ := hx
    simp only [Nat.zero_add] at hacc ⊢
    have hal : acc.length ≤ 6 := by
      have := congrArg List.length hacc
      rw [List.length_append] at this
      unfold lns at this
      omega
    rw [drop_some ha] at hacc
    rw [ok_lpS]
    simp [av, bv, lst_ref ow.at_, app_ok ow.at_]
    refine ⟨by omega, ?_⟩
    have e1 : PV.tup [.str "arch", .int i, .tup (a.js.map jv), .tup (a.ss.map sv), .int j, .int t] = lnv ⟨false, i, a.js, a.ss, j, t⟩ := rfl
    rw [e1]
    have ow2 := ow.put (acc' := acc.map lnv ++ [lnv ⟨false, i, a.js, a.ss, j, t⟩])
    generalize S.set st.length _ = S2 at ow2
    rw [rest_at]
    simp
    rw [rest_at]
    simp
    refine ⟨fun hip => ?_, fun hip => ?_⟩
    · have hp : b.ps[i]? = some b.ps[i] := List.getElem?_eq_getElem hip
      generalize b.ps[i] = p at hp
      have ix : L2.atI (b.ps.map piv) (i : Int) = some (piv p) := by rw [at_nat rfl (by simpa using hip), List.getElem?_map, hp]; rfl
      rw [drop_some hp] at hacc
      simp [ix, piv]
      rw [rest_at]
      simp [lst_ref ow2.at_, app_ok ow2.at_]
      have hp2 := (hb.p p (List.mem_of_getElem? hp)).l2
      refine ⟨by omega, by omega, ?_⟩
      rw [rest_at]
      simp
      have e2 : PV.tup [.str "pier", .int i, .tup (p.js.map jv), .tup (sv p.h :: p.ss.map sv), .int (j + a.js.length), .int (t + a.ss.length)] = lnv ⟨true, i, p.js, p.h :: p.ss, j + a.js.length, t + a.ss.length⟩ := rfl
      rw [e2]
      rw [hI]
      refine ⟨acc ++ [⟨false, i, a.js, a.ss, j, t⟩, ⟨true, i, p.js, p.h :: p.ss, j + a.js.length, t + a.ss.length⟩], j + a.js.length + p.js.length, t + a.ss.length + 1 + p.ss.length, _, _, _, _, _, _, ?_, ?_, rfl⟩
      · have := ow2.put (acc' := acc.map lnv ++ [lnv ⟨false, i, a.js, a.ss, j, t⟩, lnv ⟨true, i, p.js, p.h :: p.ss, j + a.js.length, t + a.ss.length⟩])
        simpa using this
      · rw [← hacc, List.append_assoc]; rfl
    · have hp : b.ps.drop i = [] := List.drop_eq_nil_of_le (by omega)
      have hp1 : b.ps.drop (i + 1) = [] := List.drop_eq_nil_of_le (by omega)
      rw [hp] at hacc
      rw [hI]
      refine ⟨acc ++ [⟨false, i, a.js, a.ss, j, t⟩], j + a.js.length, t + a.ss.length, _, _, _, _, _, _, ?_, ?_, rfl⟩
      · simpa using ow2
      · rw [← hacc, List.append_assoc, hp1]; rfl
  · intro σ S hi0
    rw [hI] at hi0
    obtain ⟨acc, j, t, s4, s5, s6, s7, s8, s9, ow, hacc, rfl⟩ := hi0
    rw [numbered_len, Nat.zero_add, List.length_map, List.drop_length] at hacc
    have : acc = lns b := by
      rw [← hacc]; simp [lnsFrom]
    subst this
    simp [rest_at]
    rw [ow.ret (map_lt lnv_lt _ _)]
    exact q
theorem lines_okT (hb : Bok b) (q : Q (.ref st.length, st ++ [.lst ((lns b).map lnv4)])) : Ok (F__law_lines [bv b] st) Q := by
  refine run__law_lines rfl ?_
  have hlen := lns_len b.as b.ps 0 0 0
  have hl := hb.l
  have hl3 := hb.l3
  simp [b__law_lines, rest_at, bv]
  obtain ⟨I, hI⟩ : ∃ I : Nat → Sl → Sto → Prop, I = fun k σ S => ∃ (acc : List Ln) (j t : Nat) (s4 s5 s6 : Option PV), Own st S (acc.map lnv4) ∧ acc ++ lnsFrom (b.as.drop k) (b.ps.drop k) k j t = lns b ∧
    σ = [some (bv b), some (.ref st.length), some (.int j), some (.int t), s4, s5, s6] := ⟨_, rfl⟩
  refine for_rule (k := 0) I (by rw [hI]; exact ⟨[], 0, 0, _, _, _, Own.first, rfl, rfl⟩) ?_ ?_
  · intro i e σ S he hi0
    rw [hI] at hi0
    obtain ⟨acc, j, t, s4, s5, s6, ow, hacc, rfl⟩ := hi0
    obtain ⟨x, hx, rfl⟩ := numbered_get he
    rw [List.getElem?_map, Option.map_eq_some_iff] at hx
    obtain ⟨a, ha, rfl⟩ := hx
    simp only [Nat.zero_add] at hacc ⊢
    have hal : acc.length ≤ 6 := by
      have := congrArg List.length hacc
      rw [List.length_append] at this
      unfold lns at this
      omega
    rw [drop_some ha] at hacc
    rw [ok_lpS]
    simp [av, bv, lst_ref ow.at_, app_ok ow.at_]
    refine ⟨by omega, ?_⟩
    have e1 : PV.tup [.str "arch", .tup (a.js.map jv), .int j, .int t] = lnv4 ⟨false, i, a.js, a.ss, j, t⟩ := rfl
    rw [e1]
    have ow2 := ow.put (acc' := acc.map lnv4 ++ [lnv4 ⟨false, i, a.js, a.ss, j, t⟩])
    generalize S.set st.length _ = S2 at ow2
    rw [rest_at]
    simp
    rw [rest_at]
    simp
    refine ⟨fun hip => ?_, fun hip => ?_⟩
    · have hp : b.ps[i]? = some b.ps[i] := List.getElem?_eq_getElem hip
      generalize b.ps[i] = p at hp
      have ix : L2.atI (b.ps.map piv) (i : Int) = some (piv p) := by rw [at_nat rfl (by simpa using hip), List.getElem?_map, hp]; rfl
      rw [drop_some hp] at hacc
      simp [ix, piv, lst_ref ow2.at_, app_ok ow2.at_]
      have hp2 := (hb.p p (List.mem_of_getElem? hp)).l2
      refine ⟨by omega, ?_⟩
      rw [rest_at]
      simp [ix, piv]
      have e2 : PV.tup [.str "pier", .tup (p.js.map jv), .int (j + a.js.length), .int (t + a.ss.length)] = lnv4 ⟨true, i, p.js, p.h :: p.ss, j + a.js.length, t + a.ss.length⟩ := rfl
      rw [e2]
      rw [hI]
      refine ⟨acc ++ [⟨false, i, a.js, a.ss, j, t⟩, ⟨true, i, p.js, p.h :: p.ss, j + a.js.length, t + a.ss.length⟩], j + a.js.length + p.js.length, t + a.ss.length + 1 + p.ss.length, _, _, _, ?_, ?_, rfl⟩
      · have := ow2.put (acc' := acc.map lnv4 ++ [lnv4 ⟨false, i, a.js, a.ss, j, t⟩, lnv4 ⟨true, i, p.js, p.h :: p.ss, j + a.js.length, t + a.ss.length⟩])
        simpa using this
      · rw [← hacc, List.append_assoc]; rfl
    · have hp : b.ps.drop i = [] := List.drop_eq_nil_of_le (by omega)
      have hp1 : b.ps.drop (i + 1) = [] := List.drop_eq_nil_of_le (by omega)
      rw [hp] at hacc
      rw [hI]
      refine ⟨acc ++ [⟨false, i, a.js, a.ss, j, t⟩], j + a.js.length, t + a.ss.length, _, _, _, ?_, ?_, rfl⟩
      · simpa using ow2
      · rw [← hacc, List.append_assoc, hp1]; rfl
  · intro σ S hi0
    rw [hI] at hi0
    obtain ⟨acc, j, t, s4, s5, s6, ow, hacc, rfl⟩ := hi0
    rw [numbered_len, Nat.zero_add, List.length_map, List.drop_length] at hacc
    have : acc = lns b := by
      rw [← hacc]; simp [lnsFrom]
    subst this
    simp [rest_at]
    rw [ow.ret (map_lt lnv4_lt _ _)]
    exact q
end
end LAW

end
section
set_option Elab.async false
set_option linter.all false
set_option maxRecDepth 100000
set_option maxHeartbeats 4000000
/-! joints, stones -/
namespace LAW
open PySem MP
def jsOf (b : Br) : List Jt := (lns b).flatMap (·.js)
def ssOf (b : Br) : List Sn := (lns b).flatMap (·.ss)
theorem ret_own {st g : Sto} {acc : List PV} (h : PV.ltA st.length acc = true) : fin st.length (.ref st.length) (st ++ .lst acc :: g) = (.ref st.length, st ++ [.lst acc]) := by
  rw [fin_ref (Nat.le_refl _) (get_h0 rfl) (show (SO.lst acc).lt st.length = true from h), List.take_left' rfl]
@[simp] theorem set_h0 {st g : Sto} {a o : SO} : (st ++ a :: g).set st.length o = st ++ o :: g := by simp
@[simp] theorem set_h1 {st g : Sto} {p a o : SO} : (st ++ p :: a :: g).set (st.length + 1) o = st ++ p :: o :: g := by
  rw [List.set_append_right _ _ (by omega)]; simp
theorem flat_take {α β : Type} {f : α → List β} {xs : List α} {i : Nat} {x : α} (h : xs[i]? = some x) : (xs.take (i + 1)).flatMap f = (xs.take i).flatMap f ++ f x := by
  rw [List.take_succ, h]; simp
theorem lns_ok : ∀ {as : List Ar} {ps : List Pr}, (∀ a ∈ as, Aok a) → (∀ p ∈ ps, Pok p) → ∀ (k j s : Nat), ∀ l ∈ lnsFrom as ps k j s, (∀ x ∈ l.js, Jok x) ∧ (∀ x ∈ l.ss, Sok x) ∧ 1 ≤ l.js.length ∧ l.js.length ≤ 4 ∧ l.ss.length ≤ 3
  | [], _, _, _, _, _, _, l, h => by simp [lnsFrom] at h
  | a :: as, [], ha, hp, k, j, s, l, h => by
    simp only [lnsFrom, List.mem_cons] at h
    have A := ha a (by simp)
    rcases h with rfl | h
    · exact ⟨A.j, A.s, by show 1 ≤ a.js.length; have := A.l; omega, by show a.js.length ≤ 4; have := A.l; have := A.l3; omega, A.l3⟩
    · exact lns_ok (fun x hx => ha x (by simp [hx])) hp _ _ _ l h
  | a :: as, p :: ps, ha, hp, k, j, s, l, h => by
    simp only [lnsFrom, List.mem_cons] at h
    have A := ha a (by simp)
    have P := hp p (by simp)
    rcases h with rfl | rfl | h
    · exact ⟨A.j, A.s, by show 1 ≤ a.js.length; have := A.l; omega, by show a.js.length ≤ 4; have := A.l; have := A.l3; omega, A.l3⟩
    · refine ⟨P.j, fun x hx => ?_, by show 1 ≤ p.js.length; have := P.l; omega, by show p.js.length ≤ 4; have := P.l; have := P.l2; omega, by show (p.h :: p.ss).length ≤ 3; have := P.l2; simp; omega⟩
      rcases List.mem_cons.mp hx with z | z
      · rw [z]; exact P.h
      · exact P.s x z
    · exact lns_ok (fun x hx => ha x (by simp [hx])) (fun x hx => hp x (by simp [hx])) _ _ _ l h
theorem Bok.ln {b : Br} (h : Bok b) : ∀ l ∈ lns b, (∀ x ∈ l.js, Jok x) ∧ (∀ x ∈ l.ss, Sok x) ∧ 1 ≤ l.js.length ∧ l.js.length ≤ 4 ∧ l.ss.length ≤ 3 := lns_ok h.a h.p 0 0 0
theorem Bok.lns5 {b : Br} (h : Bok b) : (lns b).length ≤ 5 := by
  have := lns_len b.as b.ps 0 0 0
  have := h.l
  have := h.l3
  show (lnsFrom b.as b.ps 0 0 0).length ≤ 5
  omega
theorem flat_le {α β : Type} {f : α → List β} {m : Nat} : ∀ {xs : List α}, (∀ x ∈ xs, (f x).length ≤ m) → (xs.flatMap f).length ≤ xs.length * m
  | [], _ => by simp
  | x :: xs, h => by
    have := flat_le (xs := xs) fun y hy => h y (by simp [hy])
    have := h x (by simp)
    simp [Nat.add_mul]
    simp at *
    omega
theorem Bok.js20 {b : Br} (h : Bok b) : (jsOf b).length ≤ 20 := by
  have := flat_le (f := fun l : Ln => l.js) (m := 4) (xs := lns b) fun l hl => (h.ln l hl).2.2.2.1
  have := h.lns5
  show ((lns b).flatMap _).length ≤ 20
  omega
theorem Bok.ss15 {b : Br} (h : Bok b) : (ssOf b).length ≤ 15 := by
  have := flat_le (f := fun l : Ln => l.ss) (m := 3) (xs := lns b) fun l hl => (h.ln l hl).2.2.2.2
  have := h.lns5
  show ((lns b).flatMap _).length ≤ 15
  omega
theorem part_le {α β : Type} {f : α → List β} {xs : List α} (i : Nat) : ((xs.take i).flatMap f).length ≤ (xs.flatMap f).length := by
  have : xs.flatMap f = (xs.take i).flatMap f ++ (xs.drop i).flatMap f := by rw [← List.flatMap_append, List.take_append_drop]
  rw [this, List.length_append]; omega
section
variable {b : Br} {st : Sto} {Q : PV × Sto → Prop}
theorem law_joints_okT (hb : Bok b) (q : Q (.ref st.length, st ++ [.lst ((jsOf b).map jv)])) : Ok (F__law_joints [bv b] st) Q := by
  refine run__law_joints rfl ?_
  simp [b__law_joints, rest_at, Gat_lt]
  refine lines_okT hb ?_
  simp
  obtain ⟨I, hI⟩ : ∃ I : Nat → Sl → Sto → Prop, I = fun k σ S => ∃ (g : Sto) (s2 s3 s4 s5 : Option PV), S = st ++ .lst ((((lns b).take k).flatMap (·.js)).map jv) :: .lst ((lns b).map lnv4) :: g ∧
    σ = [some (bv b), some (.ref st.length), s2, s3, s4, s5] := ⟨_, rfl⟩
  refine for_rule (k := 0) I (by rw [hI]; exact ⟨[], _, _, _, _, rfl, rfl⟩) ?_ ?_
  · intro i e σ S he hi0
    rw [hI] at hi0
    obtain ⟨g, s2, s3, s4, s5, rfl, rfl⟩ := hi0
    rw [List.getElem?_map, Option.map_eq_some_iff] at he
    obtain ⟨l, hl, rfl⟩ := he
    have hlm := hb.ln l (List.mem_of_getElem? hl)
    have h20 := hb.js20
    have hp := part_le (f := fun l : Ln => l.js) (xs := lns b) i
    have hq : (((lns b).take i).flatMap (·.js)).length ≤ 20 := Nat.le_trans hp h20
    rw [ok_lpS]
    simp [lnv4, get_h0]
    refine (ext_ok (get_h0 rfl)).mpr ⟨.inl (Nat.le_refl _), by rw [List.length_map, List.length_map]; omega, ?_⟩
    simp
    rw [hI]
    exact ⟨_, _, _, _, _, by rw [flat_take (f := fun l : Ln => l.js) hl]; simp; rfl, rfl⟩
  · intro σ S hi0
    rw [hI] at hi0
    obtain ⟨g, s2, s3, s4, s5, rfl, rfl⟩ := hi0
    rw [List.length_map, Nat.zero_add, List.take_length]
    simp [rest_at]
    rw [ret_own (map_lt jv_lt _ _)]
    exact q
theorem joints_in_okT (hb : Bok b) (q : Q (.tup ((jsOf b).map jv), st)) : Ok (F_joints_in [bv b] st) Q := by
  refine run_joints_in rfl ?_
  simp [b_joints_in, Gat_lt]
  refine parts_okT hb ?_
  simp
  have hB := hb.js20
  unfold jsOf at hB
  refine lc_rule (k := 0) (fun k S => S = st ++ [.lst ((lns b).map lnv), .lst ((((lns b).take k).flatMap (·.js)).map jv)]) rfl ?_ ?_
  · rintro i e S he rfl
    rw [List.getElem?_map, Option.map_eq_some_iff] at he
    obtain ⟨l, hl, rfl⟩ := he
    have hlm := hb.ln l (List.mem_of_getElem? hl)
    have hp := part_le (f := fun l : Ln => l.js) (xs := lns b) i
    have hq : (((lns b).take i).flatMap (·.js)).length ≤ 20 := by omega
    rw [Nat.zero_add, ok_lcS2]
    simp [lnv]
    have e1 : st ++ [SO.lst ((lns b).map lnv), SO.lst ((((lns b).take i).flatMap (·.js)).map jv)] = (st ++ [.lst ((lns b).map lnv)]) ++ [.lst ((((lns b).take i).flatMap (·.js)).map jv)] := by simp
    have key : Ok (lcL [(st.length, SO.lst ((lns b).map lnv))] (lcS1 (Gat G0 cds n_joints_in) G0 (.var 2) (.name 2) .nil st.length [some (bv b), some (lnv l), none] (st.length + 1)) (l.js.map jv) ((st ++ [.lst ((lns b).map lnv)]) ++ [.lst ((((lns b).take i).flatMap (·.js)).map jv)]))
        (fun s => Watch [(st.length, SO.lst ((lns b).map lnv))] s ∧ s = st ++ [.lst ((lns b).map lnv), .lst ((((lns b).take (i + 1)).flatMap (·.js)).map jv)]) := by
      refine lc_pureM jv jv (by simp) (by rw [List.length_map]; omega) (fun y hy acc' hl' => ?_) ?_
      · rw [ok_lcS1]
        simp [CT.slots]
        exact hl'
      · rw [flat_take (f := fun l : Ln => l.js) hl]
        simp [get_h0]
    rw [e1]
    simpa [lnv] using key
  · rintro S rfl
    rw [List.length_map, Nat.zero_add, List.take_length]
    rw [seq_h1 rfl]
    simp
    rw [fin_tup (map_lt jv_lt _ _), List.take_left' rfl]
    exact q
theorem stones_in_okT (hb : Bok b) (q : Q (.tup ((ssOf b).map sv), st)) : Ok (F_stones_in [bv b] st) Q := by
  refine run_stones_in rfl ?_
  simp [b_stones_in, Gat_lt]
  refine parts_okT hb ?_
  simp
  have hB := hb.ss15
  unfold ssOf at hB
  refine lc_rule (k := 0) (fun k S => S = st ++ [.lst ((lns b).map lnv), .lst ((((lns b).take k).flatMap (·.ss)).map sv)]) rfl ?_ ?_
  · rintro i e S he rfl
    rw [List.getElem?_map, Option.map_eq_some_iff] at he
    obtain ⟨l, hl, rfl⟩ := he
    have hlm := hb.ln l (List.mem_of_getElem? hl)
    have hp := part_le (f := fun l : Ln => l.ss) (xs := lns b) i
    have hq : (((lns b).take i).flatMap (·.ss)).length ≤ 20 := by omega
    rw [Nat.zero_add, ok_lcS2]
    simp [lnv]
    have e1 : st ++ [SO.lst ((lns b).map lnv), SO.lst ((((lns b).take i).flatMap (·.ss)).map sv)] = (st ++ [.lst ((lns b).map lnv)]) ++ [.lst ((((lns b).take i).flatMap (·.ss)).map sv)] := by simp
    have key : Ok (lcL [(st.length, SO.lst ((lns b).map lnv))] (lcS1 (Gat G0 cds n_stones_in) G0 (.var 2) (.name 2) .nil st.length [some (bv b), some (lnv l), none] (st.length + 1)) (l.ss.map sv) ((st ++ [.lst ((lns b).map lnv)]) ++ [.lst ((((lns b).take i).flatMap (·.ss)).map sv)]))
        (fun s => Watch [(st.length, SO.lst ((lns b).map lnv))] s ∧ s = st ++ [.lst ((lns b).map lnv), .lst ((((lns b).take (i + 1)).flatMap (·.ss)).map sv)]) := by
      refine lc_pureM sv sv (by simp) (by rw [List.length_map]; omega) (fun y hy acc' hl' => ?_) ?_
      · rw [ok_lcS1]
        simp [CT.slots]
        exact hl'
      · rw [flat_take (f := fun l : Ln => l.ss) hl]
        simp [get_h0]
    rw [e1]
    simpa [lnv] using key
  · rintro S rfl
    rw [List.length_map, Nat.zero_add, List.take_length]
    rw [seq_h1 rfl]
    simp
    rw [fin_tup (map_lt sv_lt _ _), List.take_left' rfl]
    exact q
theorem ss_shift : ∀ {as : List Ar} {ps : List Pr} (k j s k' j' s' : Nat), (lnsFrom as ps k j s).flatMap (·.ss) = (lnsFrom as ps k' j' s').flatMap (·.ss)
  | [], _, _, _, _, _, _, _ => rfl
  | a :: as, [], k, j, s, k', j', s' => by
    simp only [lnsFrom, List.flatMap_cons]
    rw [ss_shift (as := as) (ps := [])]
  | a :: as, p :: ps, k, j, s, k', j', s' => by
    simp only [lnsFrom, List.flatMap_cons]
    rw [ss_shift (as := as) (ps := ps)]
theorem ss_stones : ∀ (as : List Ar) (ps : List Pr) (k j s : Nat), (lnsFrom as ps k j s).flatMap (·.ss) = stonesOf as ps
  | [], _, _, _, _ => rfl
  | a :: as, [], k, j, s => by
    simp only [lnsFrom, List.flatMap_cons, stonesOf]
    rw [ss_stones as []]
  | a :: as, p :: ps, k, j, s => by
    simp only [lnsFrom, List.flatMap_cons, stonesOf]
    rw [ss_stones as ps]
    simp
theorem ssOf_eq (b : Br) : ssOf b = stonesOf b.as b.ps := ss_stones _ _ _ _ _
theorem law_stones_okT (hb : Bok b) (q : Q (.ref st.length, st ++ [.lst ((ssOf b).map sv)])) : Ok (F__law_stones [bv b] st) Q := by
  refine run__law_stones rfl ?_
  have h15 := hb.ss15
  have hl := hb.l
  rw [ssOf_eq] at q h15
  simp [b__law_stones, rest_at, bv]
  obtain ⟨I, hI⟩ : ∃ I : Nat → Sl → Sto → Prop, I = fun k σ S => ∃ (acc : List Sn) (s2 s3 s4 : Option PV), Own st S (acc.map sv) ∧ acc ++ stonesOf (b.as.drop k) (b.ps.drop k) = stonesOf b.as b.ps ∧
    σ = [some (bv b), some (.ref st.length), s2, s3, s4] := ⟨_, rfl⟩
  refine for_rule (k := 0) I (by rw [hI]; exact ⟨[], _, _, _, Own.first, rfl, rfl⟩) ?_ ?_
  · intro i e σ S he hi0
    rw [hI] at hi0
    obtain ⟨acc, s2, s3, s4, ow, hacc, rfl⟩ := hi0
    obtain ⟨x, hx, rfl⟩ := numbered_get he
    rw [List.getElem?_map, Option.map_eq_some_iff] at hx
    obtain ⟨a, ha, rfl⟩ := hx
    simp only [Nat.zero_add] at hacc ⊢
    have hal := congrArg List.length hacc
    rw [List.length_append] at hal
    rw [drop_some ha] at hacc hal
    have hal2 : a.ss.length ≤ 3 := (hb.a a (List.mem_of_getElem? ha)).l3
    rw [ok_lpS]
    simp [av, bv, lst_ref ow.at_]
    have ow1 := ow.more (g := [.lst (a.ss.map sv)])
    rw [ext_ok ow1.at_]
    have ow2 := ow1.put (acc' := acc.map sv ++ a.ss.map sv)
    refine ⟨.inl (Nat.le_refl _), by simp; omega, ?_⟩
    generalize (S ++ [SO.lst (a.ss.map sv)]).set st.length _ = S2 at ow2
    rw [rest_at]
    simp
    refine ⟨fun hip => ?_, fun hip => ?_⟩
    · have hp : b.ps[i]? = some b.ps[i] := List.getElem?_eq_getElem hip
      generalize b.ps[i] = p at hp
      have ix : L2.atI (b.ps.map piv) (i : Int) = some (piv p) := by rw [at_nat rfl (by simpa using hip), List.getElem?_map, hp]; rfl
      rw [drop_some hp] at hacc
      have hp2 := (hb.p p (List.mem_of_getElem? hp)).l2
      simp [lst_ref ow2.at_, ix, piv]
      have lt1 : PV.ltA S2.length (sv p.h :: p.ss.map sv) = true := by simp [sv_lt, map_lt sv_lt]
      have f3 : fin S2.length (PV.ref (S2.length + 2)) (S2 ++ [SO.lst [sv p.h], SO.lst (p.ss.map sv), SO.lst (sv p.h :: p.ss.map sv)]) = (.ref S2.length, S2 ++ [.lst (sv p.h :: p.ss.map sv)]) := by
        rw [fin_ref (o := .lst (sv p.h :: p.ss.map sv)) (by omega) (by simp) lt1]
        simp
      rw [f3]
      simp
      have ow3 := ow2.more (g := [.lst (sv p.h :: p.ss.map sv)])
      rw [ext_ok ow3.at_]
      refine ⟨by omega, .inl (Nat.le_refl _), by simp; omega, ?_⟩
      rw [hI]
      refine ⟨acc ++ a.ss ++ p.h :: p.ss, _, _, _, ?_, ?_, rfl⟩
      · have := ow3.put (acc' := acc.map sv ++ a.ss.map sv ++ (sv p.h :: p.ss.map sv))
        simpa using this
      · rw [← hacc]; simp [stonesOf]
    · have hp : b.ps.drop i = [] := List.drop_eq_nil_of_le (by omega)
      have hp1 : b.ps.drop (i + 1) = [] := List.drop_eq_nil_of_le (by omega)
      rw [hp] at hacc
      rw [hI]
      refine ⟨acc ++ a.ss, _, _, _, by simpa using ow2, ?_, rfl⟩
      rw [← hacc, hp1]; simp [stonesOf]
  · intro σ S hi0
    rw [hI] at hi0
    obtain ⟨acc, s2, s3, s4, ow, hacc, rfl⟩ := hi0
    rw [numbered_len, Nat.zero_add, List.length_map, List.drop_length] at hacc
    have : acc = stonesOf b.as b.ps := by rw [← hacc]; simp [stonesOf]
    subst this
    simp [rest_at]
    rw [ow.ret (map_lt sv_lt _ _)]
    exact q
end
end LAW

end
section
set_option Elab.async false
set_option linter.all false
set_option maxRecDepth 100000
set_option maxHeartbeats 4000000
/-! ratios, wrenches: what the program's and the law's small functions do to them -/
namespace LAW
open PySem MP
theorem num_pos_iff {r : Rat} : 0 ≤ r.num ↔ 0 ≤ r := Rat.num_nonneg
theorem rq_lt (r : Rat) (k : Nat) : (rq r).lt k = true := by simp [rq, mkR]
section
variable {st : Sto} {Q : PV × Sto → Prop} {r s : Rat}
theorem fraction_ok {n u : Int} (hu : 0 < u) (sn : Sm n) (su : Sm u) (q : Q (mkR (rN n u) (rD n u), st)) : Ok (F_fraction [.int n, .int u] st) Q := by
  have hg : 0 < Int.gcd n u := Int.gcd_pos_of_ne_zero_right _ (by omega)
  have hgu : Int.gcd n u ≤ u.natAbs := Nat.le_of_dvd (Int.natAbs_pos.mpr (by omega)) (Int.gcd_dvd_natAbs_right n u)
  have sg : Sm ((Int.gcd n u : Nat) : Int) := su.le (by simpa using hgu)
  refine run_fraction rfl ?_
  have d1 : L2.CDivW n ((Int.gcd n u : Nat) : Int) := sg.div (by omega)
  have d2 : L2.CDivW u ((Int.gcd n u : Nat) : Int) := sg.div (by omega)
  simp [b_fraction, rest_at, d1, d2]
  refine ⟨fun h => absurd h (by omega), fun _ => ?_⟩
  unfold mkR rN rD at q
  rw [if_neg (by omega), Int.natAbs_of_nonneg (by omega)] at q
  exact q
theorem q_fraction {n u : Int} (hu : 0 < u) (sn : Sm n) (su : Sm u) (q : Q (rq ((n : Rat) / u), st)) : Ok (F_fraction [.int n, .int u] st) Q :=
  fraction_ok hu sn su (by rw [rq_made (by omega)]; exact q)
theorem den_pos (r : Rat) : 0 < ((r.den : Nat) : Int) := by have := r.den_nz; omega
theorem Rb.bn (h : Rb r) : Bd r.num := h.n
theorem Rb.bd (h : Rb r) : Bd ((r.den : Nat) : Int) := by simpa [Bd] using h.d
theorem q_pplus (hr : Rb r) (hs : Rb s) (q : Q (rq (r + s), st)) : Ok (F_plus [rq r, rq s] st) Q := by
  refine run_plus rfl ?_
  have n1 := num_eq r
  have n2 := num_eq s
  have d1 := denq_ne r
  have d2 := denq_ne s
  simp [b_plus, rq, mkR, Gat_lt]
  refine ⟨fun e => ?_, fun e => ?_⟩
  · have sac : Sm (r.num + s.num) := by
      have := hr.bn.mul2 b1 hs.bn b1
      simpa using this
    refine q_fraction (den_pos r) sac hr.bd.sm ?_
    have e2 : (((r.num + s.num : Int)) : Rat) / ((r.den : Int) : Rat) = r + s := by
      rw [Rat.intCast_add, n1, n2, ← e]
      grind
    simp only [nd_rt]
    rw [e2, show fin st.length (rq (r + s)) st = (rq (r + s), st) by unfold rq mkR; rw [fin_tup (by simp), take_self]]
    exact q
  · rw [rest_at]
    simp [Gat_lt, hr.bn.sm.mul hs.bd.sm, hs.bn.sm.mul hr.bd.sm, hr.bd.sm.mul hs.bd.sm]
    refine q_fraction (Int.mul_pos (den_pos r) (den_pos s)) (hr.bn.mul2 hs.bd hs.bn hr.bd) (hr.bd.mul hs.bd) ?_
    have e2 : (((r.num * s.den + s.num * r.den : Int)) : Rat) / ((r.den * s.den : Int) : Rat) = r + s := by
      rw [Rat.intCast_add, Rat.intCast_mul, Rat.intCast_mul, Rat.intCast_mul, n1, n2]
      grind
    rw [e2]
    simp only [nd_rt]
    rw [show fin st.length (rq (r + s)) st = (rq (r + s), st) by unfold rq mkR; rw [fin_tup (by simp), take_self]]
    exact q
theorem fin_rq {k : Nat} {S : Sto} : fin k (rq r) S = (rq r, S.take k) := by unfold rq mkR; rw [fin_tup (by simp)]
theorem q_product (hr : Rb r) (hs : Rb s) (q : Q (rq (r * s), st)) : Ok (F_product [rq r, rq s] st) Q := by
  refine run_product rfl ?_
  have n1 := num_eq r
  have n2 := num_eq s
  have d1 := denq_ne r
  have d2 := denq_ne s
  simp [b_product, rq, mkR, Gat_lt, hr.bn.sm.mul hs.bn.sm, hr.bd.sm.mul hs.bd.sm]
  refine q_fraction (Int.mul_pos (den_pos r) (den_pos s)) (hr.bn.mul hs.bn) (hr.bd.mul hs.bd) ?_
  have e2 : (((r.num * s.num : Int)) : Rat) / ((r.den * s.den : Int) : Rat) = r * s := by
    rw [Rat.intCast_mul, Rat.intCast_mul, n1, n2]
    grind
  rw [e2]
  simp only [nd_rt]
  rw [fin_rq, take_self]
  exact q
theorem q_opposite (q : Q (rq (-r), st)) : Ok (F_opposite [rq r] st) Q := by
  refine run_opposite rfl ?_
  simp [b_opposite, rq, mkR]
  simpa [rq, mkR] using q
theorem q_whole {i : Int} (q : Q (rq (i : Rat), st)) : Ok (F_whole [.int i] st) Q := by
  refine run_whole rfl ?_
  simp [b_whole]
  rw [rq_int] at q
  exact q
theorem q_minusP (hr : Rb r) (hs : Rb s) (q : Q (rq (r - s), st)) : Ok (F_minus [rq r, rq s] st) Q := by
  refine run_minus rfl ?_
  simp [b_minus, Gat_lt]
  refine q_opposite ?_
  simp
  refine q_pplus hr hs.neg ?_
  rw [← Rat.sub_eq_add_neg]
  simp only [nd_rt]
  rw [fin_rq, take_self]
  exact q
end
/-! ### wrenches -/
abbrev Wr := Rat × Rat × Rat
def wv (w : Wr) : PV := .tup [rq w.1, rq w.2.1, rq w.2.2]
def wadd (a b : Wr) : Wr := (a.1 + b.1, a.2.1 + b.2.1, a.2.2 + b.2.2)
def wneg (a : Wr) : Wr := (-a.1, -a.2.1, -a.2.2)
def wz : Wr := (0, 0, 0)
structure Wb (w : Wr) : Prop where
  h : Rb w.1
  v : Rb w.2.1
  m : Rb w.2.2
theorem Wb.neg {w : Wr} (h : Wb w) : Wb (wneg w) := ⟨h.h.neg, h.v.neg, h.m.neg⟩
theorem wv_lt (w : Wr) (k : Nat) : (wv w).lt k = true := by simp [wv, rq_lt]
section
variable {st : Sto} {Q : PV × Sto → Prop} {a c : Wr}
theorem fin_wv {k : Nat} {S : Sto} : fin k (wv a) S = (wv a, S.take k) := by
  have := wv_lt a k
  unfold wv at this ⊢
  rw [fin_tup (by simpa using this)]
theorem law_addW (ha : Wb a) (hc : Wb c) (q : Q (wv (wadd a c), st)) : Ok (F__law_add [wv a, wv c] st) Q := by
  refine run__law_add rfl ?_
  simp [b__law_add, wv, paired, Gat_lt]
  refine q_plus ha.h hc.h ?_
  simp
  refine q_plus ha.v hc.v ?_
  simp
  refine q_plus ha.m hc.m ?_
  simp [rq_lt]
  exact q
theorem law_negW (ha : Wb a) (q : Q (wv (wneg a), st)) : Ok (F__law_take [wv a, mkR (-1) 1] st) Q := by
  have e : mkR (-1) 1 = rq ((-1 : Int) : Rat) := (rq_int (-1)).symm
  rw [e]
  have hb : Rb ((-1 : Int) : Rat) := .int (by decide)
  have n : ∀ r : Rat, r * -1 = -r := fun r => by grind
  refine run__law_take rfl ?_
  simp [b__law_take, wv, Gat_lt]
  refine q_by ha.h hb ?_
  simp
  refine q_by ha.v hb ?_
  simp
  refine q_by ha.m hb ?_
  simp [rq_lt, n]
  exact q
theorem sum_inW (ha : Wb a) (hc : Wb c) (q : Q (wv (wadd a c), st)) : Ok (F_sum_in [wv a, wv c] st) Q := by
  refine run_sum_in rfl ?_
  simp [b_sum_in, wv, Gat_lt]
  refine q_pplus ha.h hc.h ?_
  simp
  refine q_pplus ha.v hc.v ?_
  simp
  refine q_pplus ha.m hc.m ?_
  simp [rq_lt]
  exact q
theorem less_inW (ha : Wb a) (hc : Wb c) (q : Q (wv (wadd a (wneg c)), st)) : Ok (F_less_in [wv a, wv c] st) Q := by
  refine run_less_in rfl ?_
  have e : wv c = .tup [rq c.1, rq c.2.1, rq c.2.2] := rfl
  simp [b_less_in, Gat_lt, e]
  refine q_opposite ?_
  simp
  refine q_opposite ?_
  simp
  refine q_opposite ?_
  simp
  refine sum_inW (c := wneg c) ha hc.neg ?_
  simp only [nd_rt]
  rw [fin_wv, take_self]
  exact q
theorem taken_negW (ha : Wb a) (q : Q (wv (wneg a), st)) : Ok (F_taken_in [wv a, mkR (-1) 1] st) Q := by
  have e : mkR (-1) 1 = rq ((-1 : Int) : Rat) := (rq_int (-1)).symm
  rw [e]
  have hb : Rb ((-1 : Int) : Rat) := .int (by decide)
  have n : ∀ r : Rat, r * -1 = -r := fun r => by grind
  refine run_taken_in rfl ?_
  simp [b_taken_in, wv, Gat_lt]
  refine q_product ha.h hb ?_
  simp
  refine q_product ha.v hb ?_
  simp
  refine q_product ha.m hb ?_
  simp [rq_lt, n]
  exact q
end
end LAW

end
section
set_option Elab.async false
set_option linter.all false
set_option maxRecDepth 100000
set_option maxHeartbeats 4000000
/-! loads -/
namespace LAW
open PySem MP
abbrev Pl := Int × Int
def ppv (p : Pl) : PV := .tup [.int p.1, .int p.2]
theorem ppv_lt (p : Pl) (k : Nat) : (ppv p).lt k = true := by simp [ppv]
def padd (p d : Pl) : Pl := (p.1 + d.1, p.2 + d.2)
def addAt {α : Type} (f : α → α → α) (l : List α) (i : Nat) (d : α) : List α := match l[i]? with
  | some p => l.set i (f p d)
  | none => l
theorem addAt_some {α : Type} {f : α → α → α} {l : List α} {i : Nat} {d p : α} (h : l[i]? = some p) : addAt f l i d = l.set i (f p d) := by unfold addAt; rw [h]
theorem addAt_len {α : Type} {f : α → α → α} {l : List α} {i : Nat} {d : α} : (addAt f l i d).length = l.length := by
  unfold addAt
  split <;> simp
theorem addAt_map {α β : Type} {f : α → α → α} {g : β → β → β} {h : α → β} (e : ∀ a b, h (f a b) = g (h a) (h b)) {l : List α} {i : Nat} {d : α} : (addAt f l i d).map h = addAt g (l.map h) i (h d) := by
  unfold addAt
  rw [List.getElem?_map]
  cases hi : l[i]? with
  | none => simp
  | some p => simp [List.map_set, e]
def ownP (b : Br) : List Pl := (ssOf b).map fun s => (s.w, s.x * s.w)
def ctP (c : Ct) : Pl := (c.w, c.x * c.w)
def onAll (l : List Pl) (cs : List Ct) : List Pl := cs.foldl (fun l c => addAt padd l c.i (ctP c)) l
theorem onAll_len : ∀ (cs : List Ct) (l : List Pl), (onAll l cs).length = l.length
  | [], l => rfl
  | c :: cs, l => by
    show (onAll (addAt padd l c.i (ctP c)) cs).length = _
    rw [onAll_len cs, addAt_len]
theorem zip_addAt : ∀ (own z : List Pl) (i : Nat) (d : Pl), own.length = z.length → List.zipWith padd own (addAt padd z i d) = addAt padd (List.zipWith padd own z) i d
  | [], [], _, _, _ => by simp [addAt]
  | a :: own, b :: z, 0, d, h => by
    simp [addAt, padd]
    omega
  | a :: own, b :: z, i + 1, d, h => by
    have ih := zip_addAt own z i d (by simpa using h)
    unfold addAt at ih ⊢
    simp only [List.getElem?_cons_succ, List.zipWith_cons_cons]
    cases hz : z[i]? with
    | none =>
      rw [hz] at ih
      have hn : (List.zipWith padd own z)[i]? = none := by
        rw [List.getElem?_eq_none_iff] at hz ⊢
        simp; omega
      rw [hn]; rfl
    | some p =>
      rw [hz] at ih
      have hlt := (List.getElem?_eq_some_iff.mp hz).1
      obtain ⟨w, ho⟩ : ∃ w, own[i]? = some w := ⟨_, List.getElem?_eq_getElem (by simp at h; omega)⟩
      have hn : (List.zipWith padd own z)[i]? = some (padd w p) := by
        rw [List.getElem?_zipWith, ho, hz]
      rw [hn] at ih ⊢
      simp only [List.set_cons_succ, List.zipWith_cons_cons]
      simp only at ih
      rw [ih]
theorem zip_onAll : ∀ (cs : List Ct) (own z : List Pl), own.length = z.length → List.zipWith padd own (onAll z cs) = onAll (List.zipWith padd own z) cs
  | [], own, z, h => rfl
  | c :: cs, own, z, h => by
    show List.zipWith padd own (onAll (addAt padd z c.i (ctP c)) cs) = onAll (addAt padd (List.zipWith padd own z) c.i (ctP c)) cs
    rw [zip_onAll cs own _ (by rw [addAt_len]; exact h), zip_addAt own z _ _ h]
theorem zip_zero : ∀ (own : List Pl) (n : Nat), own.length = n → List.zipWith padd own (List.replicate n (0, 0)) = own
  | [], n, h => by simp
  | a :: own, 0, h => by simp at h
  | a :: own, n + 1, h => by
    rw [List.replicate_succ, List.zipWith_cons_cons, zip_zero own n (by simpa using h)]
    simp [padd]
theorem zip_ppv : ∀ (xs ys : List Pl), (xs.zip ys).map (fun p => ppv (padd p.1 p.2)) = (List.zipWith padd xs ys).map ppv
  | [], ys => by simp
  | x :: xs, [] => by simp
  | x :: xs, y :: ys => by simp [zip_ppv xs ys]
theorem fin_newL {st : Sto} {xs : List PV} (h : PV.ltA st.length xs = true) : fin st.length (.ref st.length) (st ++ [.lst xs]) = (.ref st.length, st ++ [.lst xs]) := fin_new (show (SO.lst xs).lt st.length = true from h)
/-- what pulls at the stones under some carts -/
def pullsOf (b : Br) (cs : List Ct) : List Pl := onAll (ownP b) cs
def loadW (p : Pl) : Wr := (0, ((-p.1 : Int) : Rat), ((-p.2 : Int) : Rat))
theorem loadW_add (p d : Pl) : loadW (padd p d) = wadd (loadW p) (loadW d) := by
  unfold loadW padd wadd
  simp only
  have h1 : ((-(p.1 + d.1) : Int) : Rat) = ((-p.1 : Int) : Rat) + ((-d.1 : Int) : Rat) := by
    rw [Int.neg_add, Rat.intCast_add]
  have h2 : ((-(p.2 + d.2) : Int) : Rat) = ((-p.2 : Int) : Rat) + ((-d.2 : Int) : Rat) := by
    rw [Int.neg_add, Rat.intCast_add]
  rw [h1, h2]
  simp [Rat.add_zero]
def loadsOf (b : Br) (cs : List Ct) : List Wr := (pullsOf b cs).map loadW
/-- not too much -/
def Pb (N : Nat) (p : Pl) : Prop := p.1.natAbs ≤ N ∧ p.2.natAbs ≤ N
theorem all_addAt {N M : Nat} {l : List Pl} {i : Nat} {d : Pl} (h : ∀ p ∈ l, Pb N p) (hd : Pb M d) : ∀ p ∈ addAt padd l i d, Pb (N + M) p := by
  have up : ∀ p, Pb N p → Pb (N + M) p := fun p hp => ⟨Nat.le_trans hp.1 (by omega), Nat.le_trans hp.2 (by omega)⟩
  unfold addAt
  split
  · rename_i q hq
    intro p hp
    rcases List.mem_or_eq_of_mem_set hp with z | z
    · exact up p (h p z)
    · have hq2 := h q (List.mem_of_getElem? hq)
      rw [z]
      unfold padd
      obtain ⟨a1, a2⟩ := hq2
      obtain ⟨c1, c2⟩ := hd
      refine ⟨?_, ?_⟩ <;> simp only <;> omega
  · exact fun p hp => up p (h p hp)
theorem all_onAll {M : Nat} : ∀ {cs : List Ct} {N : Nat} {l : List Pl}, (∀ p ∈ l, Pb N p) → (∀ c ∈ cs, Pb M (ctP c)) → ∀ p ∈ onAll l cs, Pb (N + cs.length * M) p
  | [], N, l, h, _ => by simpa [onAll] using h
  | c :: cs, N, l, h, hc => by
    have := all_onAll (cs := cs) (all_addAt (i := c.i) h (hc c (by simp))) fun x hx => hc x (by simp [hx])
    intro p hp
    have q := this p hp
    rw [List.length_cons, Nat.add_mul, Nat.one_mul]
    rwa [show N + (cs.length * M + M) = N + M + cs.length * M by omega]
theorem mul_small {x w : Int} (hx : -999 ≤ x ∧ x ≤ 999) (hw : 1 ≤ w ∧ w ≤ 999) : (x * w).natAbs ≤ 998001 := by
  have := mul_bd (a := x) (b := w) (A := 999) (B := 999) hx.1 hx.2 (by omega) hw.2
  omega
theorem Bok.ss {b : Br} (h : Bok b) : ∀ s ∈ ssOf b, Sok s := fun s hs => by
  unfold ssOf at hs
  obtain ⟨l, hl, hs⟩ := List.mem_flatMap.mp hs
  exact (h.ln l hl).2.1 s hs
theorem Bok.own {b : Br} (h : Bok b) : ∀ p ∈ ownP b, Pb 998001 p := fun p hp => by
  obtain ⟨s, hs, rfl⟩ := List.mem_map.mp hp
  have S := h.ss s hs
  exact ⟨by show s.w.natAbs ≤ _; have := S.bw; omega, mul_small S.bx S.bw⟩
theorem Cok.pl {n : Nat} {c : Ct} (h : Cok n c) : Pb 998001 (ctP c) := ⟨by show c.w.natAbs ≤ _; have := h.w; omega, mul_small (by have := h.x; omega) h.w⟩
theorem Bok.pulls {b : Br} (h : Bok b) {cs : List Ct} (hc : ∀ c ∈ cs, Cok (ssOf b).length c) (hl : cs.length ≤ 2) : ∀ p ∈ pullsOf b cs, Pb 3000000 p := fun p hp => by
  have q := all_onAll h.own (fun c hc' => (hc c hc').pl) p hp
  exact ⟨Nat.le_trans q.1 (by omega), Nat.le_trans q.2 (by omega)⟩
theorem pulls_len (b : Br) (cs : List Ct) : (pullsOf b cs).length = (ssOf b).length := by
  unfold pullsOf ownP
  rw [onAll_len, List.length_map]
/-- the carts of a state -/
def stf (b : Br) (s : Nat) : List Ct := if s = 0 then [] else b.cs
theorem stf_ok {b : Br} (h : Bok b) (s : Nat) : (∀ c ∈ stf b s, Cok (ssOf b).length c) ∧ (stf b s).length ≤ 2 := by
  unfold stf
  split
  · simp
  · rw [ssOf_eq]; exact ⟨h.c, h.c2⟩
theorem st_at {b : Br} {s : Nat} (hs : s < 2) : L2.atI [PV.tup [], PV.tup (b.cs.map cv)] (s : Int) = some (.tup ((stf b s).map cv)) := by
  have h : s = 0 ∨ s = 1 := by omega
  rcases h with rfl | rfl
  · simp [stf]
  · simp [stf]
theorem smI {i : Int} {N : Nat} (h : i.natAbs ≤ N) (hN : N < 1000000000000) : Sm i := (Bd.small (by omega) (by omega)).sm
section
variable {b : Br} {st : Sto} {Q : PV × Sto → Prop}
theorem own_pulls_ok (hb : Bok b) (q : Q (.ref st.length, st ++ [.lst ((ownP b).map ppv)])) : Ok (F_own_pulls [bv b] st) Q := by
  refine run_own_pulls rfl ?_
  simp [b_own_pulls, Gat_lt]
  refine stones_in_okT hb ?_
  simp
  have h15 := hb.ss15
  refine lc_pureM sv (fun s : Sn => ppv (s.w, s.x * s.w)) (by simp) (by simp; omega) (fun s hs acc ha => ?_) ?_
  · have S := hb.ss s hs
    have c1 : L2.CMulW s.x s.w := (smI (i := s.x) (N := 999) (by have := S.bx; omega) (by decide)).mul (smI (i := s.w) (N := 999) (by have := S.bw; omega) (by decide))
    rw [ok_lcS]
    simp [sv, c1, ppv]
    omega
  · have e : (ssOf b).map (fun s : Sn => ppv (s.w, s.x * s.w)) = (ownP b).map ppv := by unfold ownP; simp
    rw [e, List.nil_append]
    show Q (fin _ _ _)
    rw [fin_newL (map_lt ppv_lt _ _)]
    exact q
theorem pulls_by_ok {cs : List Ct} (hb : Bok b) (hc : ∀ c ∈ cs, Cok (ssOf b).length c) (q : Q (.ref st.length, st ++ [.lst ((onAll (List.replicate (ssOf b).length (0, 0)) cs).map ppv)])) : Ok (F_pulls_by [bv b, .tup (cs.map cv)] st) Q := by
  refine run_pulls_by rfl ?_
  simp [b_pulls_by, Gat_lt]
  refine stones_in_okT hb ?_
  simp
  have h15 := hb.ss15
  refine lc_pureM sv (fun s : Sn => ppv (0, 0)) (by simp) (by simp; omega) (fun s hs acc ha => ?_) ?_
  · rw [ok_lcS]
    simp [ppv]
    omega
  have e0 : (ssOf b).map (fun s : Sn => ppv (0, 0)) = (List.replicate (ssOf b).length ((0, 0) : Pl)).map ppv := by simp [List.map_const']
  rw [e0, List.nil_append]
  rw [rest_at]
  simp [-List.map_replicate]
  obtain ⟨I, hI⟩ : ∃ I : Nat → Sl → Sto → Prop, I = fun k σ S => ∃ (s3 s4 s5 : Option PV), S = st ++ [.lst ((onAll (List.replicate (ssOf b).length (0, 0)) (cs.take k)).map ppv)] ∧
    σ = [some (bv b), some (.tup (cs.map cv)), some (.ref st.length), s3, s4, s5] := ⟨_, rfl⟩
  refine for_rule (k := 0) I (by rw [hI]; exact ⟨_, _, _, rfl, rfl⟩) ?_ ?_
  · intro i e σ S he hi0
    rw [hI] at hi0
    obtain ⟨s3, s4, s5, rfl, rfl⟩ := hi0
    rw [List.getElem?_map, Option.map_eq_some_iff] at he
    obtain ⟨c, hci, rfl⟩ := he
    have C := hc c (List.mem_of_getElem? hci)
    rw [Nat.zero_add]
    have hlen := onAll_len (cs.take i) (List.replicate (ssOf b).length ((0, 0) : Pl))
    rw [List.length_replicate] at hlen
    have hst : onAll (List.replicate (ssOf b).length (0, 0)) (cs.take (i + 1)) = addAt padd (onAll (List.replicate (ssOf b).length (0, 0)) (cs.take i)) c.i (ctP c) := by
      unfold onAll
      rw [List.take_succ, hci, List.foldl_append]
      rfl
    generalize onAll (List.replicate (ssOf b).length (0, 0)) (cs.take i) = L at hlen hst
    have hi : c.i < L.length := by rw [hlen]; exact C.i
    have hL : L[c.i]? = some L[c.i] := List.getElem?_eq_getElem hi
    rw [addAt_some hL] at hst
    generalize L[c.i] = p at hL hst
    have ix : L2.atI (L.map ppv) (c.i : Int) = some (ppv p) := by rw [at_nat rfl (by simpa using hi), List.getElem?_map, hL]; rfl
    have jx : L2.ixN (L.map ppv).length (c.i : Int) = some c.i := by simp [L2.ixN, hi]
    have c1 : L2.CMulW c.x c.w := (smI (i := c.x) (N := 999) (by have := C.x; omega) (by decide)).mul (smI (i := c.w) (N := 999) (by have := C.w; omega) (by decide))
    rw [ok_lpS]
    simp [cv, ix, ppv, c1]
    refine (put_ok new_get jx).mpr ⟨.inl (Nat.le_refl _), ?_⟩
    rw [hI]
    refine ⟨_, _, _, ?_, rfl⟩
    rw [hst]
    simp [List.map_set, ppv, padd, ctP]
  · intro σ S hi0
    rw [hI] at hi0
    obtain ⟨s3, s4, s5, rfl, rfl⟩ := hi0
    rw [List.length_map, Nat.zero_add, List.take_length]
    simp [rest_at, -List.map_replicate]
    rw [fin_newL (map_lt ppv_lt _ _)]
    exact q
theorem pulls_in_ok {s : Nat} (hb : Bok b) (hs : s < 2) (q : Q (.ref st.length, st ++ [.lst ((pullsOf b (stf b s)).map ppv)])) : Ok (F_pulls_in [bv b, .int s] st) Q := by
  refine run_pulls_in rfl ?_
  have h15 := hb.ss15
  obtain ⟨hc, hc2⟩ := stf_ok hb s
  simp [b_pulls_in, Gat_lt]
  refine own_pulls_ok hb ?_
  have e3 : ∀ S, seqOf (bv b) S = some [.str "bridge", .tup (b.as.map av), .tup (b.ps.map piv), .tup [.tup [], .tup (b.cs.map cv)]] := fun S => rfl
  simp [e3, st_at hs]
  refine pulls_by_ok hb hc ?_
  simp
  rw [rest_at]
  have ez := zip_onAll (stf b s) (ownP b) (List.replicate (ssOf b).length ((0, 0) : Pl)) (by unfold ownP; simp)
  rw [zip_zero (ownP b) _ (by unfold ownP; simp)] at ez
  have hlen := onAll_len (stf b s) (List.replicate (ssOf b).length ((0, 0) : Pl))
  rw [List.length_replicate] at hlen
  have hol : (ownP b).length = (ssOf b).length := by unfold ownP; simp
  generalize onAll (List.replicate (ssOf b).length ((0, 0) : Pl)) (stf b s) = L at ez hlen
  generalize hO : ownP b = O at ez hol
  simp [items_h0, items_h1]
  have pm : paired (O.map ppv) (L.map ppv) = (O.zip L).map fun p => .tup [ppv p.1, ppv p.2] := by
    have : ∀ xs ys : List Pl, paired (xs.map ppv) (ys.map ppv) = (xs.zip ys).map fun p => .tup [ppv p.1, ppv p.2] := by
      intro xs
      induction xs with
      | nil => intro ys; simp [paired]
      | cons x xs ih => intro ys; cases ys with
        | nil => simp [paired]
        | cons y ys => simp [paired, ih]
    exact this _ _
  rw [pm]
  have key := lc_pureM (w := [(st.length, SO.lst (O.map ppv)), (st.length + 1, .lst (L.map ppv))]) (st := st ++ [.lst (O.map ppv), .lst (L.map ppv)]) (acc := [])
    (Q := fun s_1 => (fun p : PV × Sto => Q (fin st.length p.1 p.2)) (.ref (st.length + 2), s_1))
    (step := lcS (Gat G0 cds n_pulls_in) G0 (.tup (.cons (.bin .add (.idx (.var 4) (.int 0)) (.idx (.var 5) (.int 0))) (.cons (.bin .add (.idx (.var 4) (.int 1)) (.idx (.var 5) (.int 1))) .nil))) (.tup (.cons (.name 4) (.cons (.name 5) .nil))) .nil [4, 5] st.length
      [some (bv b), some (.int s), some (.ref st.length), some (.ref (st.length + 1)), none, none] (st.length + 2))
    (fun p : Pl × Pl => .tup [ppv p.1, ppv p.2]) (fun p => ppv (padd p.1 p.2)) ?_ (as := O.zip L) (by simp; omega) (fun p hp acc ha => ?_) ?_
  · simpa using key
  · intro p hp
    simp at hp
    rcases hp with rfl | rfl
    · simp
    · simp
  · rw [ok_lcS]
    simp [ppv, padd]
    exact ha
  · have e4 : (O.zip L).map (fun p => ppv (padd p.1 p.2)) = (pullsOf b (stf b s)).map ppv := by
      unfold pullsOf
      rw [hO, ← ez]
      exact zip_ppv _ _
    rw [e4]
    simp
    rw [fin_ref (o := .lst ((pullsOf b (stf b s)).map ppv)) (by omega) (get_h2 rfl) (map_lt ppv_lt _ _), List.take_left' rfl]
    exact q
theorem loads_of_ok {ps : List Pl} {n : Nat} (hn : st[n]? = some (.lst (ps.map ppv))) (hl : ps.length ≤ 1000) (q : Q (.ref st.length, st ++ [.lst ((ps.map loadW).map wv)])) : Ok (F_loads_of [.ref n] st) Q := by
  have hlt : n < st.length := (List.getElem?_eq_some_iff.mp hn).1
  refine run_loads_of rfl ?_
  simp [b_loads_of, Gat_lt, items_ref hn]
  refine lc_pureM ppv (fun p => wv (loadW p)) (fun p hp => by rw [List.mem_singleton.mp hp]; exact ⟨hlt, hn⟩) (by simp; omega) (fun p hp acc ha => ?_) ?_
  · rw [ok_lcS]
    simp [ppv, g_NOUGHT, Gat_lt]
    refine q_whole ?_
    simp
    refine q_whole ?_
    have e : rq 0 = .tup [.int 0, .int 1] := rfl
    simp [wv, loadW, e]
    omega
  · have e : ps.map (fun p => wv (loadW p)) = (ps.map loadW).map wv := by simp
    rw [e, List.nil_append]
    show Q (fin _ _ _)
    rw [fin_newL (map_lt wv_lt _ _)]
    exact q
theorem loads_in_ok {s : Nat} (hb : Bok b) (hs : s < 2) (q : Q (.ref st.length, st ++ [.lst ((loadsOf b (stf b s)).map wv)])) : Ok (F_loads_in [bv b, .int s] st) Q := by
  refine run_loads_in rfl ?_
  simp [b_loads_in, Gat_lt]
  refine pulls_in_ok hb hs ?_
  simp
  refine loads_of_ok (ps := pullsOf b (stf b s)) (by simp) (by have := pulls_len b (stf b s); have := hb.ss15; omega) ?_
  have lt := map_lt wv_lt (loadsOf b (stf b s)) st.length
  show Q (fin _ _ _)
  simp
  rw [fin_ref (o := .lst ((loadsOf b (stf b s)).map wv)) (by omega) (by unfold loadsOf; simp) lt, List.take_left' rfl]
  exact q
theorem no_loads_ok (hb : Bok b) (q : Q (.ref st.length, st ++ [.lst ((List.replicate (ssOf b).length wz).map wv)])) : Ok (F_no_loads [bv b] st) Q := by
  refine run_no_loads rfl ?_
  simp [b_no_loads, Gat_lt]
  refine stones_in_okT hb ?_
  simp
  have h15 := hb.ss15
  refine lc_pureM sv (fun s : Sn => wv wz) (by simp) (by simp; omega) (fun s hs acc ha => ?_) ?_
  · rw [ok_lcS]
    have e : wv wz = .tup [.tup [.int 0, .int 1], .tup [.int 0, .int 1], .tup [.int 0, .int 1]] := rfl
    simp [g_STILL, e]
    omega
  · have e : (ssOf b).map (fun s : Sn => wv wz) = (List.replicate (ssOf b).length wz).map wv := by simp [List.map_const']
    rw [e, List.nil_append]
    show Q (fin _ _ _)
    rw [fin_newL (map_lt wv_lt _ _)]
    exact q
theorem Pb.wb {N : Nat} {p : Pl} (h : Pb N p) (hN : N < 2 ^ 400) : Wb (loadW p) := by
  have h1 : N < 2 ^ 500 := Nat.lt_trans hN (Nat.pow_lt_pow_right (by decide) (by decide))
  refine ⟨.int (i := 0) (by decide), .int ?_, .int ?_⟩
  · rw [Int.natAbs_neg]; exact Nat.lt_of_le_of_lt h.1 h1
  · rw [Int.natAbs_neg]; exact Nat.lt_of_le_of_lt h.2 h1
theorem pull_okW {x w : Int} (hx : -999 ≤ x ∧ x ≤ 999) (hw : 1 ≤ w ∧ w ≤ 999) (q : Q (wv (loadW (w, x * w)), st)) : Ok (F__law_pull [.int x, .int w] st) Q := by
  refine pull_ok (.small (by omega) (by omega)) (.small (by omega) (by omega)) ?_
  have e : wv (loadW (w, x * w)) = mkW 0 (-w) (-(x * w)) := by
    unfold wv loadW mkW
    simp only
    rw [show rq (0 : Rat) = mkR 0 1 from rfl, rq_int, rq_int]
  rw [e] at q
  exact q
/-- a state, by its number or none -/
def loadsS (b : Br) : Option Nat → List Wr
  | some s => loadsOf b (stf b s)
  | none => List.replicate (ssOf b).length wz
def stv : Option Nat → PV
  | some s => .int s
  | none => .non
theorem law_loads_ok {o : Option Nat} (hb : Bok b) (hs : ∀ s, o = some s → s < 2) (q : Q (.ref st.length, st ++ [.lst ((loadsS b o).map wv)])) : Ok (F__law_loads [bv b, stv o] st) Q := by
  refine run__law_loads rfl ?_
  have h15 := hb.ss15
  simp [b__law_loads, Gat_lt]
  refine law_stones_okT hb ?_
  simp
  have e1 : st ++ [SO.lst ((ssOf b).map sv), SO.lst []] = (st ++ [.lst ((ssOf b).map sv)]) ++ [.lst []] := by simp
  rw [e1]
  refine lc_pureM sv (fun s : Sn => wv (loadW (s.w, s.x * s.w))) ?_ (by simp; omega) (fun s hs acc ha => ?_) ?_
  · intro p hp
    simp at hp
    subst hp
    simp
  · have S := hb.ss s hs
    rw [ok_lcS]
    simp [sv, Gat_lt]
    refine pull_okW S.bx S.bw ?_
    simp
    exact ha
  · have e2 : (ssOf b).map (fun s : Sn => wv (loadW (s.w, s.x * s.w))) = ((ownP b).map loadW).map wv := by unfold ownP; simp
    rw [e2, List.nil_append]
    have ll : ((ownP b).map loadW).length = (ssOf b).length := by unfold ownP; simp
    rw [rest_at]
    cases o with
    | none =>
      simp [stv, -List.map_map, isNon]
      rw [rest_at]
      have e3 : PV.tup [PV.tup [.int 0, .int 1], .tup [.int 0, .int 1], .tup [.int 0, .int 1]] = wv wz := rfl
      simp [isNon, -List.map_map, seq_h1, lst_h1, ll, get_h1, e3]
      refine ⟨by omega, ?_⟩
      have lt1 : PV.ltA st.length (List.replicate (ssOf b).length (wv wz)) = true := by
        rw [ltA_iff]
        intro x hx
        rw [List.eq_of_mem_replicate hx]
        exact wv_lt _ _
      have f1 : ∀ A B C : SO, fin (st.length + 2) (PV.ref (st.length + 2 + 1)) (st ++ [A, B, C, SO.lst (List.replicate (ssOf b).length (wv wz))]) = (.ref (st.length + 2), st ++ [A, B, SO.lst (List.replicate (ssOf b).length (wv wz))]) := fun A B C => by
        rw [fin_ref (o := .lst (List.replicate (ssOf b).length (wv wz))) (by omega) (get_h3 rfl) (show PV.ltA _ _ = true from PV.ltA_mono (by omega) lt1)]
        congr 1
        rw [show st ++ [A, B, C, SO.lst (List.replicate (ssOf b).length (wv wz))] = (st ++ [A, B]) ++ [C, SO.lst (List.replicate (ssOf b).length (wv wz))] by simp, List.take_left' (by simp)]
        simp
      rw [f1]
      simp only
      rw [fin_ref (o := .lst (List.replicate (ssOf b).length (wv wz))) (by omega) (get_h2 rfl) (show PV.ltA _ _ = true from lt1), List.take_left' rfl]
      have e4 : List.map wv (loadsS b none) = List.replicate (ssOf b).length (wv wz) := by unfold loadsS; simp
      rw [e4] at q
      exact q
    | some s =>
      have hs2 := hs s rfl
      obtain ⟨hc, hc2⟩ := stf_ok hb s
      have e3 : ∀ S, seqOf (bv b) S = some [.str "bridge", .tup (b.as.map av), .tup (b.ps.map piv), .tup [.tup [], .tup (b.cs.map cv)]] := fun S => rfl
      simp [stv, -List.map_map, isNon, e3, st_at hs2]
      obtain ⟨I, hI⟩ : ∃ I : Nat → Sl → Sto → Prop, I = fun k σ S => ∃ (s3 s4 s5 : Option PV), S = st ++ [SO.lst ((ssOf b).map sv), .lst (((onAll (ownP b) ((stf b s).take k)).map loadW).map wv)] ∧
        σ = [some (bv b), some (.int s), some (.ref (st.length + 1)), s3, s4, s5] := ⟨_, rfl⟩
      refine for_rule (k := 0) I (by rw [hI]; exact ⟨_, _, _, rfl, rfl⟩) ?_ ?_
      · intro i e σ S he hi0
        rw [hI] at hi0
        obtain ⟨s3, s4, s5, rfl, rfl⟩ := hi0
        rw [List.getElem?_map, Option.map_eq_some_iff] at he
        obtain ⟨c, hci, rfl⟩ := he
        have C := hc c (List.mem_of_getElem? hci)
        rw [Nat.zero_add]
        have hlen := onAll_len ((stf b s).take i) (ownP b)
        have hol : (ownP b).length = (ssOf b).length := by unfold ownP; simp
        have hbd := all_onAll (cs := (stf b s).take i) (M := 998001) hb.own (fun c hc' => (hc c (List.mem_of_mem_take hc')).pl)
        have hst : onAll (ownP b) ((stf b s).take (i + 1)) = addAt padd (onAll (ownP b) ((stf b s).take i)) c.i (ctP c) := by
          unfold onAll
          rw [List.take_succ, hci, List.foldl_append]
          rfl
        have htl : ((stf b s).take i).length ≤ 2 := by rw [List.length_take]; omega
        generalize onAll (ownP b) ((stf b s).take i) = L at hlen hst hbd
        have hi : c.i < L.length := by rw [hlen, hol]; exact C.i
        have hL : L[c.i]? = some L[c.i] := List.getElem?_eq_getElem hi
        rw [addAt_some hL] at hst
        have hPb := hbd _ (List.mem_of_getElem? hL)
        generalize L[c.i] = p at hL hst hPb
        have w1 : Wb (loadW p) := hPb.wb (Nat.lt_of_le_of_lt (show 998001 + ((stf b s).take i).length * 998001 ≤ 3000000 by omega) (by decide))
        have w2 : Wb (loadW (ctP c)) := C.pl.wb (by decide)
        have ix : L2.atI ((L.map loadW).map wv) (c.i : Int) = some (wv (loadW p)) := by rw [at_nat rfl (by simpa using hi), List.getElem?_map, List.getElem?_map, hL]; rfl
        have jx : L2.ixN ((L.map loadW).map wv).length (c.i : Int) = some c.i := by simp [L2.ixN, hi]
        rw [ok_lpS]
        simp [cv, -List.map_map, seq_h1, ix, Gat_lt]
        refine pull_okW (by have := C.x; omega) C.w ?_
        simp [-List.map_map]
        refine law_addW w1 w2 ?_
        simp [-List.map_map]
        refine (put_ok (by simp) jx).mpr ⟨.inl (by omega), ?_⟩
        rw [hI]
        refine ⟨_, _, _, ?_, rfl⟩
        rw [hst]
        simp [List.map_set, loadW_add]
        rfl
      · intro σ S hi0
        rw [hI] at hi0
        obtain ⟨s3, s4, s5, rfl, rfl⟩ := hi0
        rw [List.length_map, Nat.zero_add, List.take_length]
        simp [rest_at, -List.map_map, isNon]
        have lt1 := map_lt wv_lt ((onAll (ownP b) (stf b s)).map loadW) st.length
        rw [fin_ref (o := .lst (((onAll (ownP b) (stf b s)).map loadW).map wv)) (by omega) (get_h1 rfl) (show PV.ltA _ _ = true from lt1), List.take_left' rfl]
        exact q
end
end LAW

end
section
set_option Elab.async false
set_option linter.all false
set_option maxRecDepth 100000
set_option maxHeartbeats 4000000
/-! what is passed at the joints -/
namespace LAW
open PySem MP
/-- wrenches over one denominator, not too great -/
structure WD (D N : Nat) (w : Wr) : Prop where
  h : Rd D N w.1
  v : Rd D N w.2.1
  m : Rd D N w.2.2
section
variable {D N M : Nat} {a c : Wr}
theorem WD.add (hD : 0 < D) (x : WD D N a) (y : WD D M c) : WD D (N + M) (wadd a c) := ⟨x.h.add hD y.h, x.v.add hD y.v, x.m.add hD y.m⟩
theorem WD.neg (x : WD D N a) : WD D N (wneg a) := ⟨x.h.neg, x.v.neg, x.m.neg⟩
theorem WD.mono (h : N ≤ M) (x : WD D N a) : WD D M a := ⟨x.h.mono h, x.v.mono h, x.m.mono h⟩
theorem WD.wb (hD : 0 < D) (x : WD D N a) (h1 : N < 2 ^ 500) (h2 : D < 2 ^ 500) : Wb a := ⟨x.h.rb hD h1 h2, x.v.rb hD h1 h2, x.m.rb hD h1 h2⟩
theorem Rd.zero : Rd D N 0 := ⟨0, by simp [Rat.div_def], by simp⟩
theorem WD.zero : WD D N wz := ⟨Rd.zero, Rd.zero, Rd.zero⟩
end
def scan (w : Wr) : List Wr → List Wr
  | [] => [w]
  | l :: ls => w :: scan (wadd w l) ls
def lastW (w : Wr) (ls : List Wr) : Wr := ls.foldl wadd w
theorem scan_len : ∀ (ls : List Wr) (w : Wr), (scan w ls).length = ls.length + 1
  | [], w => rfl
  | l :: ls, w => by simp [scan, scan_len ls]
theorem scan_get : ∀ (ls : List Wr) (w : Wr) (k : Nat), k ≤ ls.length → (scan w ls)[k]? = some (lastW w (ls.take k))
  | [], w, k, h => by
    have : k = 0 := by simpa using h
    subst this
    rfl
  | l :: ls, w, 0, h => rfl
  | l :: ls, w, k + 1, h => by
    simp only [scan, List.getElem?_cons_succ, List.take_succ_cons]
    rw [scan_get ls _ k (by simpa using h)]
    rfl
theorem scan_take {ls : List Wr} {w : Wr} {k : Nat} (h : k ≤ ls.length) : (scan w ls).take (k + 1) = (scan w ls).take k ++ [lastW w (ls.take k)] := by
  rw [List.take_succ, scan_get ls w k h]; rfl
theorem last_take {ls : List Wr} {w l : Wr} {k : Nat} (h : ls[k]? = some l) : lastW w (ls.take (k + 1)) = wadd (lastW w (ls.take k)) l := by
  unfold lastW
  rw [List.take_succ, h, List.foldl_append]; rfl
theorem last_bd {D M : Nat} (hD : 0 < D) : ∀ {ls : List Wr} {w : Wr} {N : Nat}, WD D N w → (∀ l ∈ ls, WD D M l) → WD D (N + ls.length * M) (lastW w ls)
  | [], w, N, h, _ => by simpa [lastW] using h
  | l :: ls, w, N, h, hl => by
    have := last_bd hD (ls := ls) (h.add hD (hl l (by simp))) fun x hx => hl x (by simp [hx])
    rw [List.length_cons, Nat.add_mul, Nat.one_mul]
    rwa [show N + (ls.length * M + M) = N + M + ls.length * M by omega]
def nth (l : List Wr) (i : Nat) : Wr := l.getD i wz
theorem nth_get {l : List Wr} {i : Nat} (h : i < l.length) : l[i]? = some (nth l i) := by
  unfold nth
  rw [List.getD_eq_getElem?_getD, List.getElem?_eq_getElem h]; rfl
theorem nth_mem {l : List Wr} {i : Nat} (h : i < l.length) : nth l i ∈ l := List.mem_of_getElem? (nth_get h)
def startW (l th : List Wr) (late : Wr) (ln : Ln) : Wr := if ln.pier then wadd (wadd late (wneg (nth th (ln.at_ + 1)))) (nth l ln.s0) else nth th ln.at_
def s1 (ln : Ln) : Nat := ln.s0 + if ln.pier then 1 else 0
def segW (l : List Wr) (ln : Ln) : List Wr := (l.drop (s1 ln)).take (ln.js.length - 1)
def passedW (l th : List Wr) : Wr → List Ln → List Wr
  | _, [] => []
  | late, ln :: r => scan (startW l th late ln) (segW l ln) ++ passedW l th (lastW (startW l th late ln) (segW l ln)) r
/-- where a line's stones lie -/
structure LnAt (nA nS : Nat) (ln : Ln) : Prop where
  fit : ln.s0 + ln.ss.length ≤ nS
  sz : ln.ss.length = (ln.js.length - 1) + if ln.pier then 1 else 0
  arch : ln.at_ < nA
  pier : ln.pier = true → ln.at_ + 1 < nA
theorem lns_at : ∀ {as : List Ar} {ps : List Pr}, (∀ a ∈ as, Aok a) → (∀ p ∈ ps, Pok p) → ps.length + 1 = as.length ∨ as = [] → ∀ (k j s : Nat), ∀ ln ∈ lnsFrom as ps k j s, LnAt (k + as.length) (s + ((lnsFrom as ps k j s).flatMap (·.ss)).length) ln
  | [], _, _, _, _, _, _, _, ln, h => by simp [lnsFrom] at h
  | a :: as, [], ha, hp, hl, k, j, s, ln, h => by
    have has : as = [] := by
      rcases hl with z | z
      · simp at z; exact z
      · cases z
    subst has
    simp only [lnsFrom, List.mem_singleton] at h
    subst h
    have A := (ha a (by simp)).l
    refine ⟨by simp [lnsFrom], by simp; omega, by simp, by simp⟩
  | a :: as, p :: ps, ha, hp, hl, k, j, s, ln, h => by
    have hl' : ps.length + 1 = as.length := by
      rcases hl with z | z
      · simpa using z
      · cases z
    have A := (ha a (by simp)).l
    have P := (hp p (by simp)).l
    simp only [lnsFrom, List.mem_cons] at h
    rcases h with rfl | rfl | h
    · exact ⟨by simp [lnsFrom], by simp; omega, by simp, by simp⟩
    · exact ⟨by simp [lnsFrom]; omega, by simp; omega, by simp, by simp; omega⟩
    · have q := lns_at (fun x hx => ha x (by simp [hx])) (fun x hx => hp x (by simp [hx])) (.inl hl') (k + 1) (j + a.js.length + p.js.length) (s + a.ss.length + 1 + p.ss.length) ln h
      obtain ⟨q1, q2, q3, q4⟩ := q
      refine ⟨?_, q2, by simp; omega, fun z => by have := q4 z; simp; omega⟩
      simp only [lnsFrom, List.flatMap_cons, List.length_append, List.length_cons]
      omega
theorem Bok.lnat {b : Br} (h : Bok b) : ∀ ln ∈ lns b, LnAt b.as.length (ssOf b).length ln := fun ln hl => by
  have := lns_at h.a h.p (.inl h.l) 0 0 0 ln hl
  simpa [ssOf, lns] using this
theorem Bok.first {b : Br} (h : Bok b) {ln : Ln} (e : (lns b)[0]? = some ln) : ln.pier = false := by
  unfold lns at e
  have hl := h.l
  match has : b.as, hps : b.ps with
  | [], _ => rw [has] at hl; simp at hl
  | a :: as, [] => rw [has, hps] at e; simp [lnsFrom] at e; rw [← e]
  | a :: as, p :: ps => rw [has, hps] at e; simp [lnsFrom] at e; rw [← e]
/-- a bridge's loads and thrust, over one denominator -/
structure Env (b : Br) (l th : List Wr) (D M : Nat) : Prop where
  ok : Bok b
  ll : l.length = (ssOf b).length
  lt : th.length = b.as.length
  l : ∀ w ∈ l, WD D M w
  t : ∀ w ∈ th, WD D M w
  D0 : 0 < D
  D1 : D < 2 ^ 400
  M1 : M < 2 ^ 400
section
variable {b : Br} {l th : List Wr} {D M : Nat}
theorem Env.seg_len (E : Env b l th D M) {ln : Ln} (h : ln ∈ lns b) : (segW l ln).length = ln.js.length - 1 := by
  have A := E.ok.lnat ln h
  have a1 := A.fit
  have a2 := A.sz
  have := E.ll
  unfold segW s1
  rw [List.length_take, List.length_drop]
  omega
theorem Env.seg_get (E : Env b l th D M) {ln : Ln} (h : ln ∈ lns b) {k : Nat} (hk : k < ln.js.length - 1) : (segW l ln)[k]? = l[s1 ln + k]? := by
  unfold segW
  rw [List.getElem?_take_of_lt hk, List.getElem?_drop]
theorem Env.seg_bd (E : Env b l th D M) (ln : Ln) : ∀ w ∈ segW l ln, WD D M w := fun w hw => E.l w (List.mem_of_mem_drop (List.mem_of_mem_take hw))
theorem Env.wb (E : Env b l th D M) {c : Nat} (hc : c ≤ 200) {w : Wr} (h : WD D (c * M) w) : Wb w := by
  have h1 : c * M < 2 ^ 500 := by
    have := E.M1
    have h2 : c * M ≤ 200 * M := Nat.mul_le_mul_right M hc
    have h3 : 200 * 2 ^ 400 ≤ 2 ^ 500 := by
      have : (2 : Nat) ^ 500 = 2 ^ 100 * 2 ^ 400 := by rw [← Nat.pow_add]
      rw [this]
      exact Nat.mul_le_mul_right _ (by decide)
    omega
  exact h.wb E.D0 h1 (Nat.lt_trans E.D1 (Nat.pow_lt_pow_right (by decide) (by decide)))
theorem Env.start_bd (E : Env b l th D M) {ln : Ln} (h : ln ∈ lns b) {late : Wr} {c : Nat} (hl : WD D (c * M) late) : WD D ((c + 2) * M) (startW l th late ln) := by
  have A := E.ok.lnat ln h
  unfold startW
  split
  · rename_i hp
    have h1 : WD D M (nth th (ln.at_ + 1)) := E.t _ (nth_mem (by rw [E.lt]; exact A.pier hp))
    have h2 : WD D M (nth l ln.s0) := E.l _ (nth_mem (by
      have a1 := A.fit
      have a2 := A.sz
      rw [if_pos hp] at a2
      rw [E.ll]; omega))
    have := (hl.add E.D0 h1.neg).add E.D0 h2
    rwa [show (c + 2) * M = c * M + M + M by rw [Nat.add_mul]; omega]
  · have h1 : WD D M (nth th ln.at_) := E.t _ (nth_mem (by rw [E.lt]; exact A.arch))
    exact h1.mono (Nat.le_mul_of_pos_left M (by omega))
theorem Env.part_bd (E : Env b l th D M) {ln : Ln} (h : ln ∈ lns b) {late : Wr} {c : Nat} (hl : WD D (c * M) late) (k : Nat) : WD D ((c + 5) * M) (lastW (startW l th late ln) ((segW l ln).take k)) := by
  have h4 := (E.ok.ln ln h).2.2.2.1
  have hs := E.seg_len h
  have := last_bd E.D0 (E.start_bd h hl) (ls := (segW l ln).take k) fun w hw => E.seg_bd ln w (List.mem_of_mem_take hw)
  refine this.mono ?_
  have h3 : ((segW l ln).take k).length ≤ 3 := by rw [List.length_take]; omega
  have h5 := Nat.mul_le_mul_right M h3
  rw [show (c + 5) * M = (c + 2) * M + 3 * M by rw [← Nat.add_mul]]
  omega
end
end LAW

end
section
set_option Elab.async false
set_option linter.all false
set_option maxRecDepth 100000
set_option maxHeartbeats 4000000
/-! what is passed: both walks -/
namespace LAW
open PySem MP
theorem drop_lns {b : Br} {i : Nat} {ln : Ln} (h : (lns b)[i]? = some ln) : (lns b).drop i = ln :: (lns b).drop (i + 1) := drop_some h
theorem passed_len {l th : List Wr} : ∀ (ls : List Ln) (late : Wr), (∀ ln ∈ ls, (segW l ln).length = ln.js.length - 1 ∧ 1 ≤ ln.js.length) → (passedW l th late ls).length = (ls.flatMap (·.js)).length
  | [], late, _ => rfl
  | ln :: ls, late, h => by
    have h1 := h ln (by simp)
    simp only [passedW, List.length_append, scan_len, List.flatMap_cons]
    rw [passed_len ls _ fun x hx => h x (by simp [hx])]
    omega
section
variable {b : Br} {l th : List Wr} {D M : Nat} {st : Sto} {Q : PV × Sto → Prop}
def PW (b : Br) (l th : List Wr) : List Wr := passedW l th wz (lns b)
theorem Env.pw_len (E : Env b l th D M) : (PW b l th).length = (jsOf b).length := passed_len _ _ fun ln h => ⟨E.seg_len h, (E.ok.ln ln h).2.2.1⟩
@[simp] theorem cm_eqS {a c : Str} {S : Sto} : cmpop .eq (.str a) (.str c) S = some (decide (a = c)) := rfl
theorem kd_p (p : Bool) : decide (kd p = ("pier" : Str)) = p := by cases p <;> decide +kernel
theorem kd_a (p : Bool) : decide (kd p = ("arch" : Str)) = !p := by cases p <;> decide +kernel
theorem passed_in_ok {n : Nat} (E : Env b l th D M) (hn : st[n]? = some (.lst (l.map wv))) (q : Q (.ref st.length, st ++ [.lst ((PW b l th).map wv)])) : Ok (F_passed_in [bv b, .ref n, .tup (th.map wv)] st) Q := by
  have hlt : n < st.length := (List.getElem?_eq_some_iff.mp hn).1
  have hnS : ∀ g : Sto, seqOf (.ref n) (st ++ g) = some (l.map wv) := fun g => seq_ref (by rw [List.getElem?_append_left hlt]; exact hn)
  refine run_passed_in rfl ?_
  have e0 : PV.tup [.tup [.int 0, .int 1], .tup [.int 0, .int 1], .tup [.int 0, .int 1]] = wv wz := rfl
  simp [b_passed_in, rest_at, Gat_lt, g_STILL, e0]
  refine parts_okT E.ok ?_
  simp
  have h20 := E.ok.js20
  have h5 := E.ok.lns5
  obtain ⟨I, hI⟩ : ∃ I : Nat → Sl → Sto → Prop, I = fun k σ S => ∃ (g : Sto) (late : Wr) (acc : List Wr) (s5 s6 s7 s8 s9 s10 s11 s12 : Option PV), S = st ++ .lst (acc.map wv) :: .lst ((lns b).map lnv) :: g ∧ acc ++ passedW l th late ((lns b).drop k) = PW b l th ∧ WD D ((5 * k) * M) late ∧
    σ = [some (bv b), some (.ref n), some (.tup (th.map wv)), some (.ref st.length), some (wv late), s5, s6, s7, s8, s9, s10, s11, s12] := ⟨_, rfl⟩
  refine for_rule (k := 0) I (by rw [hI]; exact ⟨[], wz, [], _, _, _, _, _, _, _, _, rfl, rfl, WD.zero, rfl⟩) ?_ ?_
  · intro i e σ S he hi0
    rw [hI] at hi0
    obtain ⟨g, late, acc, s5, s6, s7, s8, s9, s10, s11, s12, rfl, hacc, hlate, rfl⟩ := hi0
    rw [List.getElem?_map, Option.map_eq_some_iff] at he
    obtain ⟨ln, hl, rfl⟩ := he
    have hm := List.mem_of_getElem? hl
    have hi : i < (lns b).length := (List.getElem?_eq_some_iff.mp hl).1
    obtain ⟨_, _, j1, j4, _⟩ := E.ok.ln ln hm
    have A := E.ok.lnat ln hm
    have hseg := E.seg_len hm
    rw [Nat.zero_add] at hacc hlate
    rw [drop_lns hl, passedW] at hacc
    have hal : acc.length + ln.js.length ≤ 20 := by
      have := congrArg List.length hacc
      rw [E.pw_len] at this
      simp only [List.length_append, scan_len] at this
      omega
    have hsb := E.start_bd hm hlate
    have hpb := E.part_bd hm hlate
    have wbs := E.wb (by omega) hsb
    have wbl := E.wb (c := 5 * i) (by omega) hlate
    have ixt : ∀ j, j < b.as.length → L2.atI (th.map wv) (j : Int) = some (wv (nth th j)) := fun j hj => by
      rw [at_nat rfl (by rw [List.length_map, E.lt]; exact hj), List.getElem?_map, nth_get (by rw [E.lt]; exact hj)]; rfl
    have ixl : ∀ j, j < (ssOf b).length → L2.atI (l.map wv) (j : Int) = some (wv (nth l j)) := fun j hj => by
      rw [at_nat rfl (by rw [List.length_map, E.ll]; exact hj), List.getElem?_map, nth_get (by rw [E.ll]; exact hj)]; rfl
    have wt : ∀ j, j < b.as.length → Wb (nth th j) := fun j hj => E.wb (c := 1) (by omega) (by rw [Nat.one_mul]; exact E.t _ (nth_mem (by rw [E.lt]; exact hj)))
    have wl : ∀ j, j < (ssOf b).length → Wb (nth l j) := fun j hj => E.wb (c := 1) (by omega) (by rw [Nat.one_mul]; exact E.l _ (nth_mem (by rw [E.ll]; exact hj)))
    rw [ok_lpS]
    simp [lnv, ixt _ A.arch]
    rw [rest_at, b_cons]
    obtain ⟨K, hK⟩ : ∃ K : Fl → Prop, K = fun f => ∃ g', f = Fl.nx [some (bv b), some (.ref n), some (.tup (th.map wv)), some (.ref st.length), some (wv late), some (.str (kd ln.pier)), some (.int ln.at_), some (.tup (ln.js.map jv)), some (.tup (ln.ss.map sv)), some (.int ln.j0), some (.int (s1 ln)), some (wv (startW l th late ln)), s12] (st ++ .lst (acc.map wv) :: .lst ((lns b).map lnv) :: g') := ⟨_, rfl⟩
    refine Ok.mono (Q := K) ?_ ?_
    · cases hp : ln.pier with
      | false =>
        have e1 : startW l th late ln = nth th ln.at_ := by unfold startW; rw [hp]; rfl
        have e2 : s1 ln = ln.s0 := by unfold s1; rw [hp]; rfl
        simp [kd_p, Gat_lt]
        rw [hK, e1, e2, hp]
        exact ⟨g, rfl⟩
      | true =>
        have a2 := A.pier hp
        have a3 : ln.s0 < (ssOf b).length := by
          have a1 := A.fit
          have a2 := A.sz
          rw [if_pos hp] at a2
          omega
        have e1 : startW l th late ln = wadd (wadd late (wneg (nth th (ln.at_ + 1)))) (nth l ln.s0) := by unfold startW; rw [hp]; rfl
        have e2 : s1 ln = ln.s0 + 1 := by unfold s1; rw [hp]; rfl
        have ix2 := ixt (ln.at_ + 1) a2
        simp only [Int.natCast_add, Int.cast_ofNat_Int] at ix2
        simp [kd_p, Gat_lt, ix2]
        refine less_inW wbl (wt _ a2) ?_
        simp [hnS, ixl _ a3]
        have wb2 : Wb (wadd late (wneg (nth th (ln.at_ + 1)))) := by
          have h1 := hlate.add E.D0 (E.t _ (nth_mem (by rw [E.lt]; exact a2))).neg
          exact E.wb (c := 5 * i + 1) (by omega) (by rw [Nat.add_mul, Nat.one_mul]; exact h1)
        refine sum_inW wb2 (wl _ a3) ?_
        simp
        rw [rest_at]
        simp
        rw [hK, e1, e2, hp]
        exact ⟨g, rfl⟩
    · rw [hK]
      rintro _ ⟨g', rfl⟩
      clear hK K
      rw [sq_nx, rest_at]
      simp [Gat_lt]
      obtain ⟨J, hJ⟩ : ∃ J : Nat → Sl → Sto → Prop, J = fun k σ S => ∃ (g : Sto) (s12 : Option PV), S = st ++ .lst ((acc ++ (scan (startW l th late ln) (segW l ln)).take k).map wv) :: .lst ((lns b).map lnv) :: g ∧
        σ = [some (bv b), some (.ref n), some (.tup (th.map wv)), some (.ref st.length), some (wv late), some (.str (kd ln.pier)), some (.int ln.at_), some (.tup (ln.js.map jv)), some (.tup (ln.ss.map sv)), some (.int ln.j0), some (.int (s1 ln)), some (wv (lastW (startW l th late ln) ((segW l ln).take k))), s12] := ⟨_, rfl⟩
      refine ⟨by omega, ?_⟩
      refine for_rule (k := 0) J (by rw [hJ]; exact ⟨g', _, by simp, rfl⟩) ?_ ?_
      · intro k e σ S he hj0
        rw [hJ] at hj0
        obtain ⟨g2, s12', rfl, rfl⟩ := hj0
        have hk := counted_lt he
        have ek : e = .int (k : Nat) := by
          have := counted_get he
          simpa using this
        subst ek
        rw [Nat.zero_add]
        have hkl : k ≤ (segW l ln).length := by omega
        rw [ok_lpS]
        simp [Gat_lt, -List.map_append, -List.map_take]
        refine ⟨by omega, ?_⟩
        have e3 : (acc ++ (scan (startW l th late ln) (segW l ln)).take k).map wv ++ [wv (lastW (startW l th late ln) ((segW l ln).take k))] = (acc ++ (scan (startW l th late ln) (segW l ln)).take (k + 1)).map wv := by
          rw [scan_take hkl]; simp
        rw [e3]
        rw [rest_at]
        simp [Gat_lt, -List.map_append, -List.map_take]
        refine ⟨fun hk2 => ?_, fun hk2 => ?_⟩
        · have hk3 : k < ln.js.length - 1 := by omega
          have hsl : s1 ln + k < (ssOf b).length := by
            have a1 := A.fit
            have a2 := A.sz
            unfold s1
            omega
          have hget : (segW l ln)[k]? = some (nth l (s1 ln + k)) := by rw [E.seg_get hm hk3, nth_get (by rw [E.ll]; exact hsl)]
          have ix2 := ixl (s1 ln + k) hsl
          simp only [Int.natCast_add] at ix2
          simp [hnS, ix2, -List.map_append, -List.map_take]
          refine sum_inW (E.wb (c := 5 * i + 5) (by omega) (hpb k)) (wl _ hsl) ?_
          rw [← last_take hget]
          simp [-List.map_append, -List.map_take]
          rw [hJ]
          exact ⟨_, _, rfl, rfl⟩
        · have hk3 : (segW l ln).take (k + 1) = (segW l ln).take k := by
            rw [List.take_of_length_le (by omega), List.take_of_length_le (by omega)]
          rw [hJ]
          refine ⟨_, some (.int (k : Nat)), rfl, ?_⟩
          rw [hk3]
      · intro σ S hj0
        rw [hJ] at hj0
        obtain ⟨g2, s12', rfl, rfl⟩ := hj0
        rw [counted_len, Nat.zero_add, show (scan (startW l th late ln) (segW l ln)).take ln.js.length = scan (startW l th late ln) (segW l ln) from List.take_of_length_le (by rw [scan_len]; omega), show (segW l ln).take ln.js.length = segW l ln from List.take_of_length_le (by omega)]
        simp [rest_at, -List.map_append]
        rw [hI]
        refine ⟨_, _, acc ++ scan (startW l th late ln) (segW l ln), _, _, _, _, _, _, _, _, rfl, by rw [← hacc, List.append_assoc], ?_, rfl⟩
        have := hpb (segW l ln).length
        rw [List.take_length] at this
        exact this
  · intro σ S hi0
    rw [hI] at hi0
    obtain ⟨g, late, acc, s5, s6, s7, s8, s9, s10, s11, s12, rfl, hacc, hlate, rfl⟩ := hi0
    rw [List.length_map, Nat.zero_add, List.drop_length, passedW, List.append_nil] at hacc
    subst hacc
    simp [rest_at]
    rw [ret_own (map_lt wv_lt _ _)]
    exact q
end
end LAW

end
section
set_option Elab.async false
set_option linter.all false
set_option maxRecDepth 100000
set_option maxHeartbeats 4000000
/-! what is passed: the law's walk -/
namespace LAW
open PySem MP
def SeqA : Nat → List Ln → Prop
  | _, [] => True
  | a, ln :: r => ln.at_ + (if ln.pier then 1 else 0) = a ∧ SeqA (if ln.pier then a else a + 1) r
theorem lns_seq : ∀ (as : List Ar) (ps : List Pr) (k j s : Nat), SeqA k (lnsFrom as ps k j s)
  | [], _, _, _, _ => trivial
  | a :: as, [], k, j, s => ⟨rfl, lns_seq as [] _ _ _⟩
  | a :: as, p :: ps, k, j, s => ⟨rfl, rfl, lns_seq as ps _ _ _⟩
theorem pier_in_pos {b : Br} (h : Bok b) {i : Nat} {ln : Ln} (e : (lns b)[i]? = some ln) (hp : ln.pier = true) : i ≠ 0 := by
  intro z
  subst z
  have := h.first e
  rw [hp] at this; cases this
def lateV (k : Nat) (w : Wr) : PV := if k = 0 then .non else wv w
@[simp] theorem set_h2 {st g : Sto} {p r a o : SO} : (st ++ p :: r :: a :: g).set (st.length + 2) o = st ++ p :: r :: o :: g := by
  rw [List.set_append_right _ _ (by omega)]; simp
section
variable {b : Br} {th : List Wr} {D M : Nat} {st : Sto} {Q : PV × Sto → Prop} {o : Option Nat}
theorem law_passed_ok (E : Env b (loadsS b o) th D M) (ho : ∀ s, o = some s → s < 2) (q : Q (.ref st.length, st ++ [.lst ((PW b (loadsS b o) th).map wv)])) : Ok (F__law_passed [bv b, stv o, .tup (th.map wv)] st) Q := by
  refine run__law_passed rfl ?_
  simp [b__law_passed, Gat_lt]
  refine law_loads_ok E.ok ho ?_
  simp
  rw [rest_at]
  simp [Gat_lt]
  refine lines_okT E.ok ?_
  simp
  have h20 := E.ok.js20
  have h15 := E.ok.ss15
  have h5 := E.ok.lns5
  generalize hl0 : loadsS b o = l at *
  obtain ⟨I, hI⟩ : ∃ I : Nat → Sl → Sto → Prop, I = fun k σ S => ∃ (g : Sto) (late : Wr) (acc : List Wr) (a : Nat) (s7 s8 s9 s10 s11 s12 s13 : Option PV), S = st ++ .lst (l.map wv) :: .lst (acc.map wv) :: .lst ((lns b).map lnv4) :: g ∧ acc ++ passedW l th late ((lns b).drop k) = PW b l th ∧ WD D ((5 * k) * M) late ∧ SeqA a ((lns b).drop k) ∧
    σ = [some (bv b), some (stv o), some (.tup (th.map wv)), some (.ref st.length), some (.ref (st.length + 1)), some (.int a), some (lateV k late), s7, s8, s9, s10, s11, s12, s13] := ⟨_, rfl⟩
  refine for_rule (k := 0) I (by rw [hI]; exact ⟨[], wz, [], 0, _, _, _, _, _, _, _, rfl, rfl, WD.zero, lns_seq _ _ _ _ _, rfl⟩) ?_ ?_
  · intro i e σ S he hi0
    rw [hI] at hi0
    obtain ⟨g, late, acc, a, s7, s8, s9, s10, s11, s12, s13, rfl, hacc, hlate, hseq, rfl⟩ := hi0
    rw [List.getElem?_map, Option.map_eq_some_iff] at he
    obtain ⟨ln, hl, rfl⟩ := he
    have hm := List.mem_of_getElem? hl
    have hi : i < (lns b).length := (List.getElem?_eq_some_iff.mp hl).1
    obtain ⟨_, _, j1, j4, _⟩ := E.ok.ln ln hm
    have A := E.ok.lnat ln hm
    have hseg := E.seg_len hm
    rw [Nat.zero_add] at hacc hlate hseq ⊢
    rw [drop_lns hl] at hacc hseq
    rw [passedW] at hacc
    obtain ⟨ha, hseq'⟩ := hseq
    have hal : acc.length + ln.js.length ≤ 20 := by
      have := congrArg List.length hacc
      rw [E.pw_len] at this
      simp only [List.length_append, scan_len] at this
      omega
    have hsb := E.start_bd hm hlate
    have hpb := E.part_bd hm hlate
    have wbs := E.wb (by omega) hsb
    have wbl := E.wb (c := 5 * i) (by omega) hlate
    have hs0 : ln.s0 ≤ 15 := by have := A.fit; omega
    have ixt : ∀ j, j < b.as.length → L2.atI (th.map wv) (j : Int) = some (wv (nth th j)) := fun j hj => by
      rw [at_nat rfl (by rw [List.length_map, E.lt]; exact hj), List.getElem?_map, nth_get (by rw [E.lt]; exact hj)]; rfl
    have ixl : ∀ j, j < (ssOf b).length → L2.atI (l.map wv) (j : Int) = some (wv (nth l j)) := fun j hj => by
      rw [at_nat rfl (by rw [List.length_map, E.ll]; exact hj), List.getElem?_map, nth_get (by rw [E.ll]; exact hj)]; rfl
    have wt : ∀ j, j < b.as.length → Wb (nth th j) := fun j hj => E.wb (c := 1) (by omega) (by rw [Nat.one_mul]; exact E.t _ (nth_mem (by rw [E.lt]; exact hj)))
    have wl : ∀ j, j < (ssOf b).length → Wb (nth l j) := fun j hj => E.wb (c := 1) (by omega) (by rw [Nat.one_mul]; exact E.l _ (nth_mem (by rw [E.ll]; exact hj)))
    rw [ok_lpS]
    simp [lnv4, -b_cons]
    obtain ⟨K, hK⟩ : ∃ K : Fl → Prop, K = fun f => ∃ (g' : Sto) (j12 : Nat), g'[j12]? = some (.lst (MP.counted (s1 ln) (ln.js.length - 1))) ∧ f = Fl.nx [some (bv b), some (stv o), some (.tup (th.map wv)), some (.ref st.length), some (.ref (st.length + 1)), some (.int (if ln.pier then a else a + 1 : Nat)), some (lateV i late), some (.str (kd ln.pier)), some (.tup (ln.js.map jv)), some (.int ln.j0), some (.int ln.s0), some (wv (startW l th late ln)), some (.ref (st.length + 3 + j12)), s13] (st ++ .lst (l.map wv) :: .lst (acc.map wv) :: .lst ((lns b).map lnv4) :: g') := ⟨_, rfl⟩
    rw [b_cons]
    refine Ok.mono (Q := K) ?_ ?_
    · have er : st.length + (g.length + 1 + 1 + 1) = st.length + 3 + g.length := by omega
      cases hp : ln.pier with
      | false =>
        rw [hp] at ha
        have ha' : ln.at_ = a := by simpa using ha
        have e1 : startW l th late ln = nth th a := by unfold startW; rw [hp, ha']; rfl
        have e2 : s1 ln = ln.s0 := by unfold s1; rw [hp]; rfl
        simp [kd_a, Gat_lt, ixt a (by rw [← ha']; exact A.arch)]
        refine ⟨by omega, ?_⟩
        rw [rest_at]
        simp
        rw [er, hK, e1, hp]
        refine ⟨_, _, ?_, rfl⟩
        rw [e2]
        simp
        congr 1
        omega
      | true =>
        rw [hp] at ha
        have ha' : ln.at_ + 1 = a := by simpa using ha
        have a2 := A.pier hp
        have a3 : ln.s0 < (ssOf b).length := by
          have a1 := A.fit
          have a2 := A.sz
          rw [if_pos hp] at a2
          omega
        have hi0 : i ≠ 0 := pier_in_pos E.ok hl hp
        have el : lateV i late = wv late := by unfold lateV; rw [if_neg hi0]
        have e1 : startW l th late ln = wadd (wadd late (wneg (nth th a))) (nth l ln.s0) := by unfold startW; rw [hp, ← ha']; rfl
        have e2 : s1 ln = ln.s0 + 1 := by unfold s1; rw [hp]; rfl
        have em : PV.tup [.int (-1), .int 1] = mkR (-1) 1 := rfl
        have wb2 : Wb (wadd late (wneg (nth th a))) := by
          have h1 := hlate.add E.D0 (E.t _ (nth_mem (i := a) (by rw [E.lt, ← ha']; exact a2))).neg
          exact E.wb (c := 5 * i + 1) (by omega) (by rw [Nat.add_mul, Nat.one_mul]; exact h1)
        simp [kd_a, Gat_lt, ixt a (by rw [← ha']; exact a2), em, el]
        refine law_negW (wt a (by rw [← ha']; exact a2)) ?_
        simp
        refine law_addW wbl (wt a (by rw [← ha']; exact a2)).neg ?_
        simp [ixl _ a3]
        refine law_addW wb2 (wl _ a3) ?_
        simp
        rw [rest_at]
        simp
        refine ⟨by omega, ?_⟩
        rw [er, hK, e1, hp, el]
        refine ⟨_, _, ?_, rfl⟩
        rw [e2]
        simp
        congr 1
        omega
    · rw [hK]
      rintro _ ⟨g', j12, h12, rfl⟩
      clear hK K
      rw [sq_nx, rest_at]
      simp [Gat_lt]
      refine ⟨by omega, ?_⟩
      rw [rest_at]
      have p3 : ∀ A B C : SO, (st ++ A :: B :: C :: g')[st.length + 3 + j12]? = some (.lst (MP.counted (s1 ln : Nat) (ln.js.length - 1))) := fun A B C => by
        rw [List.getElem?_append_right (by omega), ← h12, show st.length + 3 + j12 - st.length = j12 + 1 + 1 + 1 by omega]
        simp
      simp [items_ref (p3 _ _ _), Gat_lt, -for_cons]
      obtain ⟨J, hJ⟩ : ∃ J : Nat → Sl → Sto → Prop, J = fun k σ S => ∃ (s13 : Option PV), S = st ++ .lst (l.map wv) :: .lst ((acc ++ (scan (startW l th late ln) (segW l ln)).take (k + 1)).map wv) :: .lst ((lns b).map lnv4) :: g' ∧
        σ = [some (bv b), some (stv o), some (.tup (th.map wv)), some (.ref st.length), some (.ref (st.length + 1)), some (.int (if ln.pier then a else a + 1 : Nat)), some (lateV i late), some (.str (kd ln.pier)), some (.tup (ln.js.map jv)), some (.int ln.j0), some (.int ln.s0), some (wv (lastW (startW l th late ln) ((segW l ln).take k))), some (.ref (st.length + 3 + j12)), s13] := ⟨_, rfl⟩
      refine for_rule (k := 0) J (by
        rw [hJ]
        refine ⟨_, ?_, rfl⟩
        rw [scan_take (k := 0) (Nat.zero_le _)]
        simp [lastW]) ?_ ?_
      · intro k e σ S he hj0
        rw [hJ] at hj0
        obtain ⟨s13', rfl, rfl⟩ := hj0
        have hk := counted_lt he
        have ek : e = .int ((s1 ln + k : Nat) : Int) := by
          have := counted_get he
          simpa using this
        subst ek
        rw [Nat.zero_add]
        have hkl : k < (segW l ln).length := by omega
        have hsl : s1 ln + k < (ssOf b).length := by
          have a1 := A.fit
          have a2 := A.sz
          unfold s1
          omega
        have hget : (segW l ln)[k]? = some (nth l (s1 ln + k)) := by rw [E.seg_get hm hk, nth_get (by rw [E.ll]; exact hsl)]
        have ix2 := ixl (s1 ln + k) hsl
        simp only [Int.natCast_add] at ix2
        rw [ok_lpS]
        simp [Gat_lt, ix2, -List.map_append, -List.map_take]
        refine law_addW (E.wb (c := 5 * i + 5) (by omega) (hpb k)) (wl _ hsl) ?_
        rw [← last_take hget]
        simp [-List.map_append, -List.map_take]
        rw [rest_at]
        simp [-List.map_append, -List.map_take]
        have hsc := scan_len (segW l ln) (startW l th late ln)
        refine ⟨by omega, ?_⟩
        have e3 : (acc ++ (scan (startW l th late ln) (segW l ln)).take (k + 1)).map wv ++ [wv (lastW (startW l th late ln) ((segW l ln).take (k + 1)))] = (acc ++ (scan (startW l th late ln) (segW l ln)).take (k + 1 + 1)).map wv := by
          rw [scan_take (k := k + 1) (by omega)]; simp
        rw [e3, hJ]
        exact ⟨p3 _ _ _, _, rfl, rfl⟩
      · intro σ S hj0
        rw [hJ] at hj0
        obtain ⟨s13', rfl, rfl⟩ := hj0
        rw [counted_len, Nat.zero_add, show (scan (startW l th late ln) (segW l ln)).take (ln.js.length - 1 + 1) = scan (startW l th late ln) (segW l ln) from List.take_of_length_le (by rw [scan_len]; omega), show (segW l ln).take (ln.js.length - 1) = segW l ln from List.take_of_length_le (by omega)]
        simp [rest_at, -List.map_append]
        rw [hI]
        have hlast := hpb (segW l ln).length
        rw [List.take_length] at hlast
        refine ⟨_, _, acc ++ scan (startW l th late ln) (segW l ln), _, _, _, _, _, _, _, _, rfl, by rw [← hacc, List.append_assoc], hlast, hseq', rfl⟩
  · intro σ S hi0
    rw [hI] at hi0
    obtain ⟨g, late, acc, a, s7, s8, s9, s10, s11, s12, s13, rfl, hacc, hlate, hseq, rfl⟩ := hi0
    rw [List.length_map, Nat.zero_add, List.drop_length, passedW, List.append_nil] at hacc
    subst hacc
    simp [rest_at]
    rw [fin_ref (o := .lst ((PW b l th).map wv)) (by omega) (get_h1 rfl) (show PV.ltA _ _ = true from map_lt wv_lt _ _), List.take_left' rfl]
    exact q
end
end LAW

end
section
set_option Elab.async false
set_option linter.all false
set_option maxRecDepth 100000
set_option maxHeartbeats 4000000
/-! leans -/
namespace LAW
open PySem MP
theorem Rd.big {D N : Nat} {r : Rat} (hD : 0 < D) (a : Rd D N r) (h1 : N < 2 ^ 450) (h2 : D < 2 ^ 450) : Rb r :=
  a.rb hD (Nat.lt_trans h1 (Nat.pow_lt_pow_right (by decide) (by decide))) (Nat.lt_trans h2 (Nat.pow_lt_pow_right (by decide) (by decide)))
theorem p450 {N : Nat} (k : Nat) (hN : N < 2 ^ 410) (hk : k ≤ 2 ^ 40) : k * N < 2 ^ 450 := by
  have : (2 : Nat) ^ 450 = 2 ^ 40 * 2 ^ 410 := by rw [← Nat.pow_add]
  rw [this]
  have h1 : k * N ≤ 2 ^ 40 * N := Nat.mul_le_mul_right N hk
  have h2 : 2 ^ 40 * N < 2 ^ 40 * 2 ^ 410 := Nat.mul_lt_mul_of_pos_left hN (by decide)
  omega
def mo (w : Wr) (x y : Int) : Rat := (x : Rat) * w.2.1 - (y : Rat) * w.1 - w.2.2
/-- how a wrench leans at an end -/
def leanW (w : Wr) (j : Jt) : Rat × Rat := (mo w j.x0 j.y0, -mo w j.x1 j.y1)
section
variable {D N : Nat} {w : Wr} {st : Sto} {Q : PV × Sto → Prop}
structure MoOk (w : Wr) (x y : Int) : Prop where
  b : Wb w
  rx : Rb (x : Rat)
  ry : Rb (y : Rat)
  xv : Rb ((x : Rat) * w.2.1)
  yh : Rb ((y : Rat) * w.1)
  d : Rb ((x : Rat) * w.2.1 - (y : Rat) * w.1)
  mv : Rb (w.2.2 - w.2.1 * (x : Rat))
theorem mo_ok (hD : 0 < D) (h2 : D < 2 ^ 400) (h1 : N < 2 ^ 410) (hw : WD D N w) {x y : Int} (hx : -999 ≤ x ∧ x ≤ 999) (hy : -999 ≤ y ∧ y ≤ 999) : MoOk w x y := by
  have hD2 : D < 2 ^ 450 := Nat.lt_trans h2 (Nat.pow_lt_pow_right (by decide) (by decide))
  have hN2 : ∀ k, k ≤ 2 ^ 40 → k * N < 2 ^ 450 := fun k hk => p450 k h1 hk
  have ix : Rd 1 999 (x : Rat) := Rd.int (by omega)
  have iy : Rd 1 999 (y : Rat) := Rd.int (by omega)
  have xv : Rd D (999 * N) ((x : Rat) * w.2.1) := by have := ix.mul (by decide) hD hw.v; rwa [Nat.one_mul] at this
  have yh : Rd D (999 * N) ((y : Rat) * w.1) := by have := iy.mul (by decide) hD hw.h; rwa [Nat.one_mul] at this
  have n1 : N < 2 ^ 450 := by have := hN2 1 (by decide); omega
  refine ⟨⟨hw.h.big hD n1 hD2, hw.v.big hD n1 hD2, hw.m.big hD n1 hD2⟩, ix.big (by decide) (by decide) (by decide), iy.big (by decide) (by decide) (by decide), xv.big hD (hN2 999 (by decide)) hD2, yh.big hD (hN2 999 (by decide)) hD2, ?_, ?_⟩
  · have := xv.add hD yh.neg
    rw [← Rat.sub_eq_add_neg] at this
    refine this.big hD ?_ hD2
    rw [← Nat.add_mul]; exact hN2 1998 (by decide)
  · have e : w.2.1 * (x : Rat) = (x : Rat) * w.2.1 := Rat.mul_comm ..
    rw [e]
    have := hw.m.add hD xv.neg
    rw [← Rat.sub_eq_add_neg] at this
    refine this.big hD ?_ hD2
    have := hN2 1000 (by decide)
    omega
def ptv (j : Jt) (e : Nat) : Int × Int := if e = 0 then (j.x0, j.y0) else (j.x1, j.y1)
theorem jv_at (j : Jt) (S : Sto) : seqOf (jv j) S = some [.tup [.int j.x0, .int j.y0], .tup [.int j.x1, .int j.y1]] := rfl
theorem mk1 (i : Int) : PV.tup [.int i, .int 1] = rq (i : Rat) := (rq_int i).symm
theorem rq_at (r : Rat) (S : Sto) : seqOf (rq r) S = some [.int r.num, .int r.den] := rfl
theorem wv_at (w : Wr) (S : Sto) : seqOf (wv w) S = some [rq w.1, rq w.2.1, rq w.2.2] := rfl
theorem rq_neg (r : Rat) : PV.tup [.int (-r.num), .int r.den] = rq (-r) := by simp [rq, mkR]
theorem law_lean0 {j : Jt} (h : MoOk w j.x0 j.y0) (q : Q (rq (leanW w j).1, st)) : Ok (F__law_lean [wv w, jv j, .int 0] st) Q := by
  refine run__law_lean rfl ?_
  simp [b__law_lean, jv_at]
  rw [rest_at]
  simp [Gat_lt, wv_at, mk1]
  refine q_by h.rx h.b.v ?_
  simp [mk1, wv_at]
  refine q_by h.ry h.b.h ?_
  simp
  refine q_minus h.xv h.yh ?_
  simp [wv_at]
  refine q_minus h.d h.b.m ?_
  simp
  rw [rest_at]
  simp [fin_rq]
  exact q
theorem law_lean1 {j : Jt} (h : MoOk w j.x1 j.y1) (q : Q (rq (leanW w j).2, st)) : Ok (F__law_lean [wv w, jv j, .int 1] st) Q := by
  refine run__law_lean rfl ?_
  simp [b__law_lean, jv_at]
  rw [rest_at]
  simp [Gat_lt, wv_at, mk1]
  refine q_by h.rx h.b.v ?_
  simp [mk1, wv_at]
  refine q_by h.ry h.b.h ?_
  simp
  refine q_minus h.xv h.yh ?_
  simp [wv_at]
  refine q_minus h.d h.b.m ?_
  simp
  rw [rest_at]
  simp [rq_at, rq_neg, fin_rq]
  exact q
theorem moment_ok {x y : Int} (h : MoOk w x y) (q : Q (rq (-mo w x y), st)) : Ok (F_moment_in [wv w, .tup [.int x, .int y]] st) Q := by
  refine run_moment_in rfl ?_
  simp [b_moment_in, Gat_lt, wv_at]
  refine q_whole ?_
  simp
  refine q_product h.b.v h.rx ?_
  simp
  rw [rest_at]
  have hvx : Rb (w.2.1 * (x : Rat)) := by rw [Rat.mul_comm]; exact h.xv
  have hhy : Rb (w.1 * (y : Rat)) := by rw [Rat.mul_comm]; exact h.yh
  simp [Gat_lt, wv_at]
  refine q_minusP h.b.m hvx ?_
  simp [wv_at]
  refine q_whole ?_
  simp
  refine q_product h.b.h h.ry ?_
  simp
  refine q_pplus h.mv hhy ?_
  have e : w.2.2 - w.2.1 * (x : Rat) + w.1 * (y : Rat) = -mo w x y := by unfold mo; grind
  rw [e]
  simp [fin_rq]
  exact q
theorem lean_in0 {j : Jt} (h : MoOk w j.x0 j.y0) (q : Q (rq (leanW w j).1, st)) : Ok (F_lean_in [wv w, jv j, .int 0] st) Q := by
  refine run_lean_in rfl ?_
  simp [b_lean_in, Gat_lt, jv_at]
  refine moment_ok h ?_
  simp
  rw [rest_at]
  simp [Gat_lt]
  refine q_opposite ?_
  rw [Rat.neg_neg]
  simp [fin_rq]
  exact q
theorem lean_in1 {j : Jt} (h : MoOk w j.x1 j.y1) (q : Q (rq (leanW w j).2, st)) : Ok (F_lean_in [wv w, jv j, .int 1] st) Q := by
  refine run_lean_in rfl ?_
  simp [b_lean_in, Gat_lt, jv_at]
  refine moment_ok h ?_
  simp
  rw [rest_at]
  simp [fin_rq]
  exact q
end
end LAW

end
section
set_option Elab.async false
set_option linter.all false
set_option maxRecDepth 100000
set_option maxHeartbeats 4000000
/-! leans of a whole bridge; pushes -/
namespace LAW
open PySem MP
theorem scan_mem {w0 : Wr} {ls : List Wr} {w : Wr} (h : w ∈ scan w0 ls) : ∃ k, k ≤ ls.length ∧ w = lastW w0 (ls.take k) := by
  obtain ⟨k, hk, e⟩ := List.getElem_of_mem h
  rw [scan_len] at hk
  refine ⟨k, by omega, ?_⟩
  have := scan_get ls w0 k (by omega)
  rw [List.getElem?_eq_getElem (by rw [scan_len]; omega), e] at this
  exact Option.some.inj this
section
variable {b : Br} {l th : List Wr} {D M : Nat}
theorem Env.passed_bd (E : Env b l th D M) : ∀ (ls : List Ln) (late : Wr) (c : Nat), (∀ x ∈ ls, x ∈ lns b) → WD D (c * M) late → ∀ w ∈ passedW l th late ls, WD D ((c + 5 * ls.length) * M) w
  | [], late, c, _, _ => by simp [passedW]
  | ln :: ls, late, c, hm, hl => by
    intro w hw
    rw [passedW, List.mem_append] at hw
    have h1 := hm ln (by simp)
    rcases hw with hw | hw
    · obtain ⟨k, _, rfl⟩ := scan_mem hw
      exact (E.part_bd h1 hl k).mono (Nat.mul_le_mul_right M (by simp; omega))
    · have h2 := E.part_bd h1 hl (segW l ln).length
      rw [List.take_length] at h2
      have := E.passed_bd ls _ (c + 5) (fun x hx => hm x (by simp [hx])) h2 w hw
      rw [List.length_cons]
      rwa [show c + 5 * (ls.length + 1) = c + 5 + 5 * ls.length by omega]
theorem Env.pw_bd (E : Env b l th D M) : ∀ w ∈ PW b l th, WD D (30 * M) w := fun w hw => by
  have := E.passed_bd (lns b) wz 0 (fun x h => h) WD.zero w hw
  exact this.mono (Nat.mul_le_mul_right M (by have := E.ok.lns5; omega))
theorem Env.m410 (E : Env b l th D M) {c : Nat} (hc : c ≤ 200) : c * M < 2 ^ 410 := by
  have h2 : c * M ≤ 200 * M := Nat.mul_le_mul_right M hc
  have h3 : (2 : Nat) ^ 410 = 1024 * 2 ^ 400 := by rw [show (1024 : Nat) = 2 ^ 10 from rfl, ← Nat.pow_add]
  have := E.M1
  omega
theorem Bok.js {b : Br} (h : Bok b) : ∀ j ∈ jsOf b, Jok j := fun j hj => by
  unfold jsOf at hj
  obtain ⟨l, hl, hj⟩ := List.mem_flatMap.mp hj
  exact (h.ln l hl).1 j hj
theorem Env.mo (E : Env b l th D M) {w : Wr} (hw : w ∈ PW b l th) {j : Jt} (hj : j ∈ jsOf b) : MoOk w j.x0 j.y0 ∧ MoOk w j.x1 j.y1 := by
  have J := E.ok.js j hj
  have B := E.pw_bd w hw
  exact ⟨mo_ok E.D0 E.D1 (E.m410 (by omega)) B J.b0 J.b1, mo_ok E.D0 E.D1 (E.m410 (by omega)) B J.b2 J.b3⟩
/-- all leans -/
def LW (b : Br) (l th : List Wr) : List (Rat × Rat) := ((PW b l th).zip (jsOf b)).map fun p => leanW p.1 p.2
def lpv (p : Rat × Rat) : PV := .tup [rq p.1, rq p.2]
theorem lpv_lt (p : Rat × Rat) (k : Nat) : (lpv p).lt k = true := by simp [lpv, rq_lt]
def firmB (b : Br) (l th : List Wr) : Bool := (LW b l th).all fun p => decide (0 ≤ p.1) && decide (0 ≤ p.2)
variable {st : Sto} {Q : PV × Sto → Prop}
theorem Env.lw_len (E : Env b l th D M) : (LW b l th).length = (jsOf b).length := by
  unfold LW
  rw [List.length_map, List.length_zip, E.pw_len, Nat.min_self]
theorem paired_gen {α β : Type} {f : α → PV} {g : β → PV} : ∀ {xs : List α} {ys : List β}, paired (xs.map f) (ys.map g) = (xs.zip ys).map fun p => .tup [f p.1, g p.2]
  | [], ys => by simp [paired]
  | x :: xs, [] => by simp [paired]
  | x :: xs, y :: ys => by simp [paired, paired_gen]
theorem zip_swapJ {α β : Type} : ∀ {xs : List α} {ys : List β} {i : Nat} {p : β × α}, (ys.zip xs)[i]? = some p → (xs.zip ys)[i]? = some (p.2, p.1) := by
  intro xs ys i p h
  rw [List.getElem?_zip_eq_some] at h ⊢
  exact ⟨h.2, h.1⟩
theorem law_leans_ok {o : Option Nat} (E : Env b (loadsS b o) th D M) (ho : ∀ s, o = some s → s < 2) (q : Q (.ref st.length, st ++ [.lst ((LW b (loadsS b o) th).map lpv)])) : Ok (F__law_leans [bv b, stv o, .tup (th.map wv)] st) Q := by
  refine run__law_leans rfl ?_
  simp [b__law_leans, rest_at, Gat_lt]
  refine law_joints_okT E.ok ?_
  simp
  refine law_passed_ok E ho ?_
  have h20 := E.ok.js20
  have hpl := E.pw_len
  have hll := E.lw_len
  simp [items_h1, items_h2, paired_gen]
  obtain ⟨I, hI⟩ : ∃ I : Nat → Sl → Sto → Prop, I = fun k σ S => ∃ (s4 s5 : Option PV), S = st ++ [.lst (((LW b (loadsS b o) th).take k).map lpv), .lst ((jsOf b).map jv), .lst ((PW b (loadsS b o) th).map wv)] ∧
    σ = [some (bv b), some (stv o), some (.tup (th.map wv)), some (.ref st.length), s4, s5] := ⟨_, rfl⟩
  refine for_rule (k := 0) I (by rw [hI]; exact ⟨_, _, rfl, rfl⟩) ?_ ?_
  · intro i e σ S he hi0
    rw [hI] at hi0
    obtain ⟨s4, s5, rfl, rfl⟩ := hi0
    rw [List.getElem?_map, Option.map_eq_some_iff] at he
    obtain ⟨⟨j, w⟩, hi, rfl⟩ := he
    have hz := List.mem_of_getElem? hi
    have hj := (List.of_mem_zip hz).1
    have hw := (List.of_mem_zip hz).2
    obtain ⟨m0, m1⟩ := E.mo hw hj
    have hi2 := zip_swapJ hi
    have hL : (LW b (loadsS b o) th)[i]? = some (leanW w j) := by unfold LW; rw [List.getElem?_map, hi2]; rfl
    have hlt := (List.getElem?_eq_some_iff.mp hL).1
    rw [Nat.zero_add, ok_lpS]
    simp [Gat_lt]
    refine law_lean0 m0 ?_
    simp
    refine law_lean1 m1 ?_
    simp
    refine ⟨by omega, ?_⟩
    rw [hI]
    refine ⟨fun p hp => by
      simp at hp
      rcases hp with rfl | rfl
      · exact get_h1 rfl
      · exact get_h2 rfl, _, _, ?_, rfl⟩
    rw [List.take_succ, hL]
    simp [lpv]
  · intro σ S hi0
    rw [hI] at hi0
    obtain ⟨s4, s5, rfl, rfl⟩ := hi0
    rw [show 0 + (((jsOf b).zip (PW b (loadsS b o) th)).map fun p => PV.tup [jv p.1, wv p.2]).length = (LW b (loadsS b o) th).length by rw [Nat.zero_add, List.length_map, List.length_zip, hll]; omega, List.take_length]
    simp [rest_at]
    rw [ret_own (map_lt lpv_lt _ _)]
    exact q
theorem leans_in_ok {n : Nat} (E : Env b l th D M) (hn : st[n]? = some (.lst (l.map wv))) (q : Q (.ref st.length, st ++ [.lst ((LW b l th).map lpv)])) : Ok (F_leans_in [bv b, .ref n, .tup (th.map wv)] st) Q := by
  refine run_leans_in rfl ?_
  simp [b_leans_in, Gat_lt]
  refine passed_in_ok E hn ?_
  simp
  rw [rest_at]
  simp [Gat_lt]
  refine joints_in_okT E.ok ?_
  have h20 := E.ok.js20
  have hpl := E.pw_len
  have hll := E.lw_len
  simp
  rw [rest_at]
  simp [items_h0, paired_gen]
  rw [show st ++ [SO.lst ((PW b l th).map wv), SO.lst []] = (st ++ [.lst ((PW b l th).map wv)]) ++ [.lst []] by simp]
  refine lc_pureM (fun p : Wr × Jt => .tup [wv p.1, jv p.2]) (fun p => lpv (leanW p.1 p.2)) (by simp) (by simp; omega) (fun p hp acc ha => ?_) ?_
  · obtain ⟨m0, m1⟩ := E.mo (List.of_mem_zip hp).1 (List.of_mem_zip hp).2
    rw [ok_lcS]
    simp [Gat_lt]
    refine lean_in0 m0 ?_
    simp
    refine lean_in1 m1 ?_
    simp [lpv]
    exact ha
  · have e : ((PW b l th).zip (jsOf b)).map (fun p => lpv (leanW p.1 p.2)) = (LW b l th).map lpv := by unfold LW; simp
    rw [e, List.nil_append]
    show Q (fin _ _ _)
    have lt1 := map_lt lpv_lt (LW b l th) st.length
    simp
    rw [fin_ref (o := .lst ((LW b l th).map lpv)) (by omega) (get_h1 rfl) (show PV.ltA _ _ = true from lt1), List.take_left' rfl]
    exact q
theorem lp_all {ls : List (Rat × Rat)} : ((ls.map fun p => PV.bl (decide (0 ≤ p.1) && decide (0 ≤ p.2)))) = ls.map fun p => PV.bl (decide (0 ≤ p.1) && decide (0 ≤ p.2)) := rfl
theorem law_is_firm_ok {o : Option Nat} (E : Env b (loadsS b o) th D M) (ho : ∀ s, o = some s → s < 2) (q : Q (.bl (firmB b (loadsS b o) th), st)) : Ok (F__law_is_firm [bv b, stv o, .tup (th.map wv)] st) Q := by
  refine run__law_is_firm rfl ?_
  simp [b__law_is_firm, Gat_lt]
  refine law_leans_ok E ho ?_
  have hll := E.lw_len
  have h20 := E.ok.js20
  simp
  rw [show st ++ [SO.lst ((LW b (loadsS b o) th).map lpv), SO.lst []] = (st ++ [.lst ((LW b (loadsS b o) th).map lpv)]) ++ [.lst []] by simp]
  refine lc_pureM lpv (fun p => PV.bl (decide (0 ≤ p.1) && decide (0 ≤ p.2))) (by simp) (by simp; omega) (fun p hp acc ha => ?_) ?_
  · rw [ok_lcS]
    simp [lpv, rq_at]
    by_cases h1 : 0 ≤ p.1 <;> by_cases h2 : 0 ≤ p.2 <;> simp [h1, h2] <;> first | exact ha | skip
  · rw [List.nil_append]
    have e : lstOf (.ref (st.length + 1)) (st ++ [SO.lst ((LW b (loadsS b o) th).map lpv)] ++ [SO.lst ((LW b (loadsS b o) th).map fun p => PV.bl (decide (0 ≤ p.1) && decide (0 ≤ p.2)))]) = some ((LW b (loadsS b o) th).map fun p => PV.bl (decide (0 ≤ p.1) && decide (0 ≤ p.2))) := lst_ref (by simp)
    rw [e]
    simp only [Option.bind_some, bools_map, ok_some, all_map]
    simp
    exact q
end
end LAW

end
section
set_option Elab.async false
set_option linter.all false
set_option maxRecDepth 100000
set_option maxHeartbeats 4000000
/-! thrusts and pushes are what they should be -/
namespace LAW
open PySem MP
theorem rq_B (r : Rat) : ratioB (rq r) = true := by
  show (decide ((0 : Int) < r.den) && decide (Int.gcd r.num r.den = 1)) = true
  rw [decide_eq_true (den_pos r), Bool.true_and]
  have h := r.reduced
  rw [decide_eq_true_iff]
  exact h
theorem rq_sm {r : Rat} (h : Rb r) : smB (rq r) = true := by
  have h1 := Nat.lt_trans h.n (show 2 ^ 500 < 2 ^ 999 from Nat.pow_lt_pow_right (by decide) (by decide))
  have h2 := Nat.lt_trans h.d (show 2 ^ 500 < 2 ^ 999 from Nat.pow_lt_pow_right (by decide) (by decide))
  simp only [rq, mkR, smB, smA, Bool.and_true, Bool.and_eq_true, decide_eq_true_eq]
  exact ⟨h1, by simpa using h2⟩
theorem all_ones {α : Type} (xs : List α) : (xs.map fun _ => true).all id = true := by simp
section
variable {b : Br} {l th : List Wr} {D M : Nat} {st : Sto} {Q : PV × Sto → Prop}
theorem is_ratio_rq {r : Rat} (h : Rb r) (q : Q (.bl true, st)) : Ok (F_is_ratio [rq r] st) Q := is_ratio_any (rq_lt r _) (rq_sm h) (by rw [rq_B]; exact q)
theorem is_wrench_ok {w : Wr} (hw : Wb w) (q : Q (.bl true, st)) : Ok (F_is_wrench [wv w] st) Q := by
  refine run_is_wrench rfl ?_
  simp [b_is_wrench, wv, Gat_lt]
  refine is_row_tup ?_
  simp
  refine is_ratio_rq hw.h ?_
  simp
  refine is_ratio_rq hw.v ?_
  simp
  refine is_ratio_rq hw.m ?_
  simp [bools?]
  exact q
theorem is_thrust_in_ok (E : Env b l th D M) (q : Q (.bl true, st)) : Ok (F_is_thrust_in [bv b, .tup (th.map wv)] st) Q := by
  have hl := E.lt
  have hl3 := E.ok.l3
  have e3 : ∀ S, seqOf (bv b) S = some [.str "bridge", .tup (b.as.map av), .tup (b.ps.map piv), .tup [.tup [], .tup (b.cs.map cv)]] := fun S => rfl
  refine run_is_thrust_in rfl ?_
  simp [b_is_thrust_in, Gat_lt, e3]
  refine is_row_tup ?_
  simp [hl]
  refine lc_pureM wv (fun _ => PV.bl true) (by simp) (by simp; omega) (fun w hw acc ha => ?_) ?_
  · rw [ok_lcS]
    simp [Gat_lt]
    refine is_wrench_ok (E.wb (c := 1) (by omega) (by rw [Nat.one_mul]; exact E.t w hw)) ?_
    simp
    exact ha
  · rw [List.nil_append]
    have e := bools_map (f := fun _ : Wr => true) (xs := th)
    simp only [lst_new, Option.bind_some, e, ok_some, all_ones]
    simp
    exact q
theorem is_upright_ok {n : Nat} {ls : List (Rat × Rat)} (hn : st[n]? = some (.lst (ls.map lpv))) (hl : ls.length ≤ 1000) (q : Q (.bl (ls.all fun p => decide (0 ≤ p.1) && decide (0 ≤ p.2)), st)) : Ok (F_is_upright [.ref n] st) Q := by
  have hlt : n < st.length := (List.getElem?_eq_some_iff.mp hn).1
  refine run_is_upright rfl ?_
  simp [b_is_upright, items_ref hn]
  refine lc_pureM lpv (fun p => PV.bl (decide (0 ≤ p.1) && decide (0 ≤ p.2))) (fun p hp => by rw [List.mem_singleton.mp hp]; exact ⟨hlt, hn⟩) (by simp; omega) (fun p hp acc ha => ?_) ?_
  · rw [ok_lcS]
    simp [lpv, rq_at]
    by_cases h1 : 0 ≤ p.1 <;> by_cases h2 : 0 ≤ p.2 <;> simp [h1, h2] <;> first | exact ha | skip
  · rw [List.nil_append]
    simp only [lst_new, Option.bind_some, bools_map, ok_some, all_map]
    simp
    exact q
/-- a bridge without loads, a thrust -/
theorem Env.none (E : Env b l th D M) : Env b (loadsS b none) th D M := ⟨E.ok, by simp [loadsS], E.lt, fun w hw => by
  unfold loadsS at hw
  rw [List.eq_of_mem_replicate hw]; exact WD.zero, E.t, E.D0, E.D1, E.M1⟩
theorem is_push_in_ok (E : Env b (loadsS b none) th D M) (q : Q (.bl (firmB b (loadsS b none) th), st)) : Ok (F_is_push_in [bv b, .tup (th.map wv)] st) Q := by
  refine run_is_push_in rfl ?_
  simp [b_is_push_in, Gat_lt]
  refine is_thrust_in_ok E ?_
  simp
  refine no_loads_ok E.ok ?_
  have hll := E.lw_len
  have h20 := E.ok.js20
  simp [-List.map_replicate]
  refine leans_in_ok (l := loadsS b none) E (by simp [loadsS]) ?_
  simp [-List.map_replicate]
  have lt1 := map_lt lpv_lt (LW b (loadsS b none) th) st.length
  have f1 : ∀ A : SO, fin st.length (.ref (st.length + 1)) (st ++ [A, SO.lst ((LW b (loadsS b none) th).map lpv)]) = (.ref st.length, st ++ [.lst ((LW b (loadsS b none) th).map lpv)]) := fun A => by
    rw [fin_ref (o := .lst ((LW b (loadsS b none) th).map lpv)) (by omega) (get_h1 rfl) (show PV.ltA _ _ = true from lt1), List.take_left' rfl]
  rw [f1]
  refine is_upright_ok (ls := LW b (loadsS b none) th) (by simp) (by omega) ?_
  simp
  exact q
theorem want_bridge_okT (hb : IsB (bv b)) (q : Q (bv b, st)) : Ok (F_want_bridge [bv b] st) Q := want_bridge_ok hb q
theorem is_push_ok (hb : IsB (bv b)) (E : Env b (loadsS b none) th D M) (q : Q (.bl (firmB b (loadsS b none) th), st)) : Ok (F_is_push [bv b, .tup (th.map wv)] st) Q := by
  refine run_is_push rfl ?_
  simp [b_is_push, Gat_lt]
  refine want_bridge_ok hb ?_
  simp
  refine is_push_in_ok E ?_
  simp
  exact q
theorem av_lt (a : Ar) (k : Nat) : (av a).lt k = true := by simp [av, map_lt jv_lt, map_lt sv_lt]
theorem piv_lt (p : Pr) (k : Nat) : (piv p).lt k = true := by simp [piv, sv_lt, map_lt jv_lt, map_lt sv_lt]
theorem cv_lt (c : Ct) (k : Nat) : (cv c).lt k = true := by simp [cv]
theorem bv_lt (b : Br) (k : Nat) : (bv b).lt k = true := by simp [bv, map_lt av_lt, map_lt piv_lt, map_lt cv_lt]
theorem fin_bv {k : Nat} {S : Sto} : fin k (bv b) S = (bv b, S.take k) := by
  have := bv_lt b k
  unfold bv at this ⊢
  rw [fin_tup (by simpa using this)]
theorem fin_th {k : Nat} {S : Sto} : fin k (.tup (th.map wv)) S = (.tup (th.map wv), S.take k) := fin_tup (map_lt wv_lt _ _)
theorem want_push_ok (E : Env b (loadsS b none) th D M) (h : firmB b (loadsS b none) th = true) (q : Q (.tup (th.map wv), st)) : Ok (F_want_push [bv b, .tup (th.map wv)] st) Q := by
  refine run_want_push rfl ?_
  simp [b_want_push, Gat_lt]
  refine is_push_in_ok E ?_
  simp [h]
  rw [rest_at]
  simp [fin_th]
  exact q
theorem want_thrust_ok (E : Env b l th D M) (q : Q (.tup (th.map wv), st)) : Ok (F_want_thrust [bv b, .tup (th.map wv)] st) Q := by
  refine run_want_thrust rfl ?_
  simp [b_want_thrust, Gat_lt]
  refine is_thrust_in_ok E ?_
  simp
  rw [rest_at]
  simp [fin_th]
  exact q
theorem want_state_ok {s : Nat} (hs : s < 2) (q : Q (.int s, st)) : Ok (F_want_state [bv b, .int s] st) Q := by
  have e3 : ∀ S, seqOf (bv b) S = some [.str "bridge", .tup (b.as.map av), .tup (b.ps.map piv), .tup [.tup [], .tup (b.cs.map cv)]] := fun S => rfl
  refine run_want_state rfl ?_
  simp [b_want_state, Gat_lt, e3]
  refine is_within_ok (by omega) (by omega) ?_
  simp
  rw [rest_at]
  simp
  exact q
theorem want_foot_ok {f : Nat} (hf : f ≤ b.as.length) (q : Q (.int f, st)) : Ok (F_want_foot [bv b, .int f] st) Q := by
  have e3 : ∀ S, seqOf (bv b) S = some [.str "bridge", .tup (b.as.map av), .tup (b.ps.map piv), .tup [.tup [], .tup (b.cs.map cv)]] := fun S => rfl
  refine run_want_foot rfl ?_
  simp [b_want_foot, Gat_lt, e3]
  refine is_within_ok (by omega) (by omega) ?_
  simp
  rw [rest_at]
  simp
  exact q
end
end LAW

end
section
set_option Elab.async false
set_option linter.all false
set_option maxRecDepth 100000
set_option maxHeartbeats 4000000
/-! what feet bear: the plain side -/
namespace LAW
open PySem MP
def cnti (s : Int) (n : Nat) : List Int := (List.range n).map fun (i : Nat) => s + (i : Int)
theorem cnti_len (s : Int) (n : Nat) : (cnti s n).length = n := by simp [cnti]
/-- what lies behind a line's joints: stones, a foot as -1 less its number -/
def bhL (K tot : Nat) (ln : Ln) : List Int :=
  if ln.pier then cnti (ln.s0 + 1 : Nat) (ln.js.length - 1) ++ [-1 - ((ln.at_ + 1 : Nat) : Int)]
  else cnti ln.s0 (ln.js.length - 1) ++ [if ln.j0 + ln.js.length = tot then -1 - (K : Int) else (ln.s0 : Int) + ((ln.js.length - 1 : Nat) : Int)]
def tagL (K tot : Nat) (ln : Ln) : List Nat := if ln.pier then [ln.at_ + 1] else if ln.j0 + ln.js.length = tot then [K] else []
def PB (l th : List Wr) (K tot : Nat) : Wr → List Ln → List (Wr × Int)
  | _, [] => []
  | late, ln :: r => (scan (startW l th late ln) (segW l ln)).zip (bhL K tot ln) ++ PB l th K tot (lastW (startW l th late ln) (segW l ln)) r
/-- the feet, each with what it bears -/
def endsT (l th : List Wr) (K tot : Nat) : Wr → List Ln → List (Nat × Wr)
  | _, [] => []
  | late, ln :: r => (tagL K tot ln).map (fun t => (t, lastW (startW l th late ln) (segW l ln))) ++ endsT l th K tot (lastW (startW l th late ln) (segW l ln)) r
def picks (f : Nat) (ps : List (Wr × Int)) : List Wr := (ps.filter fun p => decide (p.2 = -1 - (f : Int))).map (·.1)
theorem picks_app (f : Nat) (a c : List (Wr × Int)) : picks f (a ++ c) = picks f a ++ picks f c := by simp [picks]
theorem bhL_len {K tot : Nat} {ln : Ln} (h : 1 ≤ ln.js.length) : (bhL K tot ln).length = ln.js.length := by
  unfold bhL
  split <;> simp [cnti_len] <;> omega
theorem zip_last {w : Wr} {ls : List Wr} {c : List Int} {x : Int} (h : c.length = ls.length) : (scan w ls).zip (c ++ [x]) = ((scan w ls).take ls.length).zip c ++ [(lastW w ls, x)] := by
  have e : scan w ls = (scan w ls).take ls.length ++ [lastW w ls] := by
    have := scan_take (w := w) (ls := ls) (k := ls.length) (Nat.le_refl _)
    rw [List.take_length] at this
    rw [← this, List.take_of_length_le (by rw [scan_len]; omega)]
  have hl : ((scan w ls).take ls.length).length = c.length := by rw [List.length_take, scan_len, h]; omega
  conv => lhs; rw [e]
  rw [List.zip_append hl]
  rfl
theorem picks_none {f : Nat} {ws : List Wr} {s : Nat} {n : Nat} : picks f (ws.zip (cnti s n)) = [] := by
  unfold picks
  rw [List.map_eq_nil_iff, List.filter_eq_nil_iff]
  rintro ⟨w, x⟩ h
  have hx := (List.of_mem_zip h).2
  unfold cnti at hx
  obtain ⟨i, _, rfl⟩ := List.mem_map.mp hx
  simp
  omega
theorem picks_line {l th : List Wr} {K tot f : Nat} {late : Wr} {ln : Ln} (hs : (segW l ln).length = ln.js.length - 1) (hf : 1 ≤ f) :
    picks f ((scan (startW l th late ln) (segW l ln)).zip (bhL K tot ln)) = (((tagL K tot ln).map fun t => (t, lastW (startW l th late ln) (segW l ln))).filter fun p => decide (p.1 = f)).map (·.2) := by
  have one : ∀ (x : Int) (w : Wr), picks f [(w, x)] = if x = -1 - (f : Int) then [w] else [] := fun x w => by
    unfold picks
    by_cases h : x = -1 - (f : Int) <;> simp [h]
  unfold bhL tagL
  cases hp : ln.pier with
  | true =>
    simp only [if_true]
    rw [zip_last (by rw [cnti_len, hs]), picks_app, picks_none, List.nil_append, one]
    by_cases h : ln.at_ + 1 = f
    · subst h; simp
    · rw [if_neg (by omega)]; simp [h]
  | false =>
    simp only [Bool.false_eq_true, if_false]
    rw [zip_last (by rw [cnti_len, hs]), picks_app, picks_none, List.nil_append, one]
    by_cases ht : ln.j0 + ln.js.length = tot
    · rw [if_pos ht, if_pos ht]
      by_cases h : K = f
      · subst h; simp
      · rw [if_neg (by omega)]; simp [h]
    · rw [if_neg ht, if_neg ht, if_neg (by omega)]; simp
theorem picks_PB {l th : List Wr} {K tot f : Nat} (hf : 1 ≤ f) : ∀ (ls : List Ln) (late : Wr), (∀ ln ∈ ls, (segW l ln).length = ln.js.length - 1) → picks f (PB l th K tot late ls) = ((endsT l th K tot late ls).filter fun p => decide (p.1 = f)).map (·.2)
  | [], late, _ => rfl
  | ln :: ls, late, h => by
    rw [PB, picks_app, picks_line (h ln (by simp)) hf, picks_PB hf ls _ fun x hx => h x (by simp [hx]), endsT, List.filter_append, List.map_append]
theorem PB_zip {l th : List Wr} {K tot : Nat} : ∀ (ls : List Ln) (late : Wr), (∀ ln ∈ ls, (segW l ln).length = ln.js.length - 1 ∧ 1 ≤ ln.js.length) → (passedW l th late ls).zip (ls.flatMap (bhL K tot)) = PB l th K tot late ls
  | [], late, _ => rfl
  | ln :: ls, late, h => by
    obtain ⟨h1, h2⟩ := h ln (by simp)
    rw [passedW, List.flatMap_cons, List.zip_append (by rw [scan_len, bhL_len h2]; omega), PB_zip ls _ fun x hx => h x (by simp [hx]), PB]
theorem flat_range : ∀ (L : List (Nat × Wr)) (s : Nat), L.map (·.1) = List.range' s L.length → (List.range' s L.length).flatMap (fun f => (L.filter fun p => decide (p.1 = f)).map (·.2)) = L.map (·.2)
  | [], s, _ => rfl
  | p :: L, s, h => by
    rw [List.length_cons, List.range'_succ, List.map_cons] at h
    obtain ⟨h1, h2⟩ := List.cons.inj h
    rw [List.length_cons, List.range'_succ, List.flatMap_cons]
    have ih := flat_range L (s + 1) h2
    have big : ∀ q ∈ L, s < q.1 := fun q hq => by
      have : q.1 ∈ L.map (·.1) := List.mem_map_of_mem hq
      rw [h2, List.mem_range'_1] at this
      omega
    have e1 : ((p :: L).filter fun q => decide (q.1 = s)).map (·.2) = [p.2] := by
      rw [List.filter_cons_of_pos (by simpa using h1)]
      have : (L.filter fun q => decide (q.1 = s)) = [] := by
        rw [List.filter_eq_nil_iff]
        intro q hq
        have := big q hq
        simp; omega
      rw [this]; rfl
    have e2 : (List.range' (s + 1) L.length).flatMap (fun f => ((p :: L).filter fun q => decide (q.1 = f)).map (·.2)) = (List.range' (s + 1) L.length).flatMap (fun f => (L.filter fun q => decide (q.1 = f)).map (·.2)) := by
      rw [List.flatMap_def, List.flatMap_def]
      refine congrArg List.flatten (List.map_congr_left fun f hf => ?_)
      rw [List.mem_range'_1] at hf
      rw [List.filter_cons_of_neg (by simp; omega)]
    rw [e1, e2, ih]; rfl
theorem js_pos : ∀ {as : List Ar} {ps : List Pr}, (∀ a ∈ as, Aok a) → (∀ p ∈ ps, Pok p) → ∀ (k j s : Nat), ∀ ln ∈ lnsFrom as ps k j s, 1 ≤ ln.js.length := fun ha hp k j s ln h => (lns_ok ha hp k j s ln h).2.2.1
/-- the tags are 1, 2, .. -/
theorem tags_ok {l th : List Wr} {tot K : Nat} : ∀ (as : List Ar) (ps : List Pr) (k j s : Nat) (late : Wr), (∀ a ∈ as, Aok a) → (∀ p ∈ ps, Pok p) → ps.length + 1 = as.length → K = k + as.length → tot = j + ((lnsFrom as ps k j s).flatMap (·.js)).length →
    (endsT l th K tot late (lnsFrom as ps k j s)).map (·.1) = List.range' (k + 1) as.length
  | [], ps, k, j, s, late, _, _, h, _, _ => by simp at h
  | [a], p :: ps, k, j, s, late, _, _, h, _, _ => by simp at h
  | a :: a2 :: as, [], k, j, s, late, _, _, h, _, _ => by simp at h
  | [a], [], k, j, s, late, ha, hp, h, hK, ht => by
    simp only [lnsFrom, List.flatMap_cons, List.flatMap_nil, List.append_nil] at ht
    simp only [lnsFrom, endsT, tagL, List.append_nil, Bool.false_eq_true, if_false]
    rw [if_pos ht.symm]
    simp at hK
    simp [hK]
  | a :: a2 :: as, p :: ps, k, j, s, late, ha, hp, h, hK, ht => by
    have hpos := js_pos (as := a2 :: as) (ps := ps) (fun x hx => ha x (by simp [hx])) (fun x hx => hp x (by simp [hx])) (k + 1) (j + a.js.length + p.js.length) (s + a.ss.length + 1 + p.ss.length)
    have hP := (hp p (by simp)).l
    rw [lnsFrom] at ht ⊢
    simp only [List.flatMap_cons, List.length_append] at ht
    rw [endsT, endsT]
    simp only [tagL, Bool.false_eq_true, if_false, if_true]
    rw [if_neg (by omega)]
    have ih := tags_ok (l := l) (th := th) (tot := tot) (K := K) (a2 :: as) ps (k + 1) (j + a.js.length + p.js.length) (s + a.ss.length + 1 + p.ss.length) (lastW (startW l th (lastW (startW l th late ⟨false, k, a.js, a.ss, j, s⟩) (segW l ⟨false, k, a.js, a.ss, j, s⟩)) ⟨true, k, p.js, p.h :: p.ss, j + a.js.length, s + a.ss.length⟩) (segW l ⟨true, k, p.js, p.h :: p.ss, j + a.js.length, s + a.ss.length⟩))
      (fun x hx => ha x (by simp [hx])) (fun x hx => hp x (by simp [hx])) (by simpa using h) (by rw [hK]; simp; omega) (by omega)
    simp only [List.map_nil, List.nil_append, List.map_cons, List.map_append, List.cons_append]
    rw [ih, List.length_cons (as := a2 :: as), List.range'_succ]
end LAW

end
section
set_option Elab.async false
set_option linter.all false
set_option maxRecDepth 100000
set_option maxHeartbeats 4000000
/-! what feet bear: the program -/
namespace LAW
open PySem MP
section
variable {α : Type} {xs : List α} {x y z u v w : α}
@[simp] theorem at_4 : L2.atI (x :: y :: z :: u :: v :: xs) 4 = some v := by rw [at_nat (i := 4) (n := 4) rfl (by simp)]; rfl
@[simp] theorem at_5 : L2.atI (x :: y :: z :: u :: v :: w :: xs) 5 = some w := by rw [at_nat (i := 5) (n := 5) rfl (by simp)]; rfl
end
def Offs : Nat → List Ln → Prop
  | _, [] => True
  | j, ln :: r => ln.j0 = j ∧ Offs (j + ln.js.length) r
theorem lns_offs : ∀ (as : List Ar) (ps : List Pr) (k j s : Nat), Offs j (lnsFrom as ps k j s)
  | [], _, _, _, _ => trivial
  | a :: as, [], k, j, s => ⟨rfl, lns_offs as [] _ _ _⟩
  | a :: as, p :: ps, k, j, s => ⟨rfl, rfl, lns_offs as ps _ _ _⟩
def posT (K tot : Nat) (ls : List Ln) : List Nat := ls.flatMap fun ln => (tagL K tot ln).map fun _ => ln.j0 + ln.js.length - 1
theorem pos_ok {l th : List Wr} {K tot : Nat} : ∀ (ls : List Ln) (late : Wr) (pre : List Wr), Offs pre.length ls → (∀ ln ∈ ls, (segW l ln).length = ln.js.length - 1 ∧ 1 ≤ ln.js.length) →
    (posT K tot ls).map (fun p => (pre ++ passedW l th late ls)[p]?) = (endsT l th K tot late ls).map fun p => some p.2
  | [], late, pre, _, _ => rfl
  | ln :: ls, late, pre, ho, h => by
    obtain ⟨h1, h2⟩ := h ln (by simp)
    obtain ⟨o1, o2⟩ := ho
    have hsc := scan_len (segW l ln) (startW l th late ln)
    have ih := pos_ok (l := l) (th := th) (K := K) (tot := tot) ls (lastW (startW l th late ln) (segW l ln)) (pre ++ scan (startW l th late ln) (segW l ln)) (by rw [List.length_append, hsc, show pre.length + ((segW l ln).length + 1) = pre.length + ln.js.length by omega]; exact o2) fun x hx => h x (by simp [hx])
    unfold posT at ih ⊢
    rw [List.flatMap_cons, List.map_append, endsT, List.map_append, passedW]
    congr 1
    · rw [List.map_map, List.map_map]
      apply List.map_congr_left
      intro t _
      show (pre ++ (scan (startW l th late ln) (segW l ln) ++ passedW l th (lastW (startW l th late ln) (segW l ln)) ls))[ln.j0 + ln.js.length - 1]? = some (lastW (startW l th late ln) (segW l ln))
      rw [List.getElem?_append_right (by omega), List.getElem?_append_left (by omega), show ln.j0 + ln.js.length - 1 - pre.length = (segW l ln).length by omega, scan_get _ _ _ (Nat.le_refl _), List.take_length]
    · rw [← List.append_assoc]; exact ih
theorem pos_last {K tot : Nat} : ∀ (as : List Ar) (ps : List Pr) (k j s : Nat), (∀ a ∈ as, Aok a) → (∀ p ∈ ps, Pok p) → ps.length + 1 = as.length → tot = j + ((lnsFrom as ps k j s).flatMap (·.js)).length →
    ((lnsFrom as ps k j s).filter (·.pier)).map (fun ln => ln.j0 + ln.js.length - 1) ++ [tot - 1] = posT K tot (lnsFrom as ps k j s)
  | [], ps, k, j, s, _, _, h, _ => by simp at h
  | [a], p :: ps, k, j, s, _, _, h, _ => by simp at h
  | a :: a2 :: as, [], k, j, s, _, _, h, _ => by simp at h
  | [a], [], k, j, s, ha, hp, h, ht => by
    simp only [lnsFrom, List.flatMap_cons, List.flatMap_nil, List.append_nil] at ht
    simp only [lnsFrom, posT, tagL, List.flatMap_cons, List.flatMap_nil, Bool.false_eq_true, if_false]
    rw [if_pos ht.symm]
    simp [ht]
  | a :: a2 :: as, p :: ps, k, j, s, ha, hp, h, ht => by
    have hpos := js_pos (as := a2 :: as) (ps := ps) (fun x hx => ha x (by simp [hx])) (fun x hx => hp x (by simp [hx])) (k + 1) (j + a.js.length + p.js.length) (s + a.ss.length + 1 + p.ss.length)
    have hP := (hp p (by simp)).l
    rw [lnsFrom] at ht ⊢
    simp only [List.flatMap_cons, List.length_append] at ht
    have ih := pos_last (tot := tot) (K := K) (a2 :: as) ps (k + 1) (j + a.js.length + p.js.length) (s + a.ss.length + 1 + p.ss.length) (fun x hx => ha x (by simp [hx])) (fun x hx => hp x (by simp [hx])) (by simpa using h) (by omega)
    unfold posT at ih ⊢
    rw [List.flatMap_cons, List.flatMap_cons]
    simp only [tagL, Bool.false_eq_true, if_false, if_true] at ih ⊢
    rw [if_neg (by omega)]
    simp only [List.filter_cons, Bool.false_eq_true, if_false, if_true, List.map_cons, List.map_nil, List.nil_append, List.cons_append]
    rw [ih]
/-- what the feet bear -/
def endW (b : Br) (l th : List Wr) : List Wr := (endsT l th b.as.length (jsOf b).length wz (lns b)).map (·.2)
def borneW (b : Br) (l th : List Wr) : List Wr := wneg (nth th 0) :: endW b l th
theorem fin_at4 {st : Sto} {o1 o2 o3 o4 o5 : SO} (h : o5.lt (st.length + 3) = true) : fin (List.length st + 3) (PV.ref (List.length st + 3 + 1)) (st ++ [o1, o2, o3, o4, o5]) = (.ref (st.length + 3), st ++ [o1, o2, o3, o5]) := by
  rw [fin_ref (o := o5) (by omega) (by rw [List.getElem?_append_right (by omega), show st.length + 3 + 1 - st.length = 4 by omega]; rfl) h]
  rw [List.take_append, List.take_of_length_le (by omega), show st.length + 3 - st.length = 3 by omega]
  simp
theorem lc_filt {α : Type} {w : List (Nat × SO)} {st : Sto} {Q : Sto → Prop} {step : PV → Sto → Option Sto} (g f : α → PV) (p : α → Bool) (hw : ∀ p ∈ w, p.1 < st.length ∧ st[p.1]? = some p.2) : ∀ {as : List α} {acc : List PV}, acc.length + as.length ≤ 1000000 →
    (∀ a ∈ as, ∀ acc : List PV, acc.length < 1000000 → Ok (step (g a) (st ++ [.lst acc])) (fun s => s = st ++ [.lst (acc ++ if p a then [f a] else [])])) → Q (st ++ [.lst (acc ++ (as.filter p).map f)]) → Ok (lcL w step (as.map g) (st ++ [.lst acc])) Q
  | [], acc, hl, hx, q => by simpa using q
  | a :: as, acc, hl, hx, q => by
    rw [List.map_cons, lc_cons]
    rw [List.length_cons] at hl
    refine (hx a (by simp) acc (by omega)).mono ?_
    rintro _ rfl
    refine ⟨fun p hp => ?_, lc_filt g f p hw (by split <;> simp <;> omega) (fun y hy => hx y (by simp [hy])) ?_⟩
    · rw [List.getElem?_append_left (hw p hp).1]
      exact (hw p hp).2
    · cases h : p a with
      | true => rw [List.filter_cons_of_pos h] at q; simpa [h] using q
      | false => rw [List.filter_cons_of_neg (by simp [h])] at q; simpa [h] using q
section
variable {b : Br} {l th : List Wr} {D M : Nat} {st : Sto} {Q : PV × Sto → Prop}
theorem Env.segs (E : Env b l th D M) : ∀ ln ∈ lns b, (segW l ln).length = ln.js.length - 1 ∧ 1 ≤ ln.js.length := fun ln h => ⟨E.seg_len h, (E.ok.ln ln h).2.2.1⟩
theorem Env.end_len (E : Env b l th D M) : (endW b l th).length = b.as.length := by
  have := congrArg List.length (tags_ok (l := l) (th := th) (tot := (jsOf b).length) (K := b.as.length) b.as b.ps 0 0 0 wz E.ok.a E.ok.p E.ok.l (by omega) (by rw [Nat.zero_add]; rfl))
  unfold endW
  rw [List.length_map, List.length_range'] at this
  rw [List.length_map]
  exact this
theorem Env.borne_len (E : Env b l th D M) : (borneW b l th).length = b.as.length + 1 := by
  unfold borneW
  rw [List.length_cons, E.end_len]
theorem Env.end_pos (E : Env b l th D M) : ((((lns b).filter (fun ln : Ln => ln.pier)).map fun ln : Ln => ln.j0 + ln.js.length - 1) ++ [(PW b l th).length - 1]).map (fun p => (PW b l th)[p]?) = (endW b l th).map some := by
  have h1 := pos_last (K := b.as.length) (tot := (jsOf b).length) b.as b.ps 0 0 0 E.ok.a E.ok.p E.ok.l (by rw [Nat.zero_add]; rfl)
  have h2 := pos_ok (l := l) (th := th) (K := b.as.length) (tot := (jsOf b).length) (lns b) wz [] (lns_offs _ _ _ _ _) E.segs
  rw [E.pw_len]
  rw [show (((lns b).filter (fun ln : Ln => ln.pier)).map fun ln : Ln => ln.j0 + ln.js.length - 1) ++ [(jsOf b).length - 1] = posT b.as.length (jsOf b).length (lns b) from h1]
  simp only [List.nil_append] at h2
  unfold endW PW
  rw [h2, List.map_map]
  rfl
theorem onto_foot_ok {n f : Nat} (E : Env b l th D M) (hn : st[n]? = some (.lst (l.map wv))) (hf : f ≤ b.as.length) (q : Q (wv (nth (borneW b l th) f), st)) : Ok (F_onto_foot [bv b, .ref n, .tup (th.map wv), .int f] st) Q := by
  have hlA : 1 ≤ b.as.length := by have := E.ok.l; omega
  have ixt : L2.atI (th.map wv) 0 = some (wv (nth th 0)) := by
    rw [at_nat (i := 0) (n := 0) rfl (by rw [List.length_map, E.lt]; exact hlA), List.getElem?_map, nth_get (by rw [E.lt]; exact hlA)]; rfl
  have em : PV.tup [.int (-1), .int 1] = mkR (-1) 1 := rfl
  refine run_onto_foot rfl ?_
  simp [b_onto_foot, Gat_lt, ixt, em]
  refine ⟨fun h0 => ?_, fun h0 => ?_⟩
  · subst h0
    refine taken_negW (E.wb (c := 1) (by omega) (by rw [Nat.one_mul]; exact E.t _ (nth_mem (by rw [E.lt]; exact hlA)))) ?_
    simp only [nd_rt]
    rw [fin_wv, take_self]
    exact q
  · rw [rest_at]
    simp [Gat_lt]
    refine passed_in_ok E hn ?_
    simp
    rw [rest_at]
    simp [Gat_lt]
    refine parts_okT E.ok ?_
    have h20 := E.ok.js20
    have h5 := E.ok.lns5
    have hpl := E.pw_len
    simp
    rw [show st ++ [SO.lst ((PW b l th).map wv), SO.lst ((lns b).map lnv), SO.lst []] = (st ++ [.lst ((PW b l th).map wv), .lst ((lns b).map lnv)]) ++ [.lst []] by simp]
    refine lc_filt lnv (fun ln => .int ((ln.j0 + ln.js.length - 1 : Nat) : Int)) (·.pier) (fun p hp => by simp at hp; subst hp; simp) (by simp; omega) (fun ln hln acc ha => ?_) ?_
    · have h1 := (E.ok.ln ln hln).2.2.1
      rw [ok_lcS]
      simp [lnv, kd_p]
      cases hp : ln.pier with
      | true =>
        simp
        exact ⟨ha, by omega⟩
      | false => simp
    · rw [List.nil_append]
      have hpos := E.end_pos
      rw [rest_at]
      generalize hL : ((lns b).filter (fun ln : Ln => ln.pier)).map (fun ln : Ln => ln.j0 + ln.js.length - 1) = L at hpos
      have eL : ((lns b).filter (fun x => x.pier)).map (fun ln : Ln => PV.int ((ln.j0 + ln.js.length - 1 : Nat) : Int)) = L.map fun i : Nat => PV.int (i : Int) := by rw [← hL]; simp
      rw [eL]
      have hLl : L.length + 1 = b.as.length := by
        have := congrArg List.length hpos
        rw [List.length_map, List.length_map, List.length_append, E.end_len] at this
        simpa using this
      have posAt : ∀ i, i < b.as.length → ∃ p, (L ++ [(PW b l th).length - 1])[i]? = some p ∧ (PW b l th)[p]? = some (nth (endW b l th) i) := fun i hi => by
        have e2 := congrArg (fun x => x[i]?) hpos
        simp only [List.getElem?_map] at e2
        rw [List.getElem?_eq_getElem (l := L ++ [(PW b l th).length - 1]) (by simp; omega), nth_get (l := endW b l th) (by rw [E.end_len]; exact hi)] at e2
        exact ⟨_, List.getElem?_eq_getElem (by simp; omega), by simpa using e2⟩
      have hp1 : 1 ≤ (PW b l th).length := by
        obtain ⟨p, _, h2⟩ := posAt 0 (by omega)
        have := (List.getElem?_eq_some_iff.mp h2).1
        omega
      simp [seq_h0, seq_h2, lst_h2, get_h2]
      have hLb : L.length ≤ (lns b).length := by rw [← hL, List.length_map]; exact List.length_filter_le _ _
      refine ⟨by omega, ?_⟩
      have ilt : ∀ (l : List Nat) (k : Nat), PV.ltA k (l.map fun i : Nat => PV.int (i : Int)) = true := fun l k => map_lt (fun _ _ => by simp [PV.lt]) _ _
      have el : L.map (fun i : Nat => PV.int (i : Int)) ++ [PV.int ((PW b l th).length - 1)] = (L ++ [(PW b l th).length - 1]).map fun i : Nat => PV.int (i : Int) := by
        rw [List.map_append, List.map_cons, List.map_nil, show (((PW b l th).length - 1 : Nat) : Int) = ((PW b l th).length : Int) - 1 by omega]
      rw [el]
      have e5 : fin (List.length st + 3) (PV.ref (List.length st + 3 + 1)) (st ++ [SO.lst ((PW b l th).map wv), SO.lst ((lns b).map lnv), SO.lst (L.map fun i : Nat => PV.int (i : Int)), SO.lst [PV.int ((PW b l th).length - 1)], SO.lst ((L ++ [(PW b l th).length - 1]).map fun i : Nat => PV.int (i : Int))])
          = (.ref (st.length + 3), st ++ [SO.lst ((PW b l th).map wv), SO.lst ((lns b).map lnv), SO.lst (L.map fun i : Nat => PV.int (i : Int)), SO.lst ((L ++ [(PW b l th).length - 1]).map fun i : Nat => PV.int (i : Int))]) :=
        fin_at4 (ilt _ _)
      rw [e5]
      obtain ⟨p, p1, p2⟩ := posAt (f - 1) (by omega)
      have ei : L2.atI ((L ++ [(PW b l th).length - 1]).map fun i : Nat => PV.int (i : Int)) ((f : Int) - 1) = some (.int (p : Int)) := by
        rw [at_nat (i := (f : Int) - 1) (n := f - 1) (by omega) (by rw [List.length_map]; exact (List.getElem?_eq_some_iff.mp p1).1), List.getElem?_map, p1]; rfl
      have ep : L2.atI ((PW b l th).map wv) (p : Int) = some (wv (nth (endW b l th) (f - 1))) := by
        rw [at_nat (i := (p : Int)) (n := p) rfl (by rw [List.length_map]; exact (List.getElem?_eq_some_iff.mp p2).1), List.getElem?_map, p2]; rfl
      clear e5 el
      generalize (L ++ [(PW b l th).length - 1]).map (fun i : Nat => PV.int (i : Int)) = G at ei ⊢
      simp [seq_h0, seq_h3, ei, ep]
      have en : nth (borneW b l th) f = nth (endW b l th) (f - 1) := by
        obtain ⟨f, rfl⟩ : ∃ g, f = g + 1 := ⟨f - 1, by omega⟩
        simp [nth, borneW]
      have et : ∀ o1 o2 o3 o4 : SO, (st ++ [o1, o2, o3, o4]).take (st.length + 3) = st ++ [o1, o2, o3] := fun o1 o2 o3 o4 => by
        rw [List.take_append, List.take_of_length_le (by omega), show st.length + 3 - st.length = 3 by omega]; rfl
      rw [et]
      simp [seq_h0, ep]
      rw [fin_wv]
      simp
      rw [← en]
      exact q
end
end LAW

end
section
set_option Elab.async false
set_option linter.all false
set_option maxRecDepth 100000
set_option maxHeartbeats 4000000
/-! sums, works -/
namespace LAW
open PySem MP
def sumR (rs : List Rat) : Rat := rs.foldl (· + ·) 0
def dotW (w m : Wr) : Rat := sumR [w.1 * m.2.1, w.2.1 * m.2.2, w.2.2 * m.1]
def workW (ws ms : List Wr) : Rat := sumR ((ws.zip ms).map fun p => dotW p.1 p.2)
theorem foldl_bd {D N : Nat} (hD : 0 < D) : ∀ {rs : List Rat} {r : Rat} {M : Nat}, Rd D M r → (∀ x ∈ rs, Rd D N x) → Rd D (M + rs.length * N) (rs.foldl (· + ·) r)
  | [], r, M, h, _ => by simpa using h
  | x :: rs, r, M, h, hx => by
    have := foldl_bd hD (h.add hD (hx x (by simp))) (rs := rs) fun y hy => hx y (by simp [hy])
    rw [List.foldl_cons, List.length_cons]
    refine this.mono ?_
    rw [Nat.add_mul]; omega
theorem sumR_bd {D N : Nat} (hD : 0 < D) {rs : List Rat} (h : ∀ x ∈ rs, Rd D N x) : Rd D (rs.length * N) (sumR rs) := by
  have := foldl_bd hD (Rd.zero (D := D) (N := 0)) h
  rwa [Nat.zero_add] at this
theorem dot_bd {D E N M : Nat} (hD : 0 < D) (hE : 0 < E) {w m : Wr} (hw : WD D N w) (hm : WD E M m) : Rd (D * E) (3 * (N * M)) (dotW w m) :=
  sumR_bd (Nat.mul_pos hD hE) (by
    intro x hx
    simp at hx
    rcases hx with rfl | rfl | rfl
    · exact hw.h.mul hD hE hm.v
    · exact hw.v.mul hD hE hm.m
    · exact hw.m.mul hD hE hm.h)
section
variable {D N : Nat} {rs : List Rat} {st : Sto} {Q : PV × Sto → Prop}
theorem part_sum (hD : 0 < D) (h2 : D < 2 ^ 450) (h : ∀ x ∈ rs, Rd D N x) (h1 : rs.length * N < 2 ^ 450) (k : Nat) : Rb ((rs.take k).foldl (· + ·) 0) := by
  have := sumR_bd hD (rs := rs.take k) fun x hx => h x (List.mem_of_mem_take hx)
  refine this.big hD (Nat.lt_of_le_of_lt (Nat.mul_le_mul_right N ?_) h1) h2
  rw [List.length_take]; omega
theorem law_sum_ok {n : Nat} (hn : st[n]? = some (.lst (rs.map rq))) (hD : 0 < D) (h2 : D < 2 ^ 450) (h : ∀ x ∈ rs, Rd D N x) (h0 : N < 2 ^ 450) (h1 : rs.length * N < 2 ^ 450) (q : Q (rq (sumR rs), st)) : Ok (F__law_sum [.ref n] st) Q := by
  have hlt : n < st.length := (List.getElem?_eq_some_iff.mp hn).1
  refine run__law_sum rfl ?_
  simp [b__law_sum, Gat_lt]
  rw [rest_at]
  simp [items_ref hn, Gat_lt]
  obtain ⟨I, hI⟩ : ∃ I : Nat → Sl → Sto → Prop, I = fun k σ S => ∃ s2 : Option PV, S = st ∧ σ = [some (.ref n), some (rq ((rs.take k).foldl (· + ·) 0)), s2] := ⟨_, rfl⟩
  refine for_rule (k := 0) I (by rw [hI]; exact ⟨none, rfl, rfl⟩) ?_ ?_
  · intro i e σ S he hi0
    rw [hI] at hi0
    obtain ⟨s2, rfl, rfl⟩ := hi0
    rw [List.getElem?_map, Option.map_eq_some_iff] at he
    obtain ⟨x, hl, rfl⟩ := he
    rw [Nat.zero_add]
    rw [ok_lpS]
    simp [Gat_lt]
    refine q_plus (part_sum hD h2 h h1 i) ((h x (List.mem_of_getElem? hl)).big hD h0 h2) ?_
    simp
    rw [hI]
    refine ⟨by simpa using hn, some (rq x), rfl, ?_⟩
    rw [List.take_add_one, hl, List.foldl_append]
    rfl
  · intro σ S hi0
    rw [hI] at hi0
    obtain ⟨s2, rfl, rfl⟩ := hi0
    rw [List.length_map, Nat.zero_add, List.take_length]
    simp [rest_at]
    rw [fin_rq, take_self]
    exact q
theorem total_ok {n : Nat} (hn : st[n]? = some (.lst (rs.map rq))) (hD : 0 < D) (h2 : D < 2 ^ 450) (h : ∀ x ∈ rs, Rd D N x) (h0 : N < 2 ^ 450) (h1 : rs.length * N < 2 ^ 450) (q : Q (rq (sumR rs), st)) : Ok (F_total [.ref n] st) Q := by
  have hlt : n < st.length := (List.getElem?_eq_some_iff.mp hn).1
  refine run_total rfl ?_
  simp [b_total, Gat_lt, g_NOUGHT]
  rw [rest_at]
  simp [items_ref hn, Gat_lt]
  obtain ⟨I, hI⟩ : ∃ I : Nat → Sl → Sto → Prop, I = fun k σ S => ∃ s2 : Option PV, S = st ∧ σ = [some (.ref n), some (rq ((rs.take k).foldl (· + ·) 0)), s2] := ⟨_, rfl⟩
  refine for_rule (k := 0) I (by rw [hI]; exact ⟨none, rfl, rfl⟩) ?_ ?_
  · intro i e σ S he hi0
    rw [hI] at hi0
    obtain ⟨s2, rfl, rfl⟩ := hi0
    rw [List.getElem?_map, Option.map_eq_some_iff] at he
    obtain ⟨x, hl, rfl⟩ := he
    rw [Nat.zero_add]
    rw [ok_lpS]
    simp [Gat_lt]
    refine q_pplus (part_sum hD h2 h h1 i) ((h x (List.mem_of_getElem? hl)).big hD h0 h2) ?_
    simp
    rw [hI]
    refine ⟨by simpa using hn, some (rq x), rfl, ?_⟩
    rw [List.take_add_one, hl, List.foldl_append]
    rfl
  · intro σ S hi0
    rw [hI] at hi0
    obtain ⟨s2, rfl, rfl⟩ := hi0
    rw [List.length_map, Nat.zero_add, List.take_length]
    simp [rest_at]
    rw [fin_rq, take_self]
    exact q
end
section
variable {D E N M : Nat} {w m : Wr} {st : Sto} {Q : PV × Sto → Prop}
structure DotOk (D E N M : Nat) (w m : Wr) : Prop where
  D0 : 0 < D
  E0 : 0 < E
  d : D * E < 2 ^ 450
  n : 3 * (N * M) < 2 ^ 450
  dw : WD D N w
  dm : WD E M m
  bw : Wb w
  bm : Wb m
theorem DotOk.parts (h : DotOk D E N M w m) : ∀ x ∈ [w.1 * m.2.1, w.2.1 * m.2.2, w.2.2 * m.1], Rd (D * E) (N * M) x := by
  intro x hx
  simp at hx
  rcases hx with rfl | rfl | rfl
  · exact h.dw.h.mul h.D0 h.E0 h.dm.v
  · exact h.dw.v.mul h.D0 h.E0 h.dm.m
  · exact h.dw.m.mul h.D0 h.E0 h.dm.h
theorem law_works_ok (h : DotOk D E N M w m) (q : Q (rq (dotW w m), st)) : Ok (F__law_works [wv w, wv m] st) Q := by
  refine run__law_works rfl ?_
  simp [b__law_works, Gat_lt, wv_at]
  refine q_by h.bw.h h.bm.v ?_
  simp
  refine q_by h.bw.v h.bm.m ?_
  simp
  refine q_by h.bw.m h.bm.h ?_
  simp
  have hn := h.n
  refine law_sum_ok (rs := [w.1 * m.2.1, w.2.1 * m.2.2, w.2.2 * m.1]) (by simp) (Nat.mul_pos h.D0 h.E0) h.d h.parts (by omega) (by simpa using hn) ?_
  simp
  rw [fin_rq]
  simp
  exact q
theorem worked_ok (h : DotOk D E N M w m) (q : Q (rq (dotW w m), st)) : Ok (F_worked [wv w, wv m] st) Q := by
  refine run_worked rfl ?_
  simp [b_worked, Gat_lt, wv_at]
  refine q_product h.bw.h h.bm.v ?_
  simp
  refine q_product h.bw.v h.bm.m ?_
  simp
  refine q_product h.bw.m h.bm.h ?_
  simp
  have hn := h.n
  refine total_ok (rs := [w.1 * m.2.1, w.2.1 * m.2.2, w.2.2 * m.1]) (by simp) (Nat.mul_pos h.D0 h.E0) h.d h.parts (by omega) (by simpa using hn) ?_
  simp
  rw [fin_rq]
  simp
  exact q
end
end LAW

end
section
set_option Elab.async false
set_option linter.all false
set_option maxRecDepth 100000
set_option maxHeartbeats 4000000
/-! what feet bear, as a list; what it works -/
namespace LAW
open PySem MP
theorem counted_eq (lo : Int) (k : Nat) : counted lo k = (List.range k).map fun i : Nat => PV.int (lo + (i : Int)) := by
  apply List.ext_getElem
  · simp [counted_len]
  · intro i h1 h2
    have := counted_get (List.getElem?_eq_getElem h1)
    simp [this]
section
variable {b : Br} {l th : List Wr} {D M : Nat} {st : Sto} {Q : PV × Sto → Prop}
theorem Env.end_mem (E : Env b l th D M) {w : Wr} (h : w ∈ endW b l th) : w ∈ PW b l th := by
  have e := E.end_pos
  have : some w ∈ (endW b l th).map some := List.mem_map_of_mem h
  rw [← e, List.mem_map] at this
  obtain ⟨p, _, hp⟩ := this
  exact List.mem_of_getElem? hp
theorem Env.borne_bd (E : Env b l th D M) : ∀ w ∈ borneW b l th, WD D (30 * M) w := fun w hw => by
  unfold borneW at hw
  rcases List.mem_cons.mp hw with rfl | hw
  · have hl := E.ok.l
    exact (E.t _ (nth_mem (by rw [E.lt]; omega))).neg.mono (by omega)
  · exact E.pw_bd w (E.end_mem hw)
theorem foot_count_ok (q : Q (.int (b.as.length + 1 : Nat), st)) : Ok (F_foot_count [bv b] st) Q := by
  have e3 : ∀ S, seqOf (bv b) S = some [.str "bridge", .tup (b.as.map av), .tup (b.ps.map piv), .tup [.tup [], .tup (b.cs.map cv)]] := fun S => rfl
  refine run_foot_count rfl ?_
  simp [b_foot_count, Gat_lt, e3]
  simpa using q
theorem nth_map (l : List Wr) : (List.range l.length).map (fun f => wv (nth l f)) = l.map wv := by
  apply List.ext_getElem
  · simp
  · intro i h1 h2
    simp at h1
    simp [nth, List.getD, h1]
theorem borne_in_ok {n : Nat} (E : Env b l th D M) (hn : st[n]? = some (.lst (l.map wv))) (q : Q (.ref st.length, st ++ [.lst ((borneW b l th).map wv)])) : Ok (F_borne_in [bv b, .ref n, .tup (th.map wv)] st) Q := by
  have hlt : n < st.length := (List.getElem?_eq_some_iff.mp hn).1
  have h3 := E.ok.l3
  refine run_borne_in rfl ?_
  simp [b_borne_in, Gat_lt]
  refine foot_count_ok ?_
  simp
  refine ⟨by omega, ?_⟩
  rw [counted_eq, show (fun i : Nat => PV.int ((0 : Int) + (i : Int))) = fun i : Nat => PV.int (i : Int) from funext fun i => by rw [Int.zero_add]]
  refine lc_pureM (fun i : Nat => PV.int (i : Int)) (fun f => wv (nth (borneW b l th) f)) (by simp) (by simp; omega) (fun f hf acc ha => ?_) ?_
  · rw [List.mem_range] at hf
    rw [ok_lcS]
    simp [Gat_lt]
    refine onto_foot_ok E (by rw [List.getElem?_append_left hlt]; exact hn) (by omega) ?_
    simp
    exact ha
  · rw [List.nil_append, ← E.borne_len, nth_map, fin_newL (map_lt wv_lt _ _)]
    exact q
/-- movements -/
structure Mv (b : Br) (ms : List Wr) (E N : Nat) : Prop where
  l : ms.length = b.as.length + 1
  m : ∀ m ∈ ms, WD E N m
  E0 : 0 < E
  E1 : E < 2 ^ 30
  N1 : N < 2 ^ 30
theorem pow_lt2 {x y a c : Nat} (h1 : x < 2 ^ a) (h2 : y < 2 ^ c) : x * y < 2 ^ (a + c) := by
  rw [Nat.pow_add]
  exact Nat.mul_lt_mul'' h1 h2
theorem WD.wb30 {E N : Nat} {m : Wr} (h : WD E N m) (h0 : 0 < E) (h1 : E < 2 ^ 30) (h2 : N < 2 ^ 30) : Wb m :=
  h.wb h0 (Nat.lt_trans h2 (Nat.pow_lt_pow_right (by decide) (by decide))) (Nat.lt_trans h1 (Nat.pow_lt_pow_right (by decide) (by decide)))
theorem Env.dot (E : Env b l th D M) {ms : List Wr} {F N : Nat} (V : Mv b ms F N) {w m : Wr} (hw : w ∈ borneW b l th) (hm : m ∈ ms) : DotOk D F (30 * M) N w m := by
  have h1 := E.borne_bd w hw
  have h2 := V.m m hm
  have h3 := E.m410 (c := 30) (by omega)
  have h4 : 3 * (30 * M * N) < 2 ^ (2 + (410 + 30)) := pow_lt2 (by decide) (pow_lt2 h3 V.N1)
  have h5 : D * F < 2 ^ (400 + 30) := pow_lt2 E.D1 V.E1
  exact ⟨E.D0, V.E0, Nat.lt_trans h5 (Nat.pow_lt_pow_right (by decide) (by decide)), Nat.lt_trans h4 (Nat.pow_lt_pow_right (by decide) (by decide)), h1, h2, E.wb (by omega) h1, h2.wb30 V.E0 V.E1 V.N1⟩
/-- the dots of feet and moves are not too great to be summed -/
theorem Env.dots (E : Env b l th D M) {ms : List Wr} {F N : Nat} (V : Mv b ms F N) : 0 < D * F ∧ D * F < 2 ^ 450 ∧ (∀ x ∈ (((borneW b l th).zip ms).map fun p => dotW p.1 p.2), Rd (D * F) (3 * (30 * M * N)) x) ∧ 3 * (30 * M * N) < 2 ^ 450 ∧ (((borneW b l th).zip ms).map fun p => dotW p.1 p.2).length * (3 * (30 * M * N)) < 2 ^ 450 := by
  have h3 := E.m410 (c := 30) (by omega)
  have h4 : 3 * (30 * M * N) < 2 ^ (2 + (410 + 30)) := pow_lt2 (by decide) (pow_lt2 h3 V.N1)
  have h5 : D * F < 2 ^ (400 + 30) := pow_lt2 E.D1 V.E1
  have hl : (((borneW b l th).zip ms).map fun p => dotW p.1 p.2).length ≤ 4 := by
    have := E.ok.l3
    rw [List.length_map, List.length_zip, E.borne_len, V.l]; omega
  refine ⟨Nat.mul_pos E.D0 V.E0, Nat.lt_trans h5 (Nat.pow_lt_pow_right (by decide) (by decide)), fun x hx => ?_, Nat.lt_trans h4 (Nat.pow_lt_pow_right (by decide) (by decide)), ?_⟩
  · obtain ⟨p, hp, rfl⟩ := List.mem_map.mp hx
    have hp' := List.of_mem_zip hp
    exact dot_bd E.D0 V.E0 (E.borne_bd _ hp'.1) (V.m _ hp'.2)
  · have h6 : (((borneW b l th).zip ms).map fun p => dotW p.1 p.2).length * (3 * (30 * M * N)) < 2 ^ (3 + (2 + (410 + 30))) := pow_lt2 (Nat.lt_of_le_of_lt hl (by decide)) h4
    exact Nat.lt_trans h6 (Nat.pow_lt_pow_right (by decide) (by decide))
theorem work_in_ok {n : Nat} {ms : List Wr} {F N : Nat} (E : Env b l th D M) (V : Mv b ms F N) (hn : st[n]? = some (.lst (l.map wv))) (q : Q (rq (workW (borneW b l th) ms), st)) : Ok (F_work_in [bv b, .ref n, .tup (th.map wv), .tup (ms.map wv)] st) Q := by
  have hlt : n < st.length := (List.getElem?_eq_some_iff.mp hn).1
  have hbl := E.borne_len
  have h3 := E.ok.l3
  obtain ⟨d1, d2, d3, d4, d5⟩ := E.dots V
  refine run_work_in rfl ?_
  simp [b_work_in, Gat_lt]
  refine borne_in_ok E hn ?_
  simp [isTupV, paired_gen]
  have hp4 : ((borneW b l th).zip ms).length ≤ 4 := by rw [List.length_zip]; omega
  rw [show st ++ [SO.lst ((borneW b l th).map wv), SO.lst []] = (st ++ [.lst ((borneW b l th).map wv)]) ++ [.lst []] by simp]
  refine lc_pureM (fun p : Wr × Wr => PV.tup [wv p.1, wv p.2]) (fun p => rq (dotW p.1 p.2)) (by simp) (by simp only [List.length_nil]; omega) (fun p hp acc ha => ?_) ?_
  · have hp' := List.of_mem_zip hp
    rw [ok_lcS]
    simp [Gat_lt]
    refine worked_ok (E.dot V hp'.1 hp'.2) ?_
    simp
    exact ha
  · rw [List.nil_append, show ((borneW b l th).zip ms).map (fun p => rq (dotW p.1 p.2)) = (((borneW b l th).zip ms).map fun p => dotW p.1 p.2).map rq by simp]
    refine total_ok (by simp) d1 d2 d3 d4 d5 ?_
    rw [fin_rq]
    simp
    exact q
end
end LAW

end
section
set_option Elab.async false
set_option linter.all false
set_option maxRecDepth 100000
set_option maxHeartbeats 4000000
/-! what feet bear: the law's sides -/
namespace LAW
open PySem MP
def prv (p : Int × Int) : PV := .tup [.int p.1, .int p.2]
theorem prv_lt (p : Int × Int) (k : Nat) : (prv p).lt k = true := by simp [prv]
def SeqF : Nat → List Ln → Prop
  | _, [] => True
  | f, ln :: r => (ln.pier = true → ln.at_ = f) ∧ SeqF (if ln.pier then f + 1 else f) r
theorem lns_seqF : ∀ (as : List Ar) (ps : List Pr) (k j s f : Nat), (ps ≠ [] → f = k) → SeqF f (lnsFrom as ps k j s)
  | [], _, _, _, _, _, _ => trivial
  | a :: as, [], k, j, s, f, _ => ⟨fun e => (by cases e), lns_seqF as [] _ _ _ _ fun e => absurd rfl e⟩
  | a :: as, p :: ps, k, j, s, f, e => ⟨fun e => (by cases e), fun _ => (e (by simp)).symm, lns_seqF as ps _ _ _ _ fun _ => by show f + 1 = k + 1; rw [e (by simp)]⟩
theorem counted_int (lo : Int) (k : Nat) : counted lo k = (cnti lo k).map PV.int := by rw [counted_eq, cnti, List.map_map]; rfl
theorem cnti_cons (lo : Int) (k : Nat) : cnti lo (k + 1) = lo :: cnti (lo + 1) k := by
  unfold cnti
  rw [List.range_succ_eq_map, List.map_cons, List.map_map]
  simp
  intro a _
  omega
theorem il_lt (l : List Int) (k : Nat) : PV.ltA k (l.map PV.int) = true := map_lt (f := PV.int) (fun _ _ => by simp) _ _
theorem fin_at2 {S : Sto} {a c : SO} {xs : List PV} (h : PV.ltA S.length xs = true) : fin S.length (.ref (S.length + 2)) (S ++ [a, c, .lst xs]) = (.ref S.length, S ++ [.lst xs]) := by
  rw [fin_ref (o := .lst xs) (by omega) (by simp) h, List.take_left' rfl]
theorem fin_b1 {S : Sto} {x y : SO} {zs : List PV} (h : PV.ltA (S.length + 1) zs = true) : fin (S.length + 1) (.ref (S.length + 1 + 1)) (S ++ [x, y, .lst zs]) = (.ref (S.length + 1), S ++ [x, .lst zs]) := by
  rw [fin_ref (o := .lst zs) (by omega) (by rw [List.getElem?_append_right (by omega), show S.length + 1 + 1 - S.length = 2 by omega]; rfl) h, List.take_append, List.take_of_length_le (by omega), show S.length + 1 - S.length = 1 by omega]
  simp
theorem fin_b2 {S : Sto} {x y z : SO} {zs : List PV} (h : PV.ltA (S.length + 1) zs = true) : fin (S.length + 1) (.ref (S.length + 3)) (S ++ [x, y, z, .lst zs]) = (.ref (S.length + 1), S ++ [x, .lst zs]) := by
  rw [fin_ref (o := .lst zs) (by omega) (by simp) h, List.take_append, List.take_of_length_le (by omega), show S.length + 1 - S.length = 1 by omega]
  simp
theorem cut_1 {α : Type} (xs : List α) : cut xs (some 1) none = xs.drop 1 := by
  unfold cut
  rw [show HT.sIx xs.length 0 (some 1) = min 1 xs.length from HT.sIx_nat _ _ 1, HT.sIx_none]
  cases xs with
  | nil => rfl
  | cons x xs => simp
theorem sl_ref {S : Sto} {n : Nat} {xs : List PV} (h : S[n]? = some (.lst xs)) : slOp (.ref n) (some 1) none S = some (.ref S.length, S ++ [.lst (xs.drop 1)]) := by
  unfold slOp
  rw [← cut_1]
  simp only [h]
theorem lst_ref {S : Sto} {n : Nat} {xs : List PV} (h : S[n]? = some (.lst xs)) : lstOf (.ref n) S = some xs := by unfold lstOf; simp only [h]
theorem zip_more {α : Type} (a0 : α) (l : List α) : (a0 :: l).zip l = ((a0 :: l).take l.length).zip l := by
  apply List.ext_getElem
  · simp
  · intro i h1 h2
    simp
theorem flat_bhL {b : Br} (hb : Bok b) {K tot i : Nat} : (((lns b).take i).flatMap (bhL K tot)).length = (((lns b).take i).flatMap (·.js)).length := by
  rw [List.length_flatMap, List.length_flatMap]
  refine congrArg List.sum (List.map_congr_left fun ln h => ?_)
  exact bhL_len (hb.ln ln (List.mem_of_mem_take h)).2.2.1
theorem take_left0 {st g : Sto} : (st ++ g).take st.length = st := List.take_left' rfl
section
variable {b : Br} {st : Sto} {Q : PV × Sto → Prop}
theorem law_sides_ok (hb : Bok b) (q : ∀ aa : List Int, aa.length = ((lns b).flatMap (bhL b.as.length (jsOf b).length)).length → Q (.ref st.length, st ++ [.lst ((aa.zip ((lns b).flatMap (bhL b.as.length (jsOf b).length))).map prv)])) : Ok (F__law_sides [bv b] st) Q := by
  have e3 : ∀ S, seqOf (bv b) S = some [.str "bridge", .tup (b.as.map av), .tup (b.ps.map piv), .tup [.tup [], .tup (b.cs.map cv)]] := fun S => rfl
  refine run__law_sides rfl ?_
  simp [b__law_sides, Gat_lt]
  rw [rest_at]
  simp [Gat_lt]
  refine lines_okT hb ?_
  simp
  have h20 := hb.js20
  have h5 := hb.lns5
  generalize hT : (jsOf b).length = tot at *
  obtain ⟨I, hI⟩ : ∃ I : Nat → Sl → Sto → Prop, I = fun k σ S => ∃ (g : Sto) (aa : List Int) (f : Nat) (ah : Int) (s4 s5 s6 s7 s8 s9 s10 : Option PV), S = st ++ .lst ((aa.zip (((lns b).take k).flatMap (bhL b.as.length tot))).map prv) :: .lst ((lns b).map lnv4) :: g ∧ aa.length = (((lns b).take k).flatMap (bhL b.as.length tot)).length ∧ SeqF f ((lns b).drop k) ∧ f ≤ k ∧
    σ = [some (bv b), some (.ref st.length), some (.int ah), some (.int f), s4, s5, s6, s7, s8, s9, s10] := ⟨_, rfl⟩
  refine for_rule (k := 0) I (by rw [hI]; exact ⟨[], [], 0, -1, _, _, _, _, _, _, _, by simp, rfl, lns_seqF _ _ _ _ _ _ fun _ => rfl, Nat.le_refl _, rfl⟩) ?_ ?_
  · intro i e σ S he hi0
    rw [hI] at hi0
    obtain ⟨g, aa, f, ah, s4, s5, s6, s7, s8, s9, s10, rfl, haa, hseq, hfi, rfl⟩ := hi0
    rw [List.getElem?_map, Option.map_eq_some_iff] at he
    obtain ⟨ln, hl, rfl⟩ := he
    have hm := List.mem_of_getElem? hl
    have hi : i < (lns b).length := (List.getElem?_eq_some_iff.mp hl).1
    obtain ⟨_, _, j1, j4, _⟩ := hb.ln ln hm
    have A := hb.lnat ln hm
    have h15 := hb.ss15
    have hs0 : ln.s0 ≤ 15 := by have := A.fit; omega
    rw [Nat.zero_add] at haa hseq ⊢
    rw [drop_lns hl] at hseq
    obtain ⟨hpf, hseq'⟩ := hseq
    have htk : ((lns b).take (i + 1)).flatMap (bhL b.as.length tot) = ((lns b).take i).flatMap (bhL b.as.length tot) ++ bhL b.as.length tot ln := flat_take hl
    have hbl := bhL_len (K := b.as.length) (tot := tot) j1
    rw [ok_lpS]
    simp [lnv4, -b_cons]
    have hitems : ∃ S0 : Sto, S0 = st ++ SO.lst ((aa.zip (((lns b).take i).flatMap (bhL b.as.length tot))).map prv) :: SO.lst ((lns b).map lnv4) :: g := ⟨_, rfl⟩
    obtain ⟨S0, hS0⟩ := hitems
    rw [← hS0]
    obtain ⟨K, hK⟩ : ∃ K : Fl → Prop, K = fun fl => ∃ (g' : Sto) (j8 : Nat) (ah' a0 : Int) (s9 s10 : Option PV), g'[j8]? = some (.lst ((a0 :: bhL b.as.length tot ln).map .int)) ∧ fl = Fl.nx [some (bv b), some (.ref st.length), some (.int ah'), some (.int (if ln.pier then f + 1 else f : Nat)), some (.str (kd ln.pier)), some (.tup (ln.js.map jv)), some (.int ln.j0), some (.int ln.s0), some (.ref (S0.length + j8)), s9, s10] (S0 ++ g') := ⟨_, rfl⟩
    rw [b_cons]
    refine Ok.mono (Q := K) ?_ ?_
    · cases hp : ln.pier with
      | true =>
        simp [kd_p, Gat_lt]
        rw [rest_at]
        simp [Gat_lt]
        refine ⟨by omega, ?_⟩
        rw [counted_int, show ((ln.s0 : Int) + ln.js.length).toNat - ln.s0 = ln.js.length by omega, show [PV.int (-1 - ((f : Int) + 1))] = [(-1 - ((f : Int) + 1))].map PV.int from rfl, ← List.map_append]
        refine ⟨by simp [cnti_len]; omega, ?_⟩
        rw [fin_at2 (il_lt _ _), rest_at]
        simp [-List.map_append]
        rw [hK]
        refine ⟨[.lst ((cnti ln.s0 ln.js.length ++ [-1 - ((f : Int) + 1)]).map .int)], 0, ln.s0, ln.s0, s9, s10, ?_, ?_⟩
        · rw [List.getElem?_cons_zero]
          unfold bhL
          rw [hp, if_pos rfl, hpf hp]
          conv => lhs; rw [show ln.js.length = (ln.js.length - 1) + 1 by omega, cnti_cons]
          simp
        · simp [-List.map_append, hp]
      | false =>
        simp [kd_p, Gat_lt]
        refine law_joints_okT hb ?_
        simp
        rw [rest_at]
        simp [Gat_lt, e3]
        refine ⟨by omega, ?_⟩
        rw [rest_at, counted_int, show ((ln.s0 : Int) + ln.js.length).toNat - 1 - ln.s0 = ln.js.length - 1 by omega]
        simp [Gat_lt, e3, lst_h0]
        rw [show PV.int ah :: (cnti ln.s0 (ln.js.length - 1)).map PV.int = (ah :: cnti ln.s0 (ln.js.length - 1)).map PV.int from rfl, fin_b1 (il_lt _ _)]
        refine ⟨by rw [cnti_len]; omega, fun hlast => ?_, fun hlast => ?_⟩
        · simp [lst_h1, seq_h0, -List.map_cons]
          refine ⟨by rw [cnti_len]; omega, ?_⟩
          rw [show [PV.int (-1 - (b.as.length : Int))] = [(-1 - (b.as.length : Int))].map PV.int from rfl, ← List.map_append, fin_b2 (il_lt _ _), hK]
          refine ⟨[.lst ((cnti ln.s0 (ln.js.length - 1)).map .int), .lst (((ah :: cnti ln.s0 (ln.js.length - 1)) ++ [-1 - (b.as.length : Int)]).map .int)], 1, ah, ah, some (.bl (decide ((ln.j0 : Int) + ln.js.length = (jsOf b).length))), some (.ref S0.length), ?_, ?_⟩
          rotate_left
          · simp only [hp, Bool.false_eq_true, if_false]
          · unfold bhL
            rw [hp, if_neg (by simp), if_pos (by omega)]
            rfl
        · simp [lst_h1, seq_h0, -List.map_cons]
          refine ⟨by rw [cnti_len]; omega, ?_⟩
          rw [cnti_len, show [PV.int ((ln.s0 : Int) + ((ln.js.length - 1 : Nat) : Int))] = [((ln.s0 : Int) + ((ln.js.length - 1 : Nat) : Int))].map PV.int from rfl, ← List.map_append, fin_b2 (il_lt _ _), hK]
          refine ⟨[.lst ((cnti ln.s0 (ln.js.length - 1)).map .int), .lst (((ah :: cnti ln.s0 (ln.js.length - 1)) ++ [((ln.s0 : Int) + ((ln.js.length - 1 : Nat) : Int))]).map .int)], 1, ah, ah, some (.bl (decide ((ln.j0 : Int) + ln.js.length = (jsOf b).length))), some (.ref S0.length), ?_, ?_⟩
          rotate_left
          · simp only [hp, Bool.false_eq_true, if_false]
          · unfold bhL
            rw [hp, if_neg (by simp), if_neg (by omega)]
            rfl
    · rw [hK]
      rintro _ ⟨g', j8, ah', a0, s9, s10, h8, rfl⟩
      clear hK K
      subst hS0
      rw [sq_nx, rest_at]
      obtain ⟨A0, hA0⟩ : ∃ A0, A0 = SO.lst ((aa.zip (((lns b).take i).flatMap (bhL b.as.length tot))).map prv) := ⟨_, rfl⟩
      rw [← hA0]
      have g8 : ((st ++ A0 :: SO.lst ((lns b).map lnv4) :: g) ++ g')[(st ++ A0 :: SO.lst ((lns b).map lnv4) :: g).length + j8]? = some (.lst ((a0 :: bhL b.as.length tot ln).map .int)) := by
        rw [List.getElem?_append_right (by omega), ← h8]; congr 1; omega
      generalize hr : (st ++ A0 :: SO.lst ((lns b).map lnv4) :: g).length + j8 = r8 at g8 ⊢
      have g8' : ∀ o : List SO, ((st ++ A0 :: SO.lst ((lns b).map lnv4) :: g) ++ g' ++ o)[r8]? = some (.lst ((a0 :: bhL b.as.length tot ln).map .int)) := fun o => by
        rw [List.getElem?_append_left (List.getElem?_eq_some_iff.mp g8).1, g8]
      have slx : slOp (.ref r8) (some 1) none ((st ++ A0 :: SO.lst ((lns b).map lnv4) :: g) ++ g') = some (.ref ((st ++ A0 :: SO.lst ((lns b).map lnv4) :: g) ++ g').length, ((st ++ A0 :: SO.lst ((lns b).map lnv4) :: g) ++ g') ++ [.lst ((bhL b.as.length tot ln).map .int)]) := sl_ref g8
      have l1 : lstOf (.ref st.length) ((st ++ A0 :: SO.lst ((lns b).map lnv4) :: g) ++ g') = some ((aa.zip (((lns b).take i).flatMap (bhL b.as.length tot))).map prv) := by
        rw [hA0, List.append_assoc, List.cons_append]; exact lst_h0 rfl
      have l9 : lstOf (PV.ref (st.length + (g.length + 1 + 1) + g'.length)) ((st ++ A0 :: SO.lst ((lns b).map lnv4) :: g) ++ g' ++ [.lst ((bhL b.as.length tot ln).map .int)]) = some ((bhL b.as.length tot ln).map .int) := lst_h0 (by simp; omega)
      simp [Gat_lt, slx, lst_ref (g8' _), l1, l9, -List.append_assoc, -List.cons_append, -List.map_cons]
      have e1 : paired ((a0 :: bhL b.as.length tot ln).map PV.int) ((bhL b.as.length tot ln).map PV.int) = (((a0 :: bhL b.as.length tot ln).take ln.js.length).zip (bhL b.as.length tot ln)).map prv := by
        rw [paired_gen, ← hbl, zip_more]; rfl
      have haa4 : aa.length = (((lns b).take i).flatMap (bhL b.as.length tot)).length := haa
      have e2 : (aa ++ (a0 :: bhL b.as.length tot ln).take ln.js.length).zip (((lns b).take (i + 1)).flatMap (bhL b.as.length tot)) = aa.zip (((lns b).take i).flatMap (bhL b.as.length tot)) ++ ((a0 :: bhL b.as.length tot ln).take ln.js.length).zip (bhL b.as.length tot ln) := by
        rw [htk, List.zip_append haa4]
      have pre : (((lns b).take (i + 1)).flatMap (bhL b.as.length tot)).length ≤ 20 := by
        rw [← hT] at h20
        refine Nat.le_trans ?_ h20
        rw [flat_bhL hb]
        exact part_le _
      rw [e1, hA0]
      simp only [List.append_assoc, List.cons_append]
      rw [ext_ok (xs := (aa.zip (((lns b).take i).flatMap (bhL b.as.length tot))).map prv) (get_h0 rfl)]
      refine ⟨.inl (Nat.le_refl _), ?_, ?_⟩
      · rw [List.length_map, List.length_map, List.length_zip, List.length_zip]
        rw [htk, List.length_append] at pre
        omega
      rw [set_h0, ← List.map_append, ← e2]
      refine ⟨get_h1 rfl, ?_⟩
      rw [hI]
      refine ⟨_, _, _, _, _, _, _, _, _, _, _, rfl, ?_, hseq', by split <;> omega, rfl⟩
      rw [htk, List.length_append, List.length_append, haa4, List.length_take, List.length_cons]
      omega
  · intro σ S hi0
    rw [hI] at hi0
    obtain ⟨g, aa, f, ah, s4, s5, s6, s7, s8, s9, s10, rfl, haa, hseq, hfi, rfl⟩ := hi0
    rw [List.length_map, Nat.zero_add, List.take_length] at haa ⊢
    simp [rest_at]
    rw [fin_ref (o := .lst ((aa.zip ((lns b).flatMap (bhL b.as.length tot))).map prv)) (by omega) (get_h0 rfl) (show PV.ltA _ _ = true from map_lt prv_lt _ _), take_left0]
    exact q aa haa
end
end LAW

end
section
set_option Elab.async false
set_option linter.all false
set_option maxRecDepth 100000
set_option maxHeartbeats 4000000
/-! what feet bear: the law -/
namespace LAW
open PySem MP
theorem numbered_eq : ∀ (xs : List PV) (k : Nat), MP.numbered k xs = (xs.zipIdx k).map fun q => PV.tup [.int (q.2 : Nat), q.1]
  | [], k => rfl
  | x :: xs, k => by rw [MP.numbered, numbered_eq xs (k + 1)]; rfl
theorem idx_zip {P : List Wr} {aa bh : List Int} (h1 : aa.length = bh.length) (h2 : P.length = bh.length) : (aa.zip bh).zipIdx.map (fun q => (nth P q.2, q.1.2)) = P.zip bh := by
  apply List.ext_getElem
  · simp; omega
  · intro i hi1 hi2
    simp at hi1 hi2
    have : i < P.length := by omega
    simp [nth, this]
theorem idx_picks {P : List Wr} {aa bh : List Int} {f : Nat} (h1 : aa.length = bh.length) (h2 : P.length = bh.length) : ((aa.zip bh).zipIdx.filter (fun q => decide (q.1.2 = -1 - (f : Int)))).map (fun q => wv (nth P q.2)) = (picks f (P.zip bh)).map wv := by
  unfold picks
  rw [← idx_zip h1 h2, List.filter_map, List.map_map, List.map_map]
  rfl
section
variable {b : Br} {th : List Wr} {D M : Nat} {st : Sto} {Q : PV × Sto → Prop} {o : Option Nat}
theorem Env.all_picks {l : List Wr} (E : Env b l th D M) : (List.range' 1 b.as.length).flatMap (fun f => picks f ((PW b l th).zip ((lns b).flatMap (bhL b.as.length (jsOf b).length)))) = endW b l th := by
  have h1 : (PW b l th).zip ((lns b).flatMap (bhL b.as.length (jsOf b).length)) = PB l th b.as.length (jsOf b).length wz (lns b) := PB_zip (lns b) wz E.segs
  have h2 := tags_ok (l := l) (th := th) (tot := (jsOf b).length) (K := b.as.length) b.as b.ps 0 0 0 wz E.ok.a E.ok.p E.ok.l (by omega) (by rw [Nat.zero_add]; rfl)
  have h3 : (endsT l th b.as.length (jsOf b).length wz (lns b)).length = b.as.length := by
    have := congrArg List.length h2
    rwa [List.length_map, List.length_range'] at this
  have h4 := flat_range (endsT l th b.as.length (jsOf b).length wz (lns b)) 1 (by rw [h3]; exact h2)
  rw [h3] at h4
  unfold endW
  rw [← h4, h1, List.flatMap_def, List.flatMap_def]
  refine congrArg List.flatten (List.map_congr_left fun f hf => ?_)
  rw [List.mem_range'_1] at hf
  exact picks_PB hf.1 (lns b) wz fun ln h => (E.segs ln h).1
theorem law_borne_ok (E : Env b (loadsS b o) th D M) (ho : ∀ s, o = some s → s < 2) (q : Q (.ref st.length, st ++ [.lst ((borneW b (loadsS b o) th).map wv)])) : Ok (F__law_borne [bv b, stv o, .tup (th.map wv)] st) Q := by
  have e3 : ∀ S, seqOf (bv b) S = some [.str "bridge", .tup (b.as.map av), .tup (b.ps.map piv), .tup [.tup [], .tup (b.cs.map cv)]] := fun S => rfl
  have hlA : 1 ≤ b.as.length := by have := E.ok.l; omega
  have h3 := E.ok.l3
  have h20 := E.ok.js20
  have hpl := E.pw_len
  have ixt : L2.atI (th.map wv) 0 = some (wv (nth th 0)) := by
    rw [at_nat (i := 0) (n := 0) rfl (by rw [List.length_map, E.lt]; exact hlA), List.getElem?_map, nth_get (by rw [E.lt]; exact hlA)]; rfl
  have em : PV.tup [.int (-1), .int 1] = mkR (-1) 1 := rfl
  refine run__law_borne rfl ?_
  simp [b__law_borne, Gat_lt, ixt, em]
  refine law_negW (E.wb (c := 1) (by omega) (by rw [Nat.one_mul]; exact E.t _ (nth_mem (by rw [E.lt]; exact hlA)))) ?_
  simp
  rw [rest_at]
  simp [Gat_lt]
  refine law_passed_ok E ho ?_
  generalize hl0 : loadsS b o = l at *
  simp
  rw [rest_at]
  simp [Gat_lt, e3]
  refine ⟨by omega, ?_⟩
  obtain ⟨I, hI⟩ : ∃ I : Nat → Sl → Sto → Prop, I = fun k σ S => ∃ (g : Sto) (s5 s6 s7 : Option PV), S = st ++ .lst ((wneg (nth th 0) :: (List.range' 1 k).flatMap (fun f => picks f ((PW b l th).zip ((lns b).flatMap (bhL b.as.length (jsOf b).length))))).map wv) :: .lst ((PW b l th).map wv) :: g ∧
    σ = [some (bv b), some (stv o), some (.tup (th.map wv)), some (.ref st.length), some (.ref (st.length + 1)), s5, s6, s7] := ⟨_, rfl⟩
  refine for_rule (k := 0) I (by rw [hI]; exact ⟨[], _, _, _, rfl, rfl⟩) ?_ ?_
  · intro i e σ S he hi0
    rw [hI] at hi0
    obtain ⟨g, s5, s6, s7, rfl, rfl⟩ := hi0
    have hk := counted_lt he
    have ek : e = .int ((i + 1 : Nat) : Int) := by
      have := counted_get he
      rw [this]; congr 1; omega
    subst ek
    rw [Nat.zero_add]
    have hBl : ((lns b).flatMap (bhL b.as.length (jsOf b).length)).length = (jsOf b).length := by
      have := flat_bhL E.ok (K := b.as.length) (tot := (jsOf b).length) (i := (lns b).length)
      rw [List.take_length] at this
      exact this
    have hRn : (wneg (nth th 0) :: (List.range' 1 (i + 1)).flatMap (fun f => picks f ((PW b l th).zip ((lns b).flatMap (bhL b.as.length (jsOf b).length))))) = (wneg (nth th 0) :: (List.range' 1 i).flatMap (fun f => picks f ((PW b l th).zip ((lns b).flatMap (bhL b.as.length (jsOf b).length))))) ++ picks (i + 1) ((PW b l th).zip ((lns b).flatMap (bhL b.as.length (jsOf b).length))) := by
      rw [List.range'_concat, List.flatMap_append, Nat.mul_comm, Nat.mul_one, Nat.add_comm 1 i]
      simp
    have hRl : (wneg (nth th 0) :: (List.range' 1 i).flatMap (fun f => picks f ((PW b l th).zip ((lns b).flatMap (bhL b.as.length (jsOf b).length))))).length ≤ 100 := by
      have hp1 : ∀ f, (picks f ((PW b l th).zip ((lns b).flatMap (bhL b.as.length (jsOf b).length)))).length ≤ 20 := fun f => by
        unfold picks
        rw [List.length_map]
        refine Nat.le_trans (List.length_filter_le _ _) ?_
        rw [List.length_zip]; omega
      have := flat_le (m := 20) (f := fun f => picks f ((PW b l th).zip ((lns b).flatMap (bhL b.as.length (jsOf b).length)))) (xs := List.range' 1 i) fun x _ => hp1 x
      rw [List.length_range'] at this
      rw [List.length_cons]; omega
    have hpn : (picks (i + 1) ((PW b l th).zip ((lns b).flatMap (bhL b.as.length (jsOf b).length)))).length ≤ 20 := by
      unfold picks
      rw [List.length_map]
      refine Nat.le_trans (List.length_filter_le _ _) ?_
      rw [List.length_zip]; omega
    generalize hR : wneg (nth th 0) :: (List.range' 1 i).flatMap (fun f => picks f ((PW b l th).zip ((lns b).flatMap (bhL b.as.length (jsOf b).length)))) = R at hRn hRl ⊢
    obtain ⟨S0, hS0⟩ : ∃ S0 : Sto, S0 = st ++ SO.lst (R.map wv) :: SO.lst ((PW b l th).map wv) :: g := ⟨_, rfl⟩
    have g1 : S0[st.length + 1]? = some (.lst ((PW b l th).map wv)) := by rw [hS0]; exact get_h1 rfl
    have hll : st.length + 1 < S0.length := (List.getElem?_eq_some_iff.mp g1).1
    have l0 : lstOf (.ref st.length) S0 = some (R.map wv) := by rw [hS0]; exact lst_h0 rfl
    rw [← hS0]
    rw [ok_lpS]
    simp [Gat_lt, l0]
    refine law_sides_ok E.ok fun aa ha => ?_
    generalize hBH : (lns b).flatMap (bhL b.as.length (jsOf b).length) = BH at *
    have hit : items (.ref S0.length) (S0 ++ [.lst ((aa.zip BH).map prv)]) = some ((aa.zip BH).map prv, [(S0.length, .lst ((aa.zip BH).map prv))]) := items_ref (get_h0 rfl)
    have hal : aa.length ≤ 20 := by rw [ha, hBl]; exact h20
    simp [hit, numbered_eq, List.zipIdx_map, List.map_map]
    rw [show S0 ++ [SO.lst ((aa.zip BH).map prv), SO.lst []] = (S0 ++ [.lst ((aa.zip BH).map prv)]) ++ [.lst []] by simp]
    refine lc_filt _ (fun q => wv (nth (PW b l th) q.2)) (fun q => decide (q.1.2 = -1 - ((i + 1 : Nat) : Int))) (by simp) (by simp; omega) (fun q hq acc hacc => ?_) ?_
    · have hq2 := List.snd_lt_of_mem_zipIdx hq
      rw [List.length_zip] at hq2
      have ixp : L2.atI ((PW b l th).map wv) (q.2 : Int) = some (wv (nth (PW b l th) q.2)) := by
        rw [at_nat rfl (by rw [List.length_map]; omega), List.getElem?_map, nth_get (by omega)]; rfl
      have sq1 : ∀ T, seqOf (.ref (st.length + 1)) (S0 ++ T) = some ((PW b l th).map wv) := fun T => by
        rw [hS0, List.append_assoc, List.cons_append, List.cons_append]; exact seq_h1 rfl
      rw [ok_lcS]
      simp [Gat_lt, prv, ixp, sq1]
      exact fun h => ⟨.inl (by omega), hacc, h⟩
    · rw [List.nil_append, idx_picks ha (by rw [hBl, hpl])]
      have l9 : lstOf (PV.ref (S0.length + 1)) (S0 ++ [SO.lst ((aa.zip BH).map prv)] ++ [SO.lst ((picks (i + 1) ((PW b l th).zip BH)).map wv)]) = some ((picks (i + 1) ((PW b l th).zip BH)).map wv) := lst_h0 (by simp)
      rw [l9]
      simp only [ok_some]
      rw [hS0]
      simp only [List.append_assoc, List.cons_append]
      rw [ext_ok (xs := R.map wv) (get_h0 rfl)]
      refine ⟨.inl (Nat.le_refl _), by rw [List.length_map, List.length_map]; omega, ?_⟩
      rw [set_h0, ← List.map_append, ← hRn, hI]
      exact ⟨_, _, _, _, rfl, rfl⟩
  · intro σ S hi0
    rw [hI] at hi0
    obtain ⟨g, s5, s6, s7, rfl, rfl⟩ := hi0
    rw [counted_len, Nat.zero_add, E.all_picks]
    rw [show wneg (nth th 0) :: endW b l th = borneW b l th from rfl]
    simp [rest_at, -List.map_cons]
    rw [fin_ref (o := .lst ((borneW b l th).map wv)) (by omega) (get_h0 rfl) (show PV.ltA _ _ = true from map_lt wv_lt _ _), take_left0]
    exact q
end
end LAW

end
section
set_option Elab.async false
set_option linter.all false
set_option maxRecDepth 100000
set_option maxHeartbeats 4000000
/-! movements, what is told -/
namespace LAW
open PySem MP
section
variable {r : Rat} {w m : Wr} {st : Sto} {Q : PV × Sto → Prop}
theorem shown_ok (h : Rb r) (q : Q (rq r, st)) : Ok (F_shown [rq r] st) Q := by
  have h1 := h.n
  have h2 := h.d
  have hb : (2 : Nat) ^ 500 < 10 ^ 400 := by decide +kernel
  have hbi : ∃ B : Int, B = 10 ^ 400 ∧ G0 0 = some (.int B) := ⟨_, rfl, by rw [g_BEYOND]; congr 2⟩
  obtain ⟨B, hB, hG⟩ := hbi
  have hBn : ((10 ^ 400 : Nat) : Int) = B := by rw [hB]; norm_cast
  have c1 : ((r.den : Nat) : Int) < B := by omega
  have c2 : -B < r.num := by omega
  have c3 : r.num < B := by omega
  refine run_shown rfl ?_
  simp [b_shown, Gat_lt, hG, rq_at, c1, c2, c3]
  rw [rest_at]
  simp
  rw [fin_rq, take_self]
  exact q
theorem told_ok (h : Wb w) (q : Q (wv w, st)) : Ok (F_told [wv w] st) Q := by
  refine run_told rfl ?_
  simp [b_told, Gat_lt, wv_at]
  refine shown_ok h.h ?_
  simp
  refine shown_ok h.v ?_
  simp
  refine shown_ok h.m ?_
  simp
  rw [show PV.tup [rq w.1, rq w.2.1, rq w.2.2] = wv w from rfl, fin_wv, take_self]
  exact q
theorem want_ratio_ok (h : Rb r) (q : Q (rq r, st)) : Ok (F_want_ratio [rq r] st) Q := by
  refine run_want_ratio rfl ?_
  simp [b_want_ratio, Gat_lt]
  refine is_ratio_rq h ?_
  simp
  rw [rest_at]
  simp
  rw [fin_rq, take_self]
  exact q
theorem is_move_ok (hw : Wb w) (q : Q (.bl true, st)) : Ok (F_is_move [wv w] st) Q := by
  refine run_is_move rfl ?_
  simp [b_is_move, wv, Gat_lt]
  refine is_row_tup ?_
  simp
  refine is_ratio_rq hw.h ?_
  simp
  refine is_ratio_rq hw.v ?_
  simp
  refine is_ratio_rq hw.m ?_
  simp [bools?]
  exact q
theorem moves_added_ok (h1 : Wb w) (h2 : Wb m) (q : Q (wv (wadd w m), st)) : Ok (F_moves_added [wv w, wv m] st) Q := by
  refine run_moves_added rfl ?_
  simp [b_moves_added, Gat_lt, wv_at]
  refine q_pplus h1.h h2.h ?_
  simp
  refine q_pplus h1.v h2.v ?_
  simp
  refine q_pplus h1.m h2.m ?_
  simp
  rw [show PV.tup [rq (w.1 + m.1), rq (w.2.1 + m.2.1), rq (w.2.2 + m.2.2)] = wv (wadd w m) from rfl, fin_wv, take_self]
  exact q
def wmul (w : Wr) (r : Rat) : Wr := (w.1 * r, w.2.1 * r, w.2.2 * r)
theorem move_taken_ok (h1 : Wb w) (h2 : Rb r) (q : Q (wv (wmul w r), st)) : Ok (F_move_taken [wv w, rq r] st) Q := by
  refine run_move_taken rfl ?_
  simp [b_move_taken, Gat_lt, wv_at]
  refine q_product h1.h h2 ?_
  simp
  refine q_product h1.v h2 ?_
  simp
  refine q_product h1.m h2 ?_
  simp
  rw [show PV.tup [rq (w.1 * r), rq (w.2.1 * r), rq (w.2.2 * r)] = wv (wmul w r) from rfl, fin_wv, take_self]
  exact q
theorem told_movement_ok {n : Nat} {ms : List Wr} (hn : st[n]? = some (.lst (ms.map wv))) (hl : ms.length ≤ 100) (hb : ∀ m ∈ ms, Wb m) (q : Q (.tup (ms.map wv), st)) : Ok (F_told_movement [.ref n] st) Q := by
  have hlt : n < st.length := (List.getElem?_eq_some_iff.mp hn).1
  refine run_told_movement rfl ?_
  simp [b_told_movement, Gat_lt, items_ref hn]
  refine lc_pureM wv wv (fun p hp => by rw [List.mem_singleton.mp hp]; exact ⟨hlt, hn⟩) (by simp; omega) (fun m hm acc ha => ?_) ?_
  · rw [ok_lcS]
    simp [Gat_lt]
    refine told_ok (hb m hm) ?_
    simp
    exact ha
  · rw [List.nil_append]
    simp [map_lt wv_lt]
    exact q
end
section
variable {b : Br} {ms ns : List Wr} {F N : Nat} {st : Sto} {Q : PV × Sto → Prop}
theorem Mv.wb (V : Mv b ms F N) : ∀ m ∈ ms, Wb m := fun m hm => (V.m m hm).wb30 V.E0 V.E1 V.N1
theorem is_movement_ok (hb : Bok b) (V : Mv b ms F N) (q : Q (.bl true, st)) : Ok (F_is_movement_in [bv b, .tup (ms.map wv)] st) Q := by
  have hl := V.l
  have hl3 := hb.l3
  refine run_is_movement_in rfl ?_
  simp [b_is_movement_in, Gat_lt]
  refine foot_count_ok ?_
  simp
  refine is_row_tup ?_
  simp [hl]
  refine lc_pureM wv (fun _ => PV.bl true) (by simp) (by simp; omega) (fun w hw acc ha => ?_) ?_
  · rw [ok_lcS]
    simp [Gat_lt]
    refine is_move_ok (V.wb w hw) ?_
    simp
    exact ha
  · rw [List.nil_append]
    have e := bools_map (f := fun _ : Wr => true) (xs := ms)
    simp only [lst_new, Option.bind_some, e, ok_some, all_ones]
    simp
    exact q
theorem want_movement_ok (hb : Bok b) (V : Mv b ms F N) (q : Q (.tup (ms.map wv), st)) : Ok (F_want_movement [bv b, .tup (ms.map wv)] st) Q := by
  refine run_want_movement rfl ?_
  simp [b_want_movement, Gat_lt]
  refine is_movement_ok hb V ?_
  simp
  rw [rest_at]
  simp [fin_th]
  exact q
theorem rigid_ok (hB : IsB (bv b)) (hb : Bok b) {x y z : Rat} (hx : Rb x) (hy : Rb y) (hz : Rb z) (q : Q (.tup ((List.replicate (b.as.length + 1) (x, y, z)).map wv), st)) : Ok (F_rigid [bv b, rq x, rq y, rq z] st) Q := by
  have hl3 := hb.l3
  refine run_rigid rfl ?_
  simp [b_rigid, Gat_lt]
  refine want_bridge_ok hB ?_
  simp
  rw [rest_at]
  simp [Gat_lt]
  refine want_ratio_ok hx ?_
  simp
  rw [rest_at]
  simp [Gat_lt]
  refine want_ratio_ok hy ?_
  simp
  rw [rest_at]
  simp [Gat_lt]
  refine want_ratio_ok hz ?_
  simp
  rw [rest_at]
  simp [Gat_lt]
  refine foot_count_ok ?_
  simp
  have hlA := hb.l
  refine ⟨by omega, ?_⟩
  rw [List.map_replicate] at q
  have e : PV.tup [rq x, rq y, rq z] = wv (x, y, z) := rfl
  rw [e, fin_tup (by rw [← List.map_replicate]; exact map_lt wv_lt _ _), take_self]
  exact q
theorem added_ok {G O : Nat} (hB : IsB (bv b)) (hb : Bok b) (V : Mv b ms F N) (U : Mv b ns G O) (hr : ∀ p ∈ ms.zip ns, Wb (wadd p.1 p.2)) (q : Q (.tup (((ms.zip ns).map fun p => wadd p.1 p.2).map wv), st)) : Ok (F_added [bv b, .tup (ms.map wv), .tup (ns.map wv)] st) Q := by
  have hl := V.l
  have hl3 := hb.l3
  refine run_added rfl ?_
  simp [b_added, Gat_lt]
  refine want_bridge_ok hB ?_
  simp
  refine want_movement_ok hb V ?_
  simp
  rw [rest_at]
  simp [Gat_lt]
  refine want_movement_ok hb U ?_
  simp
  rw [rest_at]
  simp [Gat_lt, isTupV, paired_gen]
  refine lc_pureM (fun p : Wr × Wr => PV.tup [wv p.1, wv p.2]) (fun p => wv (wadd p.1 p.2)) (by simp) (by simp; omega) (fun p hp acc ha => ?_) ?_
  · have hp' := List.of_mem_zip hp
    rw [ok_lcS]
    simp [Gat_lt]
    refine moves_added_ok (V.wb _ hp'.1) (U.wb _ hp'.2) ?_
    simp
    exact ha
  · rw [List.nil_append]
    refine told_movement_ok (ms := (ms.zip ns).map fun p => wadd p.1 p.2) (by simp) (by simp; omega) (fun m hm => ?_) ?_
    · obtain ⟨p, hp, rfl⟩ := List.mem_map.mp hm
      exact hr p hp
    rw [fin_th]
    simp at q ⊢
    exact q
theorem taken_ok {r : Rat} (hB : IsB (bv b)) (hb : Bok b) (V : Mv b ms F N) (h2 : Rb r) (hr : ∀ m ∈ ms, Wb (wmul m r)) (q : Q (.tup ((ms.map fun m => wmul m r).map wv), st)) : Ok (F_taken [bv b, .tup (ms.map wv), rq r] st) Q := by
  have hl := V.l
  have hl3 := hb.l3
  refine run_taken rfl ?_
  simp [b_taken, Gat_lt]
  refine want_bridge_ok hB ?_
  simp
  refine want_movement_ok hb V ?_
  simp
  rw [rest_at]
  simp [Gat_lt]
  refine want_ratio_ok h2 ?_
  simp
  rw [rest_at]
  simp [Gat_lt]
  refine lc_pureM wv (fun m => wv (wmul m r)) (by simp) (by simp; omega) (fun m hm acc ha => ?_) ?_
  · rw [ok_lcS]
    simp [Gat_lt]
    refine move_taken_ok (V.wb _ hm) h2 ?_
    simp
    exact ha
  · rw [List.nil_append]
    refine told_movement_ok (ms := ms.map fun m => wmul m r) (by simp) (by simp; omega) (fun m hm => ?_) ?_
    · obtain ⟨p, hp, rfl⟩ := List.mem_map.mp hm
      exact hr p hp
    rw [fin_th]
    simp at q ⊢
    exact q
end
end LAW

end
section
set_option Elab.async false
set_option linter.all false
set_option maxRecDepth 100000
set_option maxHeartbeats 4000000
/-! the asked functions -/
namespace LAW
open PySem MP
section
variable {b : Br} {l th ms : List Wr} {D M F N s : Nat} {st : Sto} {Q : PV × Sto → Prop}
theorem Env.dot_rb (E : Env b l th D M) (V : Mv b ms F N) : Rb (workW (borneW b l th) ms) := by
  obtain ⟨d1, d2, d3, d4, d5⟩ := E.dots V
  exact (sumR_bd d1 d3).big d1 d5 d2
theorem law_work_ok {o : Option Nat} (E : Env b (loadsS b o) th D M) (ho : ∀ s, o = some s → s < 2) (V : Mv b ms F N) (q : Q (rq (workW (borneW b (loadsS b o) th) ms), st)) : Ok (F__law_work [bv b, stv o, .tup (th.map wv), .tup (ms.map wv)] st) Q := by
  have hbl := E.borne_len
  have h3 := E.ok.l3
  obtain ⟨d1, d2, d3, d4, d5⟩ := E.dots V
  refine run__law_work rfl ?_
  simp [b__law_work, Gat_lt]
  refine law_borne_ok E ho ?_
  generalize hB : borneW b (loadsS b o) th = B at *
  simp [isTupV, paired_gen]
  have hp4 : (B.zip ms).length ≤ 4 := by rw [List.length_zip]; omega
  rw [show st ++ [SO.lst (B.map wv), SO.lst []] = (st ++ [.lst (B.map wv)]) ++ [.lst []] by simp]
  refine lc_pureM (fun p : Wr × Wr => PV.tup [wv p.1, wv p.2]) (fun p => rq (dotW p.1 p.2)) (by simp) (by simp only [List.length_nil]; omega) (fun p hp acc ha => ?_) ?_
  · have hp' := List.of_mem_zip hp
    rw [ok_lcS]
    simp [Gat_lt]
    refine law_works_ok (E.dot V (by rw [hB]; exact hp'.1) hp'.2) ?_
    simp
    exact ha
  · rw [List.nil_append, show (B.zip ms).map (fun p => rq (dotW p.1 p.2)) = ((B.zip ms).map fun p => dotW p.1 p.2).map rq by simp]
    refine law_sum_ok (by simp) d1 d2 d3 d4 d5 ?_
    rw [fin_rq]
    simp
    exact q
theorem fin_bl0 {k : Nat} {S : Sto} {L : List Wr} : fin k (.tup (L.map wv)) S = (.tup (L.map wv), S.take k) := fin_th
theorem borne_ok (hB : IsB (bv b)) (E : Env b (loadsS b (some s)) th D M) (hs : s < 2) (q : Q (.ref st.length, st ++ [.lst ((borneW b (loadsS b (some s)) th).map wv)])) : Ok (F_borne [bv b, .int s, .tup (th.map wv)] st) Q := by
  have hbl := E.borne_len
  have h3 := E.ok.l3
  have hbw : ∀ m ∈ borneW b (loadsS b (some s)) th, Wb m := fun m hm => E.wb (by omega) (E.borne_bd m hm)
  refine run_borne rfl ?_
  simp [b_borne, Gat_lt]
  refine want_bridge_ok hB ?_
  simp
  refine want_state_ok hs ?_
  simp
  rw [rest_at]
  simp [Gat_lt]
  refine want_thrust_ok E ?_
  simp
  rw [rest_at]
  simp [Gat_lt]
  refine loads_in_ok E.ok hs ?_
  simp
  refine borne_in_ok E (by simp; rfl) ?_
  simp
  generalize borneW b (loadsS b (some s)) th = B at *
  have f1 : ∀ A : SO, fin st.length (.ref (st.length + 1)) (st ++ [A, SO.lst (B.map wv)]) = (.ref st.length, st ++ [.lst (B.map wv)]) := fun A => by
    rw [fin_ref (o := .lst (B.map wv)) (by omega) (get_h1 rfl) (show PV.ltA _ _ = true from map_lt wv_lt _ _), List.take_left' rfl]
  rw [f1]
  have hit : items (.ref st.length) (st ++ [.lst (B.map wv)]) = some (B.map wv, [(st.length, .lst (B.map wv))]) := items_ref (get_h0 rfl)
  simp [hit]
  rw [show st ++ [SO.lst (B.map wv), SO.lst []] = (st ++ [.lst (B.map wv)]) ++ [.lst []] by simp]
  refine lc_pureM wv wv (by simp) (by simp; omega) (fun m hm acc ha => ?_) ?_
  · rw [ok_lcS]
    simp [Gat_lt]
    refine told_ok (hbw m hm) ?_
    simp
    exact ha
  · rw [List.nil_append]
    simp
    rw [f1]
    exact q
theorem want_all_ok (hB : IsB (bv b)) (E : Env b l th D M) (hs : s < 2) (q : Q (.non, st)) : Ok (F__want_all [bv b, .int s, .tup (th.map wv)] st) Q := by
  refine run__want_all rfl ?_
  simp [b__want_all, Gat_lt]
  refine want_bridge_ok hB ?_
  simp
  refine want_state_ok hs ?_
  simp
  rw [rest_at]
  simp [Gat_lt]
  refine want_thrust_ok E ?_
  simp
  try rw [rest_at]
  try simp
  exact q
theorem work_ok (hB : IsB (bv b)) (E : Env b (loadsS b (some s)) th D M) (hs : s < 2) (V : Mv b ms F N) (q : Q (rq (workW (borneW b (loadsS b (some s)) th) ms), st)) : Ok (F_work [bv b, .int s, .tup (th.map wv), .tup (ms.map wv)] st) Q := by
  refine run_work rfl ?_
  simp [b_work, Gat_lt]
  refine want_bridge_ok hB ?_
  simp
  refine want_state_ok hs ?_
  simp
  rw [rest_at]
  simp [Gat_lt]
  refine want_thrust_ok E ?_
  simp
  rw [rest_at]
  simp [Gat_lt]
  refine want_movement_ok E.ok V ?_
  simp
  rw [rest_at]
  simp [Gat_lt]
  refine loads_in_ok E.ok hs ?_
  simp
  refine work_in_ok E V (by simp; rfl) ?_
  simp [fin_rq]
  refine shown_ok (E.dot_rb V) ?_
  simp [fin_rq]
  exact q
theorem push_work_ok (hB : IsB (bv b)) (E : Env b (loadsS b none) th D M) (V : Mv b ms F N) (hf : firmB b (loadsS b none) th = true) (q : Q (rq (workW (borneW b (loadsS b none) th) ms), st)) : Ok (F_push_work [bv b, .tup (th.map wv), .tup (ms.map wv)] st) Q := by
  refine run_push_work rfl ?_
  simp [b_push_work, Gat_lt]
  refine want_bridge_ok hB ?_
  simp
  refine want_push_ok E hf ?_
  simp
  rw [rest_at]
  simp [Gat_lt]
  refine want_movement_ok E.ok V ?_
  simp
  rw [rest_at]
  simp [Gat_lt]
  refine no_loads_ok E.ok ?_
  simp [-List.map_replicate]
  refine work_in_ok E V (by simp [-List.map_replicate]; rfl) ?_
  simp [fin_rq, -List.map_replicate]
  refine shown_ok (E.dot_rb V) ?_
  simp [fin_rq]
  exact q
theorem foot_wrench_ok {f : Nat} (hB : IsB (bv b)) (E : Env b (loadsS b (some s)) th D M) (hs : s < 2) (hf : f ≤ b.as.length) (q : Q (wv (nth (borneW b (loadsS b (some s)) th) f), st)) : Ok (F_foot_wrench [bv b, .int s, .tup (th.map wv), .int f] st) Q := by
  refine run_foot_wrench rfl ?_
  simp [b_foot_wrench, Gat_lt]
  refine want_all_ok hB E hs ?_
  simp
  rw [rest_at]
  simp [Gat_lt]
  refine want_foot_ok hf ?_
  simp
  rw [rest_at]
  simp [Gat_lt]
  refine loads_in_ok E.ok hs ?_
  simp
  refine onto_foot_ok E (by simp; rfl) hf ?_
  simp [fin_wv]
  refine told_ok (E.wb (by omega) (E.borne_bd _ (nth_mem (by rw [E.borne_len]; omega)))) ?_
  simp [fin_wv]
  exact q
theorem sumW_bd {D N : Nat} (hD : 0 < D) {ws : List Wr} (h : ∀ x ∈ ws, WD D N x) (k : Nat) : WD D (ws.length * N) (lastW wz (ws.take k)) := by
  have := last_bd hD (WD.zero (D := D) (N := 0)) (ls := ws.take k) fun x hx => h x (List.mem_of_mem_take hx)
  refine this.mono ?_
  rw [Nat.zero_add]
  exact Nat.mul_le_mul_right N (by rw [List.length_take]; omega)
theorem law_all_loads_ok {o : Option Nat} (E : Env b (loadsS b o) th D M) (ho : ∀ s, o = some s → s < 2) (q : Q (wv (lastW wz (loadsS b o)), st)) : Ok (F__law_all_loads [bv b, stv o] st) Q := by
  have h15 := E.ok.ss15
  have hll := E.ll
  have hm : PV.tup [PV.tup [.int 0, .int 1], PV.tup [.int 0, .int 1], PV.tup [.int 0, .int 1]] = wv wz := rfl
  refine run__law_all_loads rfl ?_
  simp [b__law_all_loads, Gat_lt, hm]
  rw [rest_at]
  simp [Gat_lt]
  refine law_loads_ok E.ok ho ?_
  generalize loadsS b o = l at *
  simp
  obtain ⟨I, hI⟩ : ∃ I : Nat → Sl → Sto → Prop, I = fun k σ S => ∃ s3 : Option PV, S = st ++ [.lst (l.map wv)] ∧ σ = [some (bv b), some (stv o), some (wv (lastW wz (l.take k))), s3] := ⟨_, rfl⟩
  refine for_rule (k := 0) I (by rw [hI]; exact ⟨none, rfl, rfl⟩) ?_ ?_
  · intro i e σ S he hi0
    rw [hI] at hi0
    obtain ⟨s3, rfl, rfl⟩ := hi0
    rw [List.getElem?_map, Option.map_eq_some_iff] at he
    obtain ⟨x, hl, rfl⟩ := he
    rw [Nat.zero_add]
    rw [ok_lpS]
    simp [Gat_lt]
    refine law_addW (E.wb (c := 15) (by omega) ((sumW_bd E.D0 E.l i).mono (Nat.mul_le_mul_right M (by omega)))) (E.wb (c := 1) (by omega) (by rw [Nat.one_mul]; exact E.l x (List.mem_of_getElem? hl))) ?_
    simp
    rw [hI]
    exact ⟨some (wv x), rfl, by rw [last_take hl]⟩
  · intro σ S hi0
    rw [hI] at hi0
    obtain ⟨s3, rfl, rfl⟩ := hi0
    rw [List.length_map, Nat.zero_add, List.take_length]
    simp [rest_at]
    rw [fin_wv]
    simp
    exact q
end
end LAW

end
section
set_option Elab.async false
set_option linter.all false
set_option maxRecDepth 100000
set_option maxHeartbeats 4000000
/-! the plain law: what feet bear together, works are linear -/
namespace LAW
open PySem MP
theorem wadd_assoc (a c e : Wr) : wadd (wadd a c) e = wadd a (wadd c e) := by unfold wadd; ext <;> simp <;> grind
theorem wadd_comm (a c : Wr) : wadd a c = wadd c a := by unfold wadd; ext <;> simp <;> grind
theorem wadd_z (a : Wr) : wadd a wz = a := by unfold wadd wz; ext <;> simp <;> grind
theorem z_wadd (a : Wr) : wadd wz a = a := by unfold wadd wz; ext <;> simp <;> grind
theorem wadd_wneg (a : Wr) : wadd (wneg a) a = wz := by unfold wadd wneg wz; ext <;> simp <;> grind
def sumW (ws : List Wr) : Wr := lastW wz ws
theorem last_eq : ∀ (ws : List Wr) (w : Wr), lastW w ws = wadd w (sumW ws)
  | [], w => (wadd_z w).symm
  | x :: ws, w => by
    have h1 := last_eq ws (wadd w x)
    have h2 := last_eq ws (wadd wz x)
    unfold sumW
    show lastW (wadd w x) ws = wadd w (lastW (wadd wz x) ws)
    rw [h1, h2, z_wadd, wadd_assoc]
theorem sumW_cons (w : Wr) (ws : List Wr) : sumW (w :: ws) = wadd w (sumW ws) := by
  show lastW (wadd wz w) ws = _
  rw [last_eq, z_wadd]
theorem sumW_app : ∀ (a c : List Wr), sumW (a ++ c) = wadd (sumW a) (sumW c)
  | [], c => (z_wadd _).symm
  | x :: a, c => by rw [List.cons_append, sumW_cons, sumW_cons, sumW_app a c, wadd_assoc]
theorem sumR_cons (x : Rat) (rs : List Rat) : sumR (x :: rs) = x + sumR rs := by
  have gen : ∀ (rs : List Rat) (y : Rat), rs.foldl (· + ·) y = y + sumR rs := by
    intro rs
    induction rs with
    | nil => intro y; simp [sumR]; grind
    | cons z rs ih =>
      intro y
      have h1 := ih (y + z)
      have h2 := ih (0 + z)
      show rs.foldl (· + ·) (y + z) = y + rs.foldl (· + ·) (0 + z)
      rw [h1, h2]; grind
  show rs.foldl (· + ·) (0 + x) = _
  rw [gen]; grind
theorem dot_eq (w m : Wr) : dotW w m = w.1 * m.2.1 + w.2.1 * m.2.2 + w.2.2 * m.1 := by unfold dotW sumR; simp only [List.foldl]; grind
theorem workW_cons (w m : Wr) (ws ms : List Wr) : workW (w :: ws) (m :: ms) = dotW w m + workW ws ms := by
  unfold workW
  rw [List.zip_cons_cons, List.map_cons, sumR_cons]
theorem workW_nil (ms : List Wr) : workW [] ms = 0 := rfl
theorem work_rigid (m : Wr) : ∀ (ws : List Wr), workW ws (List.replicate ws.length m) = dotW (sumW ws) m
  | [] => by rw [workW_nil, dot_eq]; unfold sumW lastW wz; simp; grind
  | w :: ws => by
    rw [List.length_cons, List.replicate_succ, workW_cons, work_rigid m ws, sumW_cons, dot_eq, dot_eq, dot_eq]
    unfold wadd
    simp only
    grind
theorem work_added : ∀ (ws ms ns : List Wr), ms.length = ws.length → ns.length = ws.length → workW ws ((ms.zip ns).map fun p => wadd p.1 p.2) = workW ws ms + workW ws ns
  | [], _, _, _, _ => by rw [workW_nil, workW_nil, workW_nil]; grind
  | w :: ws, [], _, h, _ => by simp at h
  | w :: ws, m :: ms, [], _, h => by simp at h
  | w :: ws, m :: ms, n :: ns, h1, h2 => by
    rw [List.zip_cons_cons, List.map_cons, workW_cons, workW_cons, workW_cons, work_added ws ms ns (by simpa using h1) (by simpa using h2), dot_eq, dot_eq, dot_eq]
    unfold wadd
    simp only
    grind
theorem work_taken (r : Rat) : ∀ (ws ms : List Wr), ms.length = ws.length → workW ws (ms.map fun m => wmul m r) = workW ws ms * r
  | [], _, _ => by rw [workW_nil, workW_nil]; grind
  | w :: ws, [], h => by simp at h
  | w :: ws, m :: ms, h => by
    rw [List.map_cons, workW_cons, workW_cons, work_taken r ws ms (by simpa using h), dot_eq, dot_eq]
    unfold wmul
    simp only
    grind
theorem work_nought (k : Nat) : ∀ (ws ms : List Wr), (∀ w ∈ ws, w = wz) → workW ws ms = 0
  | [], _, _ => rfl
  | w :: ws, [], _ => rfl
  | w :: ws, m :: ms, h => by
    rw [workW_cons, work_nought k ws ms fun x hx => h x (by simp [hx]), h w (by simp), dot_eq]
    unfold wz
    simp
    grind
/-- the ends of lines bear the first thrust and all loads -/
theorem ends_sum {l th : List Wr} {tot K : Nat} : ∀ (as : List Ar) (ps : List Pr) (k j s : Nat) (late : Wr), (∀ a ∈ as, Aok a) → (∀ p ∈ ps, Pok p) → ps.length + 1 = as.length → tot = j + ((lnsFrom as ps k j s).flatMap (·.js)).length → s + ((lnsFrom as ps k j s).flatMap (·.ss)).length = l.length →
    sumW ((endsT l th K tot late (lnsFrom as ps k j s)).map (·.2)) = wadd (nth th k) (sumW (l.drop s))
  | [], ps, k, j, s, late, _, _, h, _, _ => by simp at h
  | [a], p :: ps, k, j, s, late, _, _, h, _, _ => by simp at h
  | a :: a2 :: as, [], k, j, s, late, _, _, h, _, _ => by simp at h
  | [a], [], k, j, s, late, ha, hp, h, ht, hl => by
    have hA := (ha a (by simp)).l
    simp only [lnsFrom, List.flatMap_cons, List.flatMap_nil, List.append_nil] at ht hl
    simp only [lnsFrom, endsT, tagL, List.append_nil, Bool.false_eq_true, if_false]
    rw [if_pos ht.symm]
    simp only [List.map_cons, List.map_nil]
    rw [sumW_cons, show sumW [] = wz from rfl, wadd_z, last_eq]
    unfold startW segW s1
    simp only [Bool.false_eq_true, if_false, Nat.add_zero]
    rw [List.take_of_length_le (by rw [List.length_drop]; omega)]
  | a :: a2 :: as, p :: ps, k, j, s, late, ha, hp, h, ht, hl => by
    have hpos := js_pos (as := a2 :: as) (ps := ps) (fun x hx => ha x (by simp [hx])) (fun x hx => hp x (by simp [hx])) (k + 1) (j + a.js.length + p.js.length) (s + a.ss.length + 1 + p.ss.length)
    have hP := (hp p (by simp)).l
    have hA := (ha a (by simp)).l
    have hne : 1 ≤ ((lnsFrom (a2 :: as) ps (k + 1) (j + a.js.length + p.js.length) (s + a.ss.length + 1 + p.ss.length)).flatMap (·.js)).length := by
      have hA2 := (ha a2 (by simp)).l
      cases ps <;> (rw [lnsFrom, List.flatMap_cons, List.length_append]; simp only; omega)
    rw [lnsFrom] at ht hl ⊢
    simp only [List.flatMap_cons, List.length_append, List.length_cons] at ht hl
    rw [endsT, endsT]
    simp only [tagL, Bool.false_eq_true, if_false, if_true]
    rw [if_neg (by omega)]
    have ih := ends_sum (l := l) (th := th) (tot := tot) (K := K) (a2 :: as) ps (k + 1) (j + a.js.length + p.js.length) (s + a.ss.length + 1 + p.ss.length) (lastW (startW l th (lastW (startW l th late ⟨false, k, a.js, a.ss, j, s⟩) (segW l ⟨false, k, a.js, a.ss, j, s⟩)) ⟨true, k, p.js, p.h :: p.ss, j + a.js.length, s + a.ss.length⟩) (segW l ⟨true, k, p.js, p.h :: p.ss, j + a.js.length, s + a.ss.length⟩))
      (fun x hx => ha x (by simp [hx])) (fun x hx => hp x (by simp [hx])) (by simpa using h) (by omega) (by omega)
    simp only [List.map_nil, List.nil_append, List.map_cons, List.map_append, List.cons_append]
    rw [sumW_cons, ih, last_eq]
    have e0 : sumW (l.drop s) = wadd (sumW ((l.drop s).take a.ss.length)) (sumW (l.drop (s + a.ss.length))) := by
      rw [← sumW_app, ← List.drop_drop, List.take_append_drop]
    have e1 : l.drop (s + a.ss.length) = nth l (s + a.ss.length) :: l.drop (s + a.ss.length + 1) := by
      have hlt : s + a.ss.length < l.length := by omega
      rw [List.drop_eq_getElem_cons hlt]
      congr 1
      simp [nth, hlt]
    have e2 : sumW (l.drop (s + a.ss.length + 1)) = wadd (sumW ((l.drop (s + a.ss.length + 1)).take p.ss.length)) (sumW (l.drop (s + a.ss.length + 1 + p.ss.length))) := by
      rw [← sumW_app, show l.drop (s + a.ss.length + 1 + p.ss.length) = (l.drop (s + a.ss.length + 1)).drop p.ss.length by rw [List.drop_drop], List.take_append_drop]
    have e3 : sumW (segW l ⟨true, k, p.js, p.h :: p.ss, j + a.js.length, s + a.ss.length⟩) = sumW ((l.drop (s + a.ss.length + 1)).take p.ss.length) := by
      unfold segW s1
      simp only [if_true]
      rw [show p.js.length - 1 = p.ss.length by omega]
    have e4 : startW l th (lastW (startW l th late ⟨false, k, a.js, a.ss, j, s⟩) (segW l ⟨false, k, a.js, a.ss, j, s⟩)) ⟨true, k, p.js, p.h :: p.ss, j + a.js.length, s + a.ss.length⟩ = wadd (wadd (wadd (nth th k) (sumW ((l.drop s).take a.ss.length))) (wneg (nth th (k + 1)))) (nth l (s + a.ss.length)) := by
      unfold startW segW s1
      simp only [if_true, Bool.false_eq_true, if_false, Nat.add_zero]
      rw [last_eq, show a.js.length - 1 = a.ss.length by omega]
    rw [e3, e4, e0, e1, sumW_cons, e2]
    generalize sumW ((l.drop s).take a.ss.length) = x1
    generalize sumW ((l.drop (s + a.ss.length + 1)).take p.ss.length) = x2
    generalize sumW (l.drop (s + a.ss.length + 1 + p.ss.length)) = x3
    generalize nth th k = x4
    generalize nth th (k + 1) = x5
    generalize nth l (s + a.ss.length) = x6
    unfold wadd wneg
    ext <;> simp only <;> grind
theorem Env.sum_borne {b : Br} {l th : List Wr} {D M : Nat} (E : Env b l th D M) : sumW (borneW b l th) = sumW l := by
  have h := ends_sum (l := l) (th := th) (tot := (jsOf b).length) (K := b.as.length) b.as b.ps 0 0 0 wz E.ok.a E.ok.p E.ok.l (by rw [Nat.zero_add]; rfl) (by rw [Nat.zero_add, E.ll]; rfl)
  unfold borneW
  rw [sumW_cons]
  unfold endW
  rw [show (endsT l th b.as.length (jsOf b).length wz (lns b)) = endsT l th b.as.length (jsOf b).length wz (lnsFrom b.as b.ps 0 0 0) from rfl, h, ← wadd_assoc, wadd_wneg, z_wadd, List.drop_zero]
end LAW

end
section
set_option Elab.async false
set_option linter.all false
set_option maxRecDepth 100000
set_option maxHeartbeats 4000000
namespace LAW
open PySem MP
/-- all places but the pot stay -/
def Keep (E : Nat → Prop) (st st' : Sto) : Prop := st.length ≤ st'.length ∧ ∀ i, i < st.length → ¬ E i → st'[i]? = st[i]?
theorem Keep.trans {E : Nat → Prop} {a b c : Sto} (x : Keep E a b) (y : Keep E b c) : Keep E a c := ⟨Nat.le_trans x.1 y.1, fun i h h2 => (y.2 i (Nat.lt_of_lt_of_le h x.1) h2).trans (x.2 i h h2)⟩
theorem Keep.refl {E : Nat → Prop} {a : Sto} : Keep E a a := ⟨Nat.le_refl _, fun _ _ _ => rfl⟩
theorem PR.keep {n : Nat} {E : Nat → Prop} {a b : Sto} (p : PR n a b) (hE : E n) : Keep E a b := ⟨by rw [p.len]; exact Nat.le_refl _, fun i _ h => p.same i fun e => h (by rw [e]; exact hE)⟩
theorem Keep.app {E : Nat → Prop} {a g : Sto} : Keep E a (a ++ g) := ⟨by simp, fun i h _ => by rw [List.getElem?_append_left h]⟩
/-- data of these bounds, whatever comes behind -/
structure DOk (k N : Nat) (d : PyData) : Prop where
  sh : d.showable = true
  lv : d.leavesShort 1921 = true
  bk : d.bulk ≤ N
  dp : d.depth ≤ k
def Out (k N : Nat) (E : Nat → Prop) (st : Sto) (v : PV) : Prop := v.lt st.length = true ∧ smB v = true ∧ ∃ d, DOk k N d ∧ ∀ st', (Keep E st st' ∨ v.lt 0 = true) → toD st' k v = some d
theorem Out.keep {k N : Nat} {E : Nat → Prop} {st st' : Sto} {v : PV} (h : Out k N E st v) (x : Keep E st st') : Out k N E st' v := by
  obtain ⟨h1, h2, d, h3, h4⟩ := h
  exact ⟨PV.lt_mono x.1 h1, h2, d, h3, fun s hs => h4 s (hs.imp (fun y => x.trans y) id)⟩
theorem toD_up {st : Sto} : ∀ {k : Nat} {v : PV} {d : PyData}, toD st k v = some d → toD st (k + 1) v = some d
  | 0, v, d, h => by simp [toD] at h
  | k + 1, v, d, h => by
    have all : ∀ {xs : List PV} {ds : List PyData}, xs.mapM (toD st k) = some ds → xs.mapM (toD st (k + 1)) = some ds := by
      intro xs
      induction xs with
      | nil => intro ds h; exact h
      | cons x xs ih =>
        intro ds h
        simp only [List.mapM_cons, Option.bind_eq_bind, Option.bind_eq_some_iff, Option.pure_def] at h ⊢
        obtain ⟨y, h1, ys, h2, h3⟩ := h
        exact ⟨y, toD_up h1, ys, ih h2, h3⟩
    cases v with
    | tup xs =>
      rw [toD_tup, Option.map_eq_some_iff] at h ⊢
      obtain ⟨ds, h1, h2⟩ := h
      exact ⟨ds, all h1, h2⟩
    | ref m =>
      unfold toD at h ⊢
      split at h
      · rename_i xs hx
        rw [Option.map_eq_some_iff] at h ⊢
        obtain ⟨ds, h1, h2⟩ := h
        exact ⟨ds, all h1, h2⟩
      · rename_i xs hx
        rw [Option.map_eq_some_iff] at h ⊢
        obtain ⟨ds, h1, h2⟩ := h
        exact ⟨ds, all h1, h2⟩
      · rename_i hx
        exact h
      · cases h
    | non => unfold toD at h ⊢; exact h
    | bl b => unfold toD at h ⊢; exact h
    | int i => unfold toD at h ⊢; exact h
    | str s => unfold toD at h ⊢; exact h
theorem toD_le {st : Sto} {k j : Nat} (hj : k ≤ j) {v : PV} {d : PyData} (h : toD st k v = some d) : toD st j v = some d := by
  induction hj with
  | refl => exact h
  | step _ ih => exact toD_up ih
theorem Out.up {k N k' N' : Nat} {E : Nat → Prop} {st : Sto} {v : PV} (h : Out k N E st v) (hk : k ≤ k') (hN : N ≤ N') : Out k' N' E st v := by
  obtain ⟨h1, h2, d, ⟨a, b, c, e⟩, h4⟩ := h
  exact ⟨h1, h2, d, ⟨a, b, by omega, by omega⟩, fun s hs => toD_le hk (h4 s hs)⟩
section
variable {k N : Nat} {E : Nat → Prop} {st : Sto}
theorem out_int {i : Int} (h : i.natAbs < 2 ^ 999) : Out (k + 1) N E st (.int i) := by
  have hl : i.natAbs.log2 < 1920 := Nat.lt_trans (log_lt h (by decide)) (by decide)
  refine ⟨by simp, by simpa [smB] using h, .int i, ⟨by simpa [PyData.showable] using hl, ?_, by simp [PyData.bulk], by simp [PyData.depth]⟩, fun s _ => toD_int⟩
  simp only [PyData.leavesShort, decide_eq_true_eq]
  exact PyProof.Rows.int_text_len_1921 hl
theorem out_bl {b : Bool} : Out (k + 1) N E st (.bl b) := ⟨by simp, rfl, .bool b, ⟨rfl, rfl, by simp [PyData.bulk], by simp [PyData.depth]⟩, fun s _ => toD_bl⟩
theorem out_non : Out (k + 1) N E st .non := ⟨by simp, rfl, .none, ⟨rfl, rfl, by simp [PyData.bulk], by simp [PyData.depth]⟩, fun s _ => toD_non⟩
theorem out_str {s : Str} (h : s.cps.toList.all (fun c => decide (c < 16 ^ 8)) = true) (h2 : s.cps.size ≤ N) : Out (k + 1) N E st (.str s) := ⟨by simp, rfl, .str s, ⟨rfl, by simpa only [PyData.leavesShort] using h, by simpa [PyData.bulk] using h2, by simp [PyData.depth]⟩, fun s _ => toD_str⟩
theorem out_all {xs : List PV} (h : ∀ x ∈ xs, Out k N E st x) : ∃ ds, PyData.showableAll ds = true ∧ PyData.leavesShortAll 1921 ds = true ∧ PyData.bulkAll ds ≤ xs.length * (N + 1) ∧ PyData.depthAll ds ≤ k ∧ ∀ st', (Keep E st st' ∨ PV.ltA 0 xs = true) → xs.mapM (toD st' k) = some ds := by
  induction xs with
  | nil => exact ⟨[], rfl, rfl, by simp [PyData.bulkAll], by simp [PyData.depthAll], fun _ _ => rfl⟩
  | cons x xs ih =>
    obtain ⟨ds, a1, a2, a3, a4, a5⟩ := ih fun y hy => h y (List.mem_cons_of_mem _ hy)
    obtain ⟨h1, h2, d, ⟨b1, b2, b3, b4⟩, h4⟩ := h x (List.mem_cons_self ..)
    refine ⟨d :: ds, by simp [PyData.showableAll, b1, a1], by simp [PyData.leavesShortAll, b2, a2], ?_, ?_, fun s hs => ?_⟩
    · simp only [PyData.bulkAll, List.length_cons, Nat.add_mul]; omega
    · simp only [PyData.depthAll]; omega
    · have e1 := h4 s (hs.imp id fun z => by simp at z; exact z.1)
      have e2 := a5 s (hs.imp id fun z => by simp at z; exact z.2)
      simp [List.mapM_cons, e1, e2]
theorem out_tup {xs : List PV} (h : ∀ x ∈ xs, Out k N E st x) : Out (k + 1) (xs.length * (N + 1)) E st (.tup xs) := by
  obtain ⟨ds, a1, a2, a3, a4, a5⟩ := out_all h
  refine ⟨?_, ?_, .tuple ds, ⟨by simpa [PyData.showable] using a1, by simpa [PyData.leavesShort] using a2, by simpa [PyData.bulk] using a3, by simp [PyData.depth]; omega⟩, fun s hs => ?_⟩
  · rw [lt_tup, ltA_iff]; exact fun x hx => (h x hx).1
  · rw [smB, smA_iff]; exact fun x hx => (h x hx).2.1
  · rw [toD_tup, a5 s (hs.imp id fun z => by simpa using z)]; rfl
theorem out_lst {xs : List PV} {m : Nat} (hm : st[m]? = some (.lst xs)) (hmn : ¬ E m) (h : ∀ x ∈ xs, Out k N E st x) : Out (k + 1) (xs.length * (N + 1)) E st (.ref m) := by
  obtain ⟨ds, a1, a2, a3, a4, a5⟩ := out_all h
  have hlt : m < st.length := by
    rcases Nat.lt_or_ge m st.length with z | z
    · exact z
    · rw [List.getElem?_eq_none z] at hm; cases hm
  refine ⟨by simpa [PV.lt] using hlt, rfl, .list ds, ⟨by simpa [PyData.showable] using a1, by simpa [PyData.leavesShort] using a2, by simpa [PyData.bulk] using a3, by simp [PyData.depth]; omega⟩, fun s hs => ?_⟩
  rcases hs with hs | hs
  · unfold toD
    rw [hs.2 m hlt hmn, hm]
    simp [a5 s (.inl hs)]
  · simp [PV.lt] at hs
theorem out_dct {m : Nat} (hm : st[m]? = some (.dct [])) (hmn : ¬ E m) : Out (k + 2) N E st (.ref m) := by
  have hlt : m < st.length := by
    rcases Nat.lt_or_ge m st.length with z | z
    · exact z
    · rw [List.getElem?_eq_none z] at hm; cases hm
  refine ⟨by simpa [PV.lt] using hlt, rfl, .dict [], ⟨rfl, rfl, by simp [PyData.bulk, PyData.bulkKv], by simp [PyData.depth, PyData.depthKv]⟩, fun s hs => ?_⟩
  rcases hs with hs | hs
  · unfold toD
    rw [hs.2 m hlt hmn, hm]
  · simp [PV.lt] at hs
/-- its text can be shown -/
theorem Out.size {v : PV} (h : Out k N E st v) (hk : k ≤ 12) (hN : N ≤ 8000) : ∃ d : PyData, MP.sizeOk d = true ∧ ∀ st', Keep E st st' → toD st' deep v = some d := by
  obtain ⟨h1, h2, d, ⟨a, b, c, e⟩, h4⟩ := h
  refine ⟨d, ?_, fun s hs => toD_le (k := k) hk (h4 s (.inl hs))⟩
  have h5 := PyData.shown_le_bulk 1921 (by decide) d b
  have h6 : sizeLine = 16777216 := by decide
  unfold MP.sizeOk
  simp only [Bool.and_eq_true, decide_eq_true_eq]
  refine ⟨⟨a, ?_⟩, by omega⟩
  rw [h6]
  omega
end
end LAW

end
section
set_option Elab.async false
set_option linter.all false
set_option maxRecDepth 100000
set_option maxHeartbeats 4000000
/-! texts and likeness of ratios, wrenches, lists of them -/
namespace LAW
open PySem MP
@[simp] theorem cm_neS {a b : Str} {st : Sto} : cmpop .ne (.str a) (.str b) st = some (!decide (a = b)) := rfl
section
variable {k N : Nat} {E : Nat → Prop} {st : Sto}
theorem repr_val {v : PV} (h : Out k N E st v) (hk : k ≤ 12) (hN : N ≤ 8000) : ∃ t : Str, ∀ S, Keep E st S → blt .repr [v] S = some (.str t, S) := by
  obtain ⟨d, h1, h2⟩ := h.size hk hN
  refine ⟨d.shown, fun S hS => ?_⟩
  show (match toD S deep v with | some d => if MP.sizeOk d then some (PV.str d.shown, S) else none | none => none) = _
  rw [h2 S hS]
  simp [h1]
theorem repr_lst {xs : List PV} (h : ∀ x ∈ xs, Out k N E st x) (hk : k ≤ 11) (hN : xs.length * (N + 1) ≤ 8000) : ∃ t : Str, ∀ S m, Keep E st S → S[m]? = some (.lst xs) → blt .repr [.ref m] S = some (.str t, S) := by
  obtain ⟨ds, a1, a2, a3, a4, a5⟩ := out_all h
  have h5 := PyData.shown_le_bulk 1921 (by decide) (.list ds) (by simpa [PyData.leavesShort] using a2)
  have h6 : sizeLine = 16777216 := by decide
  refine ⟨(PyData.list ds).shown, fun S m hS hm => ?_⟩
  have e : toD S 12 (.ref m) = some (.list ds) := by
    refine toD_le (k := k + 1) (by omega) ?_
    unfold toD
    rw [hm]
    simp [a5 S (.inl hS)]
  show (match toD S deep (.ref m) with | some d => if MP.sizeOk d then some (PV.str d.shown, S) else none | none => none) = _
  rw [show toD S deep (.ref m) = some (.list ds) from e]
  have : MP.sizeOk (.list ds) = true := by
    unfold MP.sizeOk
    have hb : (PyData.list ds).bulk = PyData.bulkAll ds := by simp [PyData.bulk]
    have hd : (PyData.list ds).depth = PyData.depthAll ds + 1 := by simp [PyData.depth]
    simp only [Bool.and_eq_true, decide_eq_true_eq]
    refine ⟨⟨by simpa [PyData.showable] using a1, ?_⟩, by omega⟩
    rw [h6]
    omega
  simp [this]
end
mutual
def flB : PV → Bool
  | .int _ => true
  | .tup xs => flA xs
  | .non => false | .bl _ => false | .str _ => false | .ref _ => false
def flA : List PV → Bool
  | [] => true
  | x :: xs => flB x && flA xs
end
theorem flA_iff {xs : List PV} : flA xs = true ↔ ∀ x ∈ xs, flB x = true := by
  induction xs with
  | nil => simp [flA]
  | cons x xs ih => simp [flA, ih]
theorem flat_ok {S : Sto} : ∀ {k : Nat} {v : PV} {d : PyData}, flB v = true → toD S k v = some d → d.canLay0 = true ∧ PyData.eqv d d = true
  | 0, v, d, _, h => by simp [toD] at h
  | k + 1, v, d, hf, h => by
    have all : ∀ {xs : List PV} {ds : List PyData}, flA xs = true → xs.mapM (toD S k) = some ds → PyData.canLayAll0 ds = true ∧ PyData.eqvAll ds ds = true := by
      intro xs
      induction xs with
      | nil => intro ds _ h; cases h; exact ⟨rfl, rfl⟩
      | cons x xs ih =>
        intro ds hf h
        simp only [flA, Bool.and_eq_true] at hf
        simp only [List.mapM_cons, Option.bind_eq_bind, Option.bind_eq_some_iff, Option.pure_def] at h
        obtain ⟨y, h1, ys, h2, h3⟩ := h
        cases h3
        obtain ⟨a1, a2⟩ := flat_ok hf.1 h1
        obtain ⟨b1, b2⟩ := ih hf.2 h2
        exact ⟨by simp [PyData.canLayAll0, a1, b1], by simp [PyData.eqvAll, a2, b2]⟩
    cases v with
    | int i =>
      rw [toD_int] at h; cases h
      exact ⟨by simp [PyData.canLay0], by simp [PyData.eqv]⟩
    | tup xs =>
      rw [toD_tup, Option.map_eq_some_iff] at h
      obtain ⟨ds, h1, h2⟩ := h
      cases h2
      obtain ⟨a1, a2⟩ := all (by simpa [flB] using hf) h1
      exact ⟨by simpa [PyData.canLay0] using a1, by simpa [PyData.eqv] using a2⟩
    | non => simp [flB] at hf
    | bl _ => simp [flB] at hf
    | str _ => simp [flB] at hf
    | ref _ => simp [flB] at hf
theorem flat_all {S : Sto} {k : Nat} : ∀ {xs : List PV} {ds : List PyData}, (∀ x ∈ xs, flB x = true) → xs.mapM (toD S k) = some ds → PyData.canLayAll0 ds = true ∧ PyData.eqvAll ds ds = true
  | [], ds, _, h => by cases h; exact ⟨rfl, rfl⟩
  | x :: xs, ds, hf, h => by
    simp only [List.mapM_cons, Option.bind_eq_bind, Option.bind_eq_some_iff, Option.pure_def] at h
    obtain ⟨y, h1, ys, h2, h3⟩ := h
    cases h3
    obtain ⟨a1, a2⟩ := flat_ok (hf x (by simp)) h1
    obtain ⟨b1, b2⟩ := flat_all (fun z hz => hf z (by simp [hz])) h2
    exact ⟨by simp [PyData.canLayAll0, a1, b1], by simp [PyData.eqvAll, a2, b2]⟩
section
variable {E : Nat → Prop} {st : Sto}
theorem rb_big {r : Rat} (h : Rb r) : r.num.natAbs < 2 ^ 999 ∧ ((r.den : Nat) : Int).natAbs < 2 ^ 999 := by
  have h1 := Nat.lt_trans h.n (show 2 ^ 500 < 2 ^ 999 from Nat.pow_lt_pow_right (by decide) (by decide))
  have h2 := Nat.lt_trans h.d (show 2 ^ 500 < 2 ^ 999 from Nat.pow_lt_pow_right (by decide) (by decide))
  exact ⟨h1, by simpa using h2⟩
theorem out_rq {r : Rat} (h : Rb r) : Out 2 2 E st (rq r) := by
  have := out_tup (k := 1) (N := 0) (E := E) (st := st) (xs := [.int r.num, .int r.den]) (by
    intro x hx
    simp at hx
    rcases hx with rfl | rfl
    · exact out_int (rb_big h).1
    · exact out_int (rb_big h).2)
  exact this.up (by decide) (by simp)
theorem out_wv {w : Wr} (h : Wb w) : Out 3 9 E st (wv w) := by
  have := out_tup (k := 2) (N := 2) (E := E) (st := st) (xs := [rq w.1, rq w.2.1, rq w.2.2]) (by
    intro x hx
    simp at hx
    rcases hx with rfl | rfl | rfl
    · exact out_rq h.h
    · exact out_rq h.v
    · exact out_rq h.m)
  exact this.up (by decide) (by simp)
theorem fl_wv (w : Wr) : flB (wv w) = true := rfl
theorem fl_rq (r : Rat) : flB (rq r) = true := rfl
theorem eq_tup {xs : List PV} {k N : Nat} (hf : flB (.tup xs) = true) (ho : Out k N (fun _ => False) st (.tup xs)) (hk : k ≤ 12) : cmpop .eq (.tup xs) (.tup xs) st = some true ∧ cmpop .ne (.tup xs) (.tup xs) st = some false := by
  obtain ⟨_, _, d, h3, h4⟩ := ho
  have e : toD st deep (.tup xs) = some d := toD_le (k := k) hk (h4 st (.inl .refl))
  obtain ⟨f1, f2⟩ := flat_ok hf e
  have hd := h3.dp
  have f3 : SeqAt.shaped d = true := by
    unfold SeqAt.shaped
    rw [f1, Bool.true_and]
    exact decide_eq_true (by omega)
  have e1 : cmpop .eq (.tup xs) (.tup xs) st = (match toD st deep (.tup xs), toD st deep (.tup xs) with | some d, some e => if SeqAt.shaped d && SeqAt.shaped e then some (PyData.eqv d e) else none | _, _ => none) := rfl
  have e2 : cmpop .ne (.tup xs) (.tup xs) st = (match toD st deep (.tup xs), toD st deep (.tup xs) with | some d, some e => if SeqAt.shaped d && SeqAt.shaped e then some (!PyData.eqv d e) else none | _, _ => none) := rfl
  rw [e1, e2, e]
  simp [f3, f2]
theorem ne_rq {r : Rat} (h : Rb r) : cmpop .ne (rq r) (rq r) st = some false := (eq_tup (k := 2) (N := 2) rfl (out_rq h) (by decide)).2
theorem eq_rq {r : Rat} (h : Rb r) : cmpop .eq (rq r) (rq r) st = some true := (eq_tup (k := 2) (N := 2) rfl (out_rq h) (by decide)).1
theorem ne_wv {w : Wr} (h : Wb w) : cmpop .ne (wv w) (wv w) st = some false := (eq_tup (k := 3) (N := 9) rfl (out_wv h) (by decide)).2
/-- lists of wrenches -/
theorem data_ws {ws : List Wr} (h : ∀ w ∈ ws, Wb w) : ∃ ds, PyData.showableAll ds = true ∧ PyData.leavesShortAll 1921 ds = true ∧ PyData.bulkAll ds ≤ ws.length * 10 ∧ PyData.depthAll ds ≤ 3 ∧ ∀ S : Sto, (ws.map wv).mapM (toD S 3) = some ds := by
  obtain ⟨ds, a1, a2, a3, a4, a5⟩ := out_all (k := 3) (N := 9) (E := fun _ => False) (st := []) (xs := ws.map wv) (by
    intro x hx
    obtain ⟨w, hw, rfl⟩ := List.mem_map.mp hx
    exact out_wv (h w hw))
  rw [List.length_map] at a3
  exact ⟨ds, a1, a2, a3, a4, fun S => a5 S (.inl ⟨by simp, fun i hi => by simp at hi⟩)⟩
theorem toD_ref {S : Sto} {k m : Nat} {xs : List PV} {ds : List PyData} (h : S[m]? = some (.lst xs)) (e : xs.mapM (toD S k) = some ds) : toD S (k + 1) (.ref m) = some (.list ds) := by
  unfold toD
  rw [h]
  simp [e]
theorem ne_lists {ws : List Wr} {a b : Nat} {S : Sto} (h : ∀ w ∈ ws, Wb w) (ha : S[a]? = some (.lst (ws.map wv))) (hb : S[b]? = some (.lst (ws.map wv))) : cmpop .ne (.ref a) (.ref b) S = some false := by
  obtain ⟨ds, a1, a2, a3, a4, a5⟩ := data_ws h
  have ea : toD S deep (.ref a) = some (.list ds) := toD_le (k := 4) (by decide) (toD_ref ha (a5 S))
  have eb : toD S deep (.ref b) = some (.list ds) := toD_le (k := 4) (by decide) (toD_ref hb (a5 S))
  obtain ⟨f1, f2⟩ := flat_all (fun x hx => by
    obtain ⟨w, hw, rfl⟩ := List.mem_map.mp hx
    rfl) (a5 S)
  have f3 : SeqAt.shaped (.list ds) = true := by
    unfold SeqAt.shaped
    rw [show (PyData.list ds).canLay0 = true by simpa [PyData.canLay0] using f1, Bool.true_and]
    have hd : (PyData.list ds).depth = PyData.depthAll ds + 1 := by simp [PyData.depth]
    exact decide_eq_true (by omega)
  have e2 : cmpop .ne (.ref a) (.ref b) S = (match toD S deep (.ref a), toD S deep (.ref b) with | some d, some e => if SeqAt.shaped d && SeqAt.shaped e then some (!PyData.eqv d e) else none | _, _ => none) := rfl
  rw [e2, ea, eb]
  simp [f3, PyData.eqv, f2]
/-- the text of a list of two such lists -/
theorem repr_two {ws : List Wr} (h : ∀ w ∈ ws, Wb w) (hl : ws.length ≤ 10) : ∃ t : Str, ∀ (S : Sto) (m a b : Nat), S[m]? = some (.lst [.ref a, .ref b]) → S[a]? = some (.lst (ws.map wv)) → S[b]? = some (.lst (ws.map wv)) → blt .repr [.ref m] S = some (.str t, S) := by
  obtain ⟨ds, a1, a2, a3, a4, a5⟩ := data_ws h
  have h5 := PyData.shown_le_bulk 1921 (by decide) (.list [.list ds, .list ds]) (by simp [PyData.leavesShort, PyData.leavesShortAll, a2])
  have h6 : sizeLine = 16777216 := by decide
  refine ⟨(PyData.list [.list ds, .list ds]).shown, fun S m a b hm ha hb => ?_⟩
  have e : toD S 12 (.ref m) = some (.list [.list ds, .list ds]) := by
    refine toD_le (k := 5) (by omega) (toD_ref hm ?_)
    simp [List.mapM_cons, toD_ref ha (a5 S), toD_ref hb (a5 S)]
  show (match toD S deep (.ref m) with | some d => if MP.sizeOk d then some (PV.str d.shown, S) else none | none => none) = _
  rw [show toD S deep (.ref m) = some (.list [.list ds, .list ds]) from e]
  have : MP.sizeOk (.list [.list ds, .list ds]) = true := by
    unfold MP.sizeOk
    have hb : (PyData.list [.list ds, .list ds]).bulk = (PyData.list ds).bulk + 1 + ((PyData.list ds).bulk + 1) := by simp [PyData.bulk, PyData.bulkAll]
    have hb2 : (PyData.list ds).bulk = PyData.bulkAll ds := by simp [PyData.bulk]
    have hd : (PyData.list [.list ds, .list ds]).depth = PyData.depthAll ds + 1 + 1 := by simp [PyData.depth, PyData.depthAll]
    simp only [Bool.and_eq_true, decide_eq_true_eq]
    refine ⟨⟨by simp [PyData.showable, PyData.showableAll, a1], ?_⟩, by omega⟩
    rw [h6]
    omega
  simp [this]
end
end LAW

end
section
set_option Elab.async false
set_option linter.all false
set_option maxRecDepth 100000
set_option maxHeartbeats 4000000
/-! draws, thrusts -/
namespace LAW
open PySem MP
theorem repr_fresh {k N : Nat} {E : Nat → Prop} {st : Sto} {xs : List PV} (h : ∀ x ∈ xs, Out k N E st x) (hk : k ≤ 11) (hN : xs.length * (N + 1) ≤ 8000) : ∃ t : Str, ∀ S m, S[m]? = some (.lst xs) → Keep E st S → blt .repr [.ref m] S = some (.str t, S) := by
  obtain ⟨t, ht⟩ := repr_lst h hk hN
  exact ⟨t, fun S m hm hk => ht S m hk hm⟩
theorem r60 {n u : Int} (hn : n.natAbs ≤ 9) (h1 : 1 ≤ u) (h2 : u ≤ 5) : Rd 60 540 ((n : Rat) / u) := by
  have h : u = 1 ∨ u = 2 ∨ u = 3 ∨ u = 4 ∨ u = 5 := by omega
  rcases h with rfl | rfl | rfl | rfl | rfl
  · have : Rd 1 9 ((n : Rat) / (1 : Int)) := ⟨n, rfl, hn⟩
    exact (this.up (k := 60) (by decide))
  · have : Rd 2 9 ((n : Rat) / (2 : Int)) := ⟨n, rfl, hn⟩
    exact (this.up (k := 30) (by decide)).mono (by decide)
  · have : Rd 3 9 ((n : Rat) / (3 : Int)) := ⟨n, rfl, hn⟩
    exact (this.up (k := 20) (by decide)).mono (by decide)
  · have : Rd 4 9 ((n : Rat) / (4 : Int)) := ⟨n, rfl, hn⟩
    exact (this.up (k := 15) (by decide)).mono (by decide)
  · have : Rd 5 9 ((n : Rat) / (5 : Int)) := ⟨n, rfl, hn⟩
    exact (this.up (k := 12) (by decide)).mono (by decide)
theorem sm9 {i : Int} (h1 : -1000000000000 < i) (h2 : i < 1000000000000) : Sm i := (Bd.small h1 h2).sm
theorem PR.finq {n : Nat} {st S : Sto} {r : Rat} (p : PR n st S) : fin st.length (rq r) S = (rq r, S) := by rw [fin_rq, ← p.len, take_self]
theorem PR.finw {n : Nat} {st S : Sto} {w : Wr} (p : PR n st S) : fin st.length (wv w) S = (wv w, S) := by rw [fin_wv, ← p.len, take_self]
section
variable {st g : Sto} {n : Nat} {Q : PV × Sto → Prop}
theorem law_ratio_ok {m : Int} (hp : PotAt st n) (hm : 1 ≤ m ∧ m ≤ 9) (q : ∀ r st', Rd 60 540 r → PR n st st' → Q (rq r, st')) : Ok (F__law_ratio [.ref n, .int m] st) Q := by
  refine run__law_ratio rfl ?_
  have c1 : L2.CMulW 2 m := (Bd.small (by decide) (by decide)).sm.mul (Bd.small (by omega) (by omega)).sm
  simp [b__law_ratio, Gat_lt, c1]
  refine draw_at hp (by omega) (by omega) fun d st1 hd hd' p1 => ?_
  simp
  refine draw_at p1.pot (by decide) (by decide) fun d2 st2 hd2 hd2' p2 => ?_
  simp
  refine q_made (by omega) (sm9 (by omega) (by omega)) (sm9 (by omega) (by omega)) ?_
  simp only [nd_rt]
  rw [(p1.trans p2).finq]
  exact q _ st2 (r60 (by omega) (by omega) (by omega)) (p1.trans p2)
theorem law_move_ok (hp : PotAt st n) (q : ∀ m st', WD 60 540 m → PR n st st' → Q (wv m, st')) : Ok (F__law_move [.ref n] st) Q := by
  refine run__law_move rfl ?_
  simp [b__law_move, Gat_lt]
  refine law_ratio_ok hp (by decide) fun r1 st1 h1 p1 => ?_
  simp
  refine law_ratio_ok p1.pot (by decide) fun r2 st2 h2 p2 => ?_
  simp
  refine law_ratio_ok p2.pot (by decide) fun r3 st3 h3 p3 => ?_
  simp
  rw [show PV.tup [rq r1, rq r2, rq r3] = wv (r1, r2, r3) from rfl, ((p1.trans p2).trans p3).finw]
  exact q (r1, r2, r3) st3 ⟨h1, h2, h3⟩ ((p1.trans p2).trans p3)
theorem ratio_app {m : Int} (hp : PotAt st n) (hm : 1 ≤ m ∧ m ≤ 9) (q : ∀ r st', Rd 60 540 r → PR n st st' → Q (rq r, st' ++ g)) : Ok (F__law_ratio [.ref n, .int m] (st ++ g)) Q := by
  refine law_ratio_ok hp.app hm fun r s hr pr => ?_
  obtain ⟨st', rfl, p⟩ := pr.app hp.lt
  exact q r st' hr p
theorem move_app (hp : PotAt st n) (q : ∀ m st', WD 60 540 m → PR n st st' → Q (wv m, st' ++ g)) : Ok (F__law_move [.ref n] (st ++ g)) Q := by
  refine law_move_ok hp.app fun m s hm pr => ?_
  obtain ⟨st', rfl, p⟩ := pr.app hp.lt
  exact q m st' hm p
end
/-- the bound of all -/
def MM : Nat := 180000000
theorem Rd60 {i : Int} {N : Nat} (h : i.natAbs ≤ N) : Rd 60 (N * 60) (i : Rat) := by
  have := (Rd.int h).up (k := 60) (by decide)
  exact this
theorem IsW.typed {v : PV} (h : IsW v) : ∃ w, v = wv w ∧ WD 60 MM w := by
  obtain ⟨h, u, m, rfl, h1, h2, h3⟩ := h
  refine ⟨((h : Rat), (u : Rat), (m : Rat)), ?_, ⟨(Rd60 (N := 99999) (by omega)).mono (by decide), (Rd60 (N := 99999) (by omega)).mono (by decide), (Rd60 (N := 99999) (by omega)).mono (by decide)⟩⟩
  unfold wv mkW
  rw [rq_int, rq_int, rq_int]
theorem loads_bd {b : Br} (hb : Bok b) {o : Option Nat} : ∀ w ∈ loadsS b o, WD 60 MM w := fun w hw => by
  cases o with
  | none => unfold loadsS at hw; rw [List.eq_of_mem_replicate hw]; exact WD.zero
  | some s =>
    have hw2 : w ∈ (pullsOf b (stf b s)).map loadW := hw
    obtain ⟨p, hp, rfl⟩ := List.mem_map.mp hw2
    obtain ⟨h1, h2⟩ := hb.pulls (stf_ok hb s).1 (stf_ok hb s).2 p hp
    exact ⟨Rd.zero, (Rd60 (N := 3000000) (by omega)).mono (by decide), (Rd60 (N := 3000000) (by omega)).mono (by decide)⟩
theorem env_of {b : Br} (hb : Bok b) {th : List Wr} (hl : th.length = b.as.length) (ht : ∀ w ∈ th, WD 60 MM w) (o : Option Nat) : Env b (loadsS b o) th 60 MM :=
  ⟨hb, by
    cases o with
    | none => simp [loadsS]
    | some s => show ((pullsOf b (stf b s)).map loadW).length = _; rw [List.length_map, pulls_len], hl, loads_bd hb, ht, by decide, by decide, by decide⟩
end LAW

end
section
set_option Elab.async false
set_option linter.all false
set_option maxRecDepth 100000
set_option maxHeartbeats 4000000
/-! one state, one thrust -/
namespace LAW
open PySem MP
theorem tk2 {st : Sto} {o0 o1 : SO} : (st ++ [o0, o1]).take (st.length + 1) = st ++ [o0] := by
  rw [List.take_append, List.take_of_length_le (by omega), show st.length + 1 - st.length = 1 by omega]; rfl
theorem keep_nil {E : Nat → Prop} {S : Sto} : Keep E [] S := ⟨by simp, fun i hi => by simp at hi⟩
theorem repr_rr {r : Rat} (h : Rb r) : ∃ t : Str, ∀ (S : Sto) (m : Nat), S[m]? = some (.lst [rq r, rq r]) → blt .repr [.ref m] S = some (.str t, S) := by
  obtain ⟨t, ht⟩ := repr_fresh (k := 2) (N := 2) (E := fun _ => False) (st := []) (xs := [rq r, rq r]) (by intro x hx; simp at hx; rw [hx]; exact out_rq h) (by decide) (by simp)
  exact ⟨t, fun S m hm => ht S m hm keep_nil⟩
theorem Mv.replicate {b : Br} {m : Wr} (h : WD 60 540 m) : Mv b (List.replicate (b.as.length + 1) m) 60 540 := ⟨by simp, fun x hx => by rw [List.eq_of_mem_replicate hx]; exact h, by decide, by decide, by decide⟩
theorem Mv.added {b : Br} {ms ns : List Wr} (V : Mv b ms 60 540) (U : Mv b ns 60 540) : Mv b ((ms.zip ns).map fun p => wadd p.1 p.2) 60 1080 := ⟨by have := V.l; have := U.l; simp; omega, fun x hx => by
  obtain ⟨p, hp, rfl⟩ := List.mem_map.mp hx
  have hp' := List.of_mem_zip hp
  exact (V.m _ hp'.1).add (by decide) (U.m _ hp'.2), by decide, by decide, by decide⟩
theorem WD.mul {D N E M : Nat} {w : Wr} {r : Rat} (hD : 0 < D) (hE : 0 < E) (h : WD D N w) (hr : Rd E M r) : WD (D * E) (N * M) (wmul w r) := ⟨h.h.mul hD hE hr, h.v.mul hD hE hr, h.m.mul hD hE hr⟩
theorem Mv.taken {b : Br} {ms : List Wr} {r : Rat} (V : Mv b ms 60 540) (h : Rd 60 540 r) : Mv b (ms.map fun m => wmul m r) 3600 291600 := ⟨by rw [List.length_map]; exact V.l, fun x hx => by
  obtain ⟨m, hm, rfl⟩ := List.mem_map.mp hx
  exact (V.m m hm).mul (by decide) (by decide) h, by decide, by decide, by decide⟩
section
variable {b : Br} {th ms ns : List Wr} {s n : Nat} {st : Sto} {Q : PV × Sto → Prop}
theorem works_right_ok (hp : PotAt st n) (hB : IsB (bv b)) (hb : Bok b) (hl : th.length = b.as.length) (ht : ∀ w ∈ th, WD 60 MM w) (V : Mv b ms 60 540) (U : Mv b ns 60 540) (hs : s < 2) (q : ∀ st', PR n st st' → Q (.bl true, st')) : Ok (F__law_works_right [.ref n, bv b, .int s, .tup (th.map wv), .tup (ms.map wv), .tup (ns.map wv)] st) Q := by
  have E := env_of hb hl ht (some s)
  have ho : ∀ s', some s = some s' → s' < 2 := fun s' e => by cases e; exact hs
  have h3 := hb.l3
  have hbl := E.borne_len
  have hbw : ∀ w ∈ borneW b (loadsS b (some s)) th, Wb w := fun w hw => E.wb (by omega) (E.borne_bd w hw)
  obtain ⟨t2, ht2⟩ := repr_two hbw (by omega)
  refine run__law_works_right rfl ?_
  simp [b__law_works_right, Gat_lt]
  refine law_borne_ok (o := some s) E ho ?_
  simp
  rw [rest_at, b_cons]
  obtain ⟨K, hK⟩ : ∃ K : Fl → Prop, K = fun f => f = Fl.nx [some (.ref n), some (bv b), some (.int s), some (.tup (th.map wv)), some (.tup (ms.map wv)), some (.tup (ns.map wv)), some (.ref st.length), none, none, none, none, none, none, none] (st ++ [.lst ((borneW b (loadsS b (some s)) th).map wv)]) := ⟨_, rfl⟩
  refine Ok.mono (Q := K) ?_ ?_
  · simp [Gat_lt]
    refine borne_ok hB E hs ?_
    simp
    refine borne_ok hB E hs ?_
    simp
    rw [ht2 _ _ (st.length + 1) (st.length + 2) (get_h3 rfl) (get_h1 rfl) (get_h2 rfl)]
    have tk1 : ∀ o0 o1 o2 o3 : SO, (st ++ [o0, o1, o2, o3]).take (st.length + 1) = st ++ [o0] := fun o0 o1 o2 o3 => by
      rw [List.take_append, List.take_of_length_le (by omega), show st.length + 1 - st.length = 1 by omega]; rfl
    simp [tk1]
    rw [ht2 _ _ st.length st.length (get_h1 rfl) (get_h0 rfl) (get_h0 rfl)]
    simp [tk2]
    rw [hK]
  · rw [hK]
    rintro _ rfl
    clear hK K
    generalize hB0 : borneW b (loadsS b (some s)) th = B at *
    rw [sq_nx, rest_at, b_cons]
    obtain ⟨K, hK⟩ : ∃ K : Fl → Prop, K = fun f => f = Fl.nx [some (.ref n), some (bv b), some (.int s), some (.tup (th.map wv)), some (.tup (ms.map wv)), some (.tup (ns.map wv)), some (.ref st.length), none, none, none, none, none, none, none] (st ++ [.lst (B.map wv)]) := ⟨_, rfl⟩
    refine Ok.mono (Q := K) ?_ ?_
    · have sq0 : ∀ S, seqOf (.ref st.length) (st ++ .lst (B.map wv) :: S) = some (B.map wv) := fun S => seq_h0 rfl
      simp [Gat_lt, sq0]
      refine ⟨by omega, ?_⟩
      rw [counted_eq, show (fun i : Nat => PV.int ((0 : Int) + (i : Int))) = fun i : Nat => PV.int (i : Int) from funext fun i => by rw [Int.zero_add]]
      rw [show st ++ [SO.lst (B.map wv), SO.lst []] = (st ++ [.lst (B.map wv)]) ++ [.lst []] by simp]
      refine lc_pureM (fun i : Nat => PV.int (i : Int)) (fun f => wv (nth B f)) (by simp) (by simp; omega) (fun f hf acc ha => ?_) ?_
      · rw [List.mem_range] at hf
        rw [ok_lcS]
        simp [Gat_lt]
        refine foot_wrench_ok hB E hs (f := f) (by omega) ?_
        rw [hB0]
        simp
        exact ha
      · rw [List.nil_append, nth_map]
        have g0 : ((st ++ [SO.lst (B.map wv)]) ++ [SO.lst (B.map wv)])[st.length]? = some (.lst (B.map wv)) := by rw [List.append_assoc]; exact get_h0 rfl
        have g1 : ((st ++ [SO.lst (B.map wv)]) ++ [SO.lst (B.map wv)])[st.length + 1]? = some (.lst (B.map wv)) := by rw [List.append_assoc]; exact get_h1 rfl
        simp only [ne_lists hbw g1 g0, ok_some]
        simp
        rw [hK, tk2]
    · rw [hK]
      rintro _ rfl
      clear hK K
      rw [sq_nx, rest_at]
      simp [Gat_lt]
      obtain ⟨I, hI⟩ : ∃ I : Nat → Sl → Sto → Prop, I = fun k σ S => ∃ s8 : Option PV, S = st ++ [.lst (B.map wv)] ∧ σ = [some (.ref n), some (bv b), some (.int s), some (.tup (th.map wv)), some (.tup (ms.map wv)), some (.tup (ns.map wv)), some (.ref st.length), some (wv (lastW wz (B.take k))), s8, none, none, none, none, none] := ⟨_, rfl⟩
      have hitB : items (.ref st.length) (st ++ [SO.lst (B.map wv)]) = some (B.map wv, [(st.length, SO.lst (B.map wv))]) := items_ref (get_h0 rfl)
      have bdB : ∀ w ∈ B, WD 60 (30 * MM) w := by rw [← hB0]; exact E.borne_bd
      rw [rest_at]
      simp [Gat_lt, hitB]
      refine for_rule (k := 0) I (by rw [hI]; exact ⟨none, rfl, rfl⟩) ?_ ?_
      · intro i e σ S he hi0
        rw [hI] at hi0
        obtain ⟨s8, rfl, rfl⟩ := hi0
        rw [List.getElem?_map, Option.map_eq_some_iff] at he
        obtain ⟨x, hl, rfl⟩ := he
        rw [Nat.zero_add]
        rw [ok_lpS]
        simp [Gat_lt]
        have hx := List.mem_of_getElem? hl
        refine law_addW (E.wb (c := 120) (by omega) ((sumW_bd (by decide) bdB i).mono ?_)) (hbw x hx) ?_
        · rw [← Nat.mul_assoc]
          exact Nat.mul_le_mul_right MM (by omega)
        simp
        rw [hI]
        exact ⟨some (wv x), rfl, by rw [last_take hl]⟩
      · intro σ S hi0
        rw [hI] at hi0
        obtain ⟨s8, rfl, rfl⟩ := hi0
        rw [List.length_map, Nat.zero_add, List.take_length]
        have hsum : lastW wz B = lastW wz (loadsS b (some s)) := by rw [← hB0]; exact E.sum_borne
        have hsb : Wb (lastW wz (loadsS b (some s))) := by
          have hll := E.ll
          have h15 := hb.ss15
          have := sumW_bd E.D0 E.l (loadsS b (some s)).length
          rw [List.take_length] at this
          exact E.wb (c := 15) (by omega) (this.mono (Nat.mul_le_mul_right MM (by omega)))
        clear hI I
        rw [hsum, sq_nx, rest_at]
        simp [Gat_lt]
        refine law_all_loads_ok (o := some s) E ho ?_
        simp only [ne_wv hsb, ok_some]
        simp
        rw [rest_at]
        simp [Gat_lt]
        refine law_work_ok (o := some s) E ho V ?_
        rw [hB0]
        simp
        have hdr : Rb (workW B ms) := by rw [← hB0]; exact E.dot_rb V
        obtain ⟨t3, ht3⟩ := repr_rr hdr
        rw [rest_at, b_cons]
        obtain ⟨K, hK⟩ : ∃ K : Fl → Prop, K = fun f => f = Fl.nx [some (.ref n), some (bv b), some (.int s), some (.tup (th.map wv)), some (.tup (ms.map wv)), some (.tup (ns.map wv)), some (.ref st.length), some (wv (lastW wz (loadsS b (some s)))), s8, some (rq (workW B ms)), none, none, none, none] (st ++ [.lst (B.map wv)]) := ⟨_, rfl⟩
        refine Ok.mono (Q := K) ?_ ?_
        · simp [Gat_lt]
          refine work_ok hB E hs V ?_
          rw [hB0]
          simp
          refine work_ok hB E hs V ?_
          rw [hB0]
          simp
          rw [ht3 _ _ (get_h1 rfl)]
          simp [tk2]
          rw [ht3 _ _ (get_h1 rfl)]
          simp [tk2]
          rw [hK]
        · rw [hK]
          rintro _ rfl
          clear hK K
          rw [sq_nx, rest_at]
          simp [Gat_lt]
          refine move_app (g := [_]) hp fun m st1 hm p1 => ?_
          simp
          refine ratio_app (g := [_]) p1.pot (by decide) fun r st2 hr p2 => ?_
          simp
          have p12 := p1.trans p2
          have rb30 : ∀ {x : Rat}, Rd 60 540 x → Rb x := fun h => h.rb (by decide) (Nat.lt_trans (by decide : 540 < 2 ^ 30) (Nat.pow_lt_pow_right (by decide) (by decide))) (Nat.lt_trans (by decide : 60 < 2 ^ 30) (Nat.pow_lt_pow_right (by decide) (by decide)))
          rw [rest_at]
          simp [Gat_lt, wv_at]
          refine rigid_ok hB hb (rb30 hm.h) (rb30 hm.v) (rb30 hm.m) ?_
          simp only []
          refine work_ok hB E hs (Mv.replicate hm) ?_
          rw [hB0]
          simp [-List.map_replicate]
          refine law_all_loads_ok (o := some s) E ho ?_
          simp
          have dl : DotOk 60 60 (15 * MM) 540 (lastW wz (loadsS b (some s))) m := by
            have hll := E.ll
            have h15 := hb.ss15
            have := sumW_bd E.D0 E.l (loadsS b (some s)).length
            rw [List.take_length] at this
            exact ⟨by decide, by decide, Nat.lt_trans (by decide : 60 * 60 < 2 ^ 30) (Nat.pow_lt_pow_right (by decide) (by decide)), Nat.lt_trans (by decide : 3 * (15 * MM * 540) < 2 ^ 60) (Nat.pow_lt_pow_right (by decide) (by decide)), this.mono (Nat.mul_le_mul_right MM (by omega)), hm, hsb, ⟨rb30 hm.h, rb30 hm.v, rb30 hm.m⟩⟩
          refine law_works_ok dl ?_
          have er : workW B (List.replicate (b.as.length + 1) (m.1, m.2.1, m.2.2)) = dotW (lastW wz (loadsS b (some s))) m := by
            rw [← hbl, ← hsum]
            exact work_rigid m B
          have hrr : Rb (workW B (List.replicate (b.as.length + 1) (m.1, m.2.1, m.2.2))) := by rw [← hB0]; exact E.dot_rb (Mv.replicate hm)
          rw [er] at hrr ⊢
          simp only [ne_rq hrr, ok_some]
          simp
          rw [rest_at]
          simp [Gat_lt]
          refine law_work_ok (o := some s) E ho U ?_
          rw [hB0]
          simp
          have hdu : Rb (workW B ns) := by rw [← hB0]; exact E.dot_rb U
          have VU := V.added U
          have VT := V.taken hr
          have hlv := V.l
          have hlu := U.l
          rw [rest_at]
          simp [Gat_lt]
          refine added_ok hB hb V U (fun p hp => VU.wb _ (List.mem_map_of_mem hp)) ?_
          simp only []
          refine work_ok hB E hs VU ?_
          rw [hB0]
          show Ok (F__law_plus _ _) _
          refine q_plus hdr hdu ?_
          have ea : workW B ((ms.zip ns).map fun p => wadd p.1 p.2) = workW B ms + workW B ns := work_added B ms ns (by omega) (by omega)
          have hra : Rb (workW B ((ms.zip ns).map fun p => wadd p.1 p.2)) := by rw [← hB0]; exact E.dot_rb VU
          rw [ea] at hra ⊢
          simp only [ne_rq hra, ok_some]
          simp
          rw [rest_at]
          simp [Gat_lt]
          refine taken_ok hB hb V (rb30 hr) (fun x hx => VT.wb _ (List.mem_map_of_mem hx)) ?_
          simp only []
          refine work_ok hB E hs VT ?_
          rw [hB0]
          simp only []
          refine q_by hdr (rb30 hr) ?_
          have et : workW B (ms.map fun m => wmul m r) = workW B ms * r := work_taken r B ms (by omega)
          have hrt : Rb (workW B (ms.map fun m => wmul m r)) := by rw [← hB0]; exact E.dot_rb VT
          rw [et] at hrt ⊢
          simp only [eq_rq hrt, ok_some]
          try simp
          rw [List.take_append_of_le_length (by rw [p12.len]; exact Nat.le_refl _), ← p12.len, List.take_length]
          exact q st2 p12
end
end LAW

end
section
set_option Elab.async false
set_option linter.all false
set_option maxRecDepth 100000
set_option maxHeartbeats 4000000
/-! the law -/
namespace LAW
open PySem MP
theorem app_at {S : Sto} {L b : Nat} {v : PV} {xs : List PV} {Q : Sto → Prop} (h : S.length = L) : Ok (app1 b L v (S ++ [.lst xs])) Q ↔ (b ≤ L ∨ v.lt 0 = true) ∧ xs.length < 1000000 ∧ Q (S ++ [.lst (xs ++ [v])]) := app_h0 h
/-- so many moves, drawn one behind another -/
theorem moves_lc {st g : Sto} {n t : Nat} {σ : Sl} {b L : Nat} {xs : List PV} {Q : Sto → Prop} (htt : t = 12 ∨ t = 13) (hp : PotAt st n) (h0 : σ[0]? = some (some (.ref n))) (hl : σ.length = 14) (hb : b ≤ L) (hL : (st ++ g).length = L) (hm : xs.length ≤ 1000)
    (q : ∀ (ms : List Wr) st', ms.length = xs.length → (∀ x ∈ ms, WD 60 540 x) → PR n st st' → Q (st' ++ g ++ [.lst (ms.map wv)])) :
    Ok (lcL [] (lcS (Gat G0 cds 101) G0 (.call 72 (.cons (.var 0) .nil)) (.name t) .nil [t] b σ L) xs (st ++ g ++ [.lst []])) Q := by
  obtain ⟨I, hI⟩ : ∃ I : Nat → Sto → Prop, I = fun k S => ∃ (ms : List Wr) (st' : Sto), ms.length = k ∧ (∀ x ∈ ms, WD 60 540 x) ∧ PR n st st' ∧ S = st' ++ g ++ [.lst (ms.map wv)] := ⟨_, rfl⟩
  refine lc_rule (k := 0) I (by rw [hI]; exact ⟨[], st, rfl, by simp, .refl hp, rfl⟩) ?_ ?_
  · intro i e S he hi0
    rw [hI] at hi0
    obtain ⟨ms, st1, lm, hms, p1, rfl⟩ := hi0
    have hi : i < xs.length := (List.getElem?_eq_some_iff.mp he).1
    have lg : (st1 ++ g).length = L := by rw [List.length_append, p1.len, ← List.length_append]; exact hL
    have hq : ∀ (x : Wr) (st2 : Sto), WD 60 540 x → PR n st1 st2 → (fun u : PV × Sto => Ok (app1 b L u.1 u.2) fun s => I (i + 1) s) (wv x, st2 ++ (g ++ [SO.lst (ms.map wv)])) := by
      intro x st2 hx p2
      have p12 := p1.trans p2
      have lg2 : (st2 ++ g).length = L := by rw [List.length_append, p12.len, ← List.length_append]; exact hL
      have e1 : st2 ++ (g ++ [SO.lst (ms.map wv)]) = (st2 ++ g) ++ [.lst (ms.map wv)] := (List.append_assoc ..).symm
      rw [e1]
      refine (app_at lg2).mpr ⟨.inl hb, by rw [List.length_map]; omega, ?_⟩
      rw [hI]
      refine ⟨ms ++ [x], st2, by simp [lm], fun y hy => ?_, p12, by simp⟩
      rcases List.mem_append.mp hy with z | z
      · exact hms y z
      · rw [List.mem_singleton.mp z]; exact hx
    have key := move_app (st := st1) (g := g ++ [SO.lst (ms.map wv)]) (Q := fun u : PV × Sto => Ok (app1 b L u.1 u.2) fun s => I (i + 1) s) p1.pot hq
    clear hq
    have h00 : σ[0] = some (.ref n) := by have z := h0; rw [List.getElem?_eq_getElem (by omega)] at z; exact Option.some.inj z
    rw [ok_lcS]
    rcases htt with rfl | rfl
    · simp [Gat_lt, hl, h00]
      exact key
    · simp [Gat_lt, hl, h00]
      exact key
  · intro S hi0
    rw [hI] at hi0
    obtain ⟨ms, st1, lm, hms, p1, rfl⟩ := hi0
    rw [Nat.zero_add] at lm
    exact q ms st1 lm hms p1
theorem works_app {b : Br} {th ms ns : List Wr} {s n : Nat} {st g : Sto} {Q : PV × Sto → Prop} (hp : PotAt st n) (hB : IsB (bv b)) (hb : Bok b) (hl : th.length = b.as.length) (ht : ∀ w ∈ th, WD 60 MM w) (V : Mv b ms 60 540) (U : Mv b ns 60 540) (hs : s < 2) (q : ∀ st', PR n st st' → Q (.bl true, st' ++ g)) : Ok (F__law_works_right [.ref n, bv b, .int s, .tup (th.map wv), .tup (ms.map wv), .tup (ns.map wv)] (st ++ g)) Q := by
  refine works_right_ok hp.app hB hb hl ht V U hs fun s' pr => ?_
  obtain ⟨st', rfl, p⟩ := pr.app hp.lt
  exact q st' p
theorem fin_th1 {S : Sto} {o : SO} {ws : List Wr} : fin S.length (.tup (ws.map wv)) (S ++ [o]) = (.tup (ws.map wv), S) := by
  rw [fin_th, List.take_left' rfl]
theorem rd_zero {D : Nat} {r : Rat} (h : Rd D 0 r) : r = 0 := by
  obtain ⟨n, rfl, hn⟩ := h
  have : n = 0 := by omega
  rw [this]
  simp [Rat.div_def]
theorem wd_zero {D : Nat} {w : Wr} (h : WD D 0 w) : w = wz := by
  have h1 := rd_zero h.h
  have h2 := rd_zero h.v
  have h3 := rd_zero h.m
  unfold wz
  ext
  · exact h1
  · exact h2
  · exact h3
theorem env_nought {b : Br} (hb : Bok b) : Env b (loadsS b none) (List.replicate b.as.length wz) 60 0 :=
  ⟨hb, by simp [loadsS], by simp, fun w hw => by unfold loadsS at hw; rw [List.eq_of_mem_replicate hw]; exact WD.zero, fun w hw => by rw [List.eq_of_mem_replicate hw]; exact WD.zero, by decide, by decide, by decide⟩
theorem nought_firm {b : Br} (hb : Bok b) : firmB b (loadsS b none) (List.replicate b.as.length wz) = true := by
  have E := env_nought hb
  unfold firmB LW
  rw [List.all_eq_true]
  intro x hx
  obtain ⟨p, hp, rfl⟩ := List.mem_map.mp hx
  have h1 : p.1 = wz := wd_zero (D := 60) (by have := E.pw_bd p.1 (List.of_mem_zip hp).1; rwa [Nat.mul_zero] at this)
  have z : ∀ x y : Int, mo wz x y = 0 := fun x y => by unfold mo wz; simp only; grind
  rw [h1]
  unfold leanW
  simp only [z]
  decide +kernel
theorem nought_work {b : Br} (hb : Bok b) (ms : List Wr) : workW (borneW b (loadsS b none) (List.replicate b.as.length wz)) ms = 0 := by
  have E := env_nought hb
  refine work_nought 0 _ _ fun w hw => wd_zero (D := 60) ?_
  have := E.borne_bd w hw
  rwa [Nat.mul_zero] at this
theorem mv_of {b : Br} {xs : List Wr} (h1 : xs.length = b.as.length + 1) (h2 : ∀ x ∈ xs, WD 60 540 x) : Mv b xs 60 540 := ⟨h1, h2, by decide, by decide, by decide⟩
theorem right_ok {st : Sto} {n : Nat} {Q : PV × Sto → Prop} (hp : PotAt st n)
    (hQ : ∀ st', Q (.bl true, st')) : Ok (F__law_right [.ref n] st) Q := by
  refine run__law_right rfl ?_
  simp [b__law_right, Gat_lt]
  refine bridge_ok (by decide) hp fun B Th st1 hB hTh hlen p1 => ?_
  obtain ⟨b, rfl, hb⟩ := hB.typed
  obtain ⟨th, rfl, ht⟩ := lift (fun _ => IsW.typed) hTh
  rw [List.length_map, show nOf (bv b) = (b.as.map av).length from rfl, List.length_map] at hlen
  have h3 := hb.l3
  have e3 : ∀ S, seqOf (bv b) S = some [.str "bridge", .tup (b.as.map av), .tup (b.ps.map piv), .tup [.tup [], .tup (b.cs.map cv)]] := fun S => rfl
  simp
  rw [rest_at]
  simp [e3]
  rw [rest_at]
  simp
  rw [show MP.counted 0 2 = [.int 0, .int 1] from rfl]
  simp
  refine ⟨by omega, ?_⟩
  rw [show st1 ++ [SO.lst [], SO.lst []] = st1 ++ [.lst []] ++ [.lst []] by simp]
  refine moves_lc (L := st1.length + 1) (.inr rfl) p1.pot (by simp) (by simp) (by omega) (by simp) (by rw [counted_len]; omega) fun xs st2 lx hx p2 => ?_
  rw [counted_len] at lx
  have l2' : st2.length = st1.length := p2.len
  simp
  have g1 : seqOf (.ref (st1.length + 1)) (st2 ++ [SO.lst [], SO.lst (xs.map wv)]) = some (xs.map wv) := seq_h1 l2'
  rw [g1]
  have f1 : fin (st1.length + 1) (PV.tup (xs.map wv)) (st2 ++ [SO.lst [], SO.lst (xs.map wv)]) = (.tup (xs.map wv), st2 ++ [.lst []]) := by
    rw [fin_th, ← l2', show st2 ++ [SO.lst [], SO.lst (xs.map wv)] = (st2 ++ [.lst []]) ++ [.lst (xs.map wv)] by simp, List.take_left' (by simp)]
  simp only [ok_some, f1]
  have l1' : st1.length = st.length := p1.len
  have l20 : st2.length = st.length := l2'.trans l1'
  simp [l1', app_h0 l20]
  refine ⟨by omega, ?_⟩
  rw [show st2 ++ [SO.lst [.tup (xs.map wv)], SO.lst []] = st2 ++ [.lst [.tup (xs.map wv)]] ++ [.lst []] by simp]
  refine moves_lc (L := st2.length + 1) (.inr rfl) p2.pot (by simp) (by simp) (by omega) (by simp) (by rw [counted_len]; omega) fun ys st3 ly hy p3 => ?_
  rw [counted_len] at ly
  have l3' : st3.length = st2.length := p3.len
  simp
  have g2 : seqOf (.ref (st2.length + 1)) (st3 ++ [SO.lst [.tup (xs.map wv)], SO.lst (ys.map wv)]) = some (ys.map wv) := seq_h1 l3'
  rw [g2]
  have f2 : fin (st2.length + 1) (PV.tup (ys.map wv)) (st3 ++ [SO.lst [.tup (xs.map wv)], SO.lst (ys.map wv)]) = (.tup (ys.map wv), st3 ++ [.lst [.tup (xs.map wv)]]) := by
    rw [fin_th, ← l3', show st3 ++ [SO.lst [.tup (xs.map wv)], SO.lst (ys.map wv)] = (st3 ++ [.lst [.tup (xs.map wv)]]) ++ [.lst (ys.map wv)] by simp, List.take_left' (by simp)]
  simp only [ok_some, f2]
  have l30 : st3.length = st.length := l3'.trans l20
  simp [app_h0 l30, lst_h0 l30]
  have p13 := (p1.trans p2).trans p3
  rw [rest_at]
  simp [e3]
  rw [show st3 ++ [SO.lst [.tup (xs.map wv), .tup (ys.map wv)], SO.lst []] = st3 ++ [.lst [.tup (xs.map wv), .tup (ys.map wv)]] ++ [.lst []] by simp]
  refine moves_lc (L := st3.length + 1) (.inl rfl) p3.pot (by simp) (by simp) (by omega) (by simp) (by rw [List.length_map]; omega) fun ds st4 ld hd p4 => ?_
  rw [List.length_map] at ld
  have l4' : st4.length = st3.length := p4.len
  simp
  have g4 : seqOf (.ref (st3.length + 1)) (st4 ++ [SO.lst [.tup (xs.map wv), .tup (ys.map wv)], SO.lst (ds.map wv)]) = some (ds.map wv) := seq_h1 l4'
  rw [g4]
  have f4 : fin (st3.length + 1) (PV.tup (ds.map wv)) (st4 ++ [SO.lst [.tup (xs.map wv), .tup (ys.map wv)], SO.lst (ds.map wv)]) = (.tup (ds.map wv), st4 ++ [.lst [.tup (xs.map wv), .tup (ys.map wv)]]) := by
    rw [fin_th, ← l4', show st4 ++ [SO.lst [.tup (xs.map wv), .tup (ys.map wv)], SO.lst (ds.map wv)] = (st4 ++ [.lst [.tup (xs.map wv), .tup (ys.map wv)]]) ++ [.lst (ds.map wv)] by simp, List.take_left' (by simp)]
  simp only [ok_some, f4]
  have hdM : ∀ w ∈ ds, WD 60 MM w := fun w hw => (hd w hw).mono (by decide)
  have V := mv_of lx hx
  have U := mv_of ly hy
  generalize hX : SO.lst [PV.tup (xs.map wv), PV.tup (ys.map wv)] = X
  have g40 : ∀ (st' : Sto) (o : SO), st'.length = st4.length → (st' ++ [X, o])[st4.length + 1]? = some o := fun st' o h => get_h1 h
  rw [rest_at]
  simp [Gat_lt, -for_cons]
  obtain ⟨I, hI⟩ : ∃ I : Nat → Sl → Sto → Prop, I = fun k σ S => ∃ (st' : Sto) (s7 s8 : Option PV), PR n st4 st' ∧ S = st' ++ [X, .lst [.tup (th.map wv), .tup (ds.map wv)]] ∧ σ = [some (.ref n), some (bv b), some (.tup (th.map wv)), some (.int (b.as.length + 1)), some (.tup (xs.map wv)), some (.tup (ys.map wv)), some (.tup (ds.map wv)), s7, s8, none, none, none, none, none] := ⟨_, rfl⟩
  refine for_rule (k := 0) I (by rw [hI]; exact ⟨st4, none, none, .refl p4.pot, rfl, rfl⟩) ?_ ?_
  · intro i e σ S he hi0
    rw [hI] at hi0
    obtain ⟨st5, s7, s8, p5, rfl, rfl⟩ := hi0
    obtain ⟨t, rfl, tl, tb⟩ : ∃ t : List Wr, e = .tup (t.map wv) ∧ t.length = b.as.length ∧ ∀ w ∈ t, WD 60 MM w := by
      match i, he with
      | 0, he => exact ⟨th, (Option.some.inj he).symm, hlen, ht⟩
      | 1, he => exact ⟨ds, (Option.some.inj he).symm, ld, hdM⟩
      | i + 2, he => simp at he
    rw [Nat.zero_add]
    rw [ok_lpS]
    simp [Gat_lt, -for_cons]
    obtain ⟨J, hJ⟩ : ∃ J : Nat → Sl → Sto → Prop, J = fun k σ S => ∃ (st' : Sto) (s8 : Option PV), PR n st4 st' ∧ S = st' ++ [X, .lst [.tup (th.map wv), .tup (ds.map wv)]] ∧ σ = [some (.ref n), some (bv b), some (.tup (th.map wv)), some (.int (b.as.length + 1)), some (.tup (xs.map wv)), some (.tup (ys.map wv)), some (.tup (ds.map wv)), some (.tup (t.map wv)), s8, none, none, none, none, none] := ⟨_, rfl⟩
    refine for_rule (k := 0) J (by rw [hJ]; exact ⟨st5, s8, p5, rfl, rfl⟩) ?_ ?_
    · intro j e σ S he hj0
      rw [hJ] at hj0
      obtain ⟨st6, s8', p6, rfl, rfl⟩ := hj0
      have hj := counted_lt he
      have ej : e = .int (j : Nat) := by
        have := counted_get he
        rw [this]; congr 1; omega
      subst ej
      rw [Nat.zero_add]
      rw [ok_lpS]
      simp [Gat_lt]
      refine works_app (g := [X, _]) p6.pot hB hb tl tb V U hj fun st7 p7 => ?_
      simp
      rw [hJ]
      exact ⟨st7, _, p6.trans p7, rfl, rfl⟩
    · intro σ S hj0
      rw [hJ] at hj0
      obtain ⟨st6, s8', p6, rfl, rfl⟩ := hj0
      simp [rest_at]
      refine ⟨g40 _ _ p6.len, ?_⟩
      rw [hI]
      exact ⟨st6, _, _, p6, rfl, rfl⟩
  · intro σ S hi0
    rw [hI] at hi0
    obtain ⟨st5, s7, s8, p5, rfl, rfl⟩ := hi0
    clear hI I
    have hno : PV.tup (List.replicate b.as.length (PV.tup [PV.tup [.int 0, .int 1], PV.tup [.int 0, .int 1], PV.tup [.int 0, .int 1]])) = .tup ((List.replicate b.as.length wz).map wv) := by rw [List.map_replicate]; rfl
    have hlA := hb.l
    have hzl : (List.replicate b.as.length wz).length = b.as.length := by simp
    have hzb : ∀ w ∈ List.replicate b.as.length wz, WD 60 MM w := fun w hw => by rw [List.eq_of_mem_replicate hw]; exact WD.zero
    have hzf := nought_firm hb
    have hzw := nought_work hb xs
    generalize hZ : List.replicate b.as.length wz = Z at *
    rw [sq_nx, rest_at]
    simp [e3, -List.map_replicate]
    refine ⟨by omega, ?_⟩
    rw [hno]
    have ho : ∀ s', (none : Option Nat) = some s' → s' < 2 := fun s' e => by cases e
    generalize hG : (st5 ++ [X, SO.lst [PV.tup (th.map wv), PV.tup (ds.map wv)]]) = S0
    rw [rest_at]
    simp [Gat_lt, -for_cons]
    obtain ⟨t0, ht0⟩ : ∃ t0 : Bool → Str, ∀ (bb : Bool) (S : Sto) (m : Nat), S[m]? = some (.lst [.bl bb, .bl bb]) → blt .repr [.ref m] S = some (.str (t0 bb), S) := by
      have : ∀ bb : Bool, ∃ t : Str, ∀ (S : Sto) (m : Nat), S[m]? = some (.lst [.bl bb, .bl bb]) → blt .repr [.ref m] S = some (.str t, S) := fun bb => by
        obtain ⟨t, h⟩ := repr_fresh (k := 1) (N := 0) (E := fun _ => False) (st := []) (xs := [PV.bl bb, .bl bb]) (by intro y hy; simp at hy; rw [hy]; exact out_bl) (by decide) (by simp)
        exact ⟨t, fun S m hm => h S m hm keep_nil⟩
      exact ⟨fun bb => Classical.choose (this bb), fun bb => Classical.choose_spec (this bb)⟩
    obtain ⟨I, hI⟩ : ∃ I : Nat → Sl → Sto → Prop, I = fun k σ S => ∃ (s7 s10 : Option PV), S = S0 ++ [.lst [.tup (th.map wv), .tup (ds.map wv), .tup (Z.map wv)]] ∧ σ = [some (.ref n), some (bv b), some (.tup (th.map wv)), some (.int (b.as.length + 1)), some (.tup (xs.map wv)), some (.tup (ys.map wv)), some (.tup (ds.map wv)), s7, s8, some (.tup (Z.map wv)), s10, none, none, none] := ⟨_, rfl⟩
    refine for_rule (k := 0) I (by rw [hI]; exact ⟨s7, none, rfl, rfl⟩) ?_ ?_
    · intro i e σ S he hi0
      rw [hI] at hi0
      obtain ⟨s7', s10, rfl, rfl⟩ := hi0
      obtain ⟨t, rfl, tl, tb⟩ : ∃ t : List Wr, e = .tup (t.map wv) ∧ t.length = b.as.length ∧ ∀ w ∈ t, WD 60 MM w := by
        match i, he with
        | 0, he => exact ⟨th, (Option.some.inj he).symm, hlen, ht⟩
        | 1, he => exact ⟨ds, (Option.some.inj he).symm, ld, hdM⟩
        | 2, he => exact ⟨Z, (Option.some.inj he).symm, hzl, hzb⟩
        | i + 3, he => simp at he
      have E := env_of hb tl tb none
      rw [Nat.zero_add]
      rw [ok_lpS]
      simp [Gat_lt]
      refine law_is_firm_ok (o := none) E ho ?_
      simp
      rw [rest_at, b_cons]
      obtain ⟨K, hK⟩ : ∃ K : Fl → Prop, K = fun f => f = Fl.nx [some (.ref n), some (bv b), some (.tup (th.map wv)), some (.int (b.as.length + 1)), some (.tup (xs.map wv)), some (.tup (ys.map wv)), some (.tup (ds.map wv)), some (.tup (t.map wv)), s8, some (.tup (Z.map wv)), some (.bl (firmB b (loadsS b none) t)), none, none, none] (S0 ++ [.lst [.tup (th.map wv), .tup (ds.map wv), .tup (Z.map wv)]]) := ⟨_, rfl⟩
      refine Ok.mono (Q := K) ?_ ?_
      · simp [Gat_lt]
        refine is_push_ok hB E ?_
        simp
        refine is_push_ok hB E ?_
        simp
        rw [ht0 _ _ _ (get_h1 rfl)]
        simp [tk2]
        rw [ht0 _ _ _ (get_h1 rfl)]
        simp [tk2]
        rw [hK]
      · rw [hK]
        rintro _ rfl
        clear hK K
        rw [sq_nx, rest_at]
        simp [Gat_lt]
        have fin2 : ∀ s10' : Option PV, I (i + 1) [some (PV.ref n), some (bv b), some (PV.tup (th.map wv)), some (PV.int (b.as.length + 1)), some (PV.tup (xs.map wv)), some (PV.tup (ys.map wv)), some (PV.tup (ds.map wv)), some (PV.tup (t.map wv)), s8, some (PV.tup (Z.map wv)), s10', none, none, none] (S0 ++ [SO.lst [PV.tup (th.map wv), PV.tup (ds.map wv), PV.tup (Z.map wv)]]) := fun s10' => by
          rw [hI]; exact ⟨_, _, rfl, rfl⟩
        refine ⟨fun hf => ?_, fun _ => fin2 _⟩
        refine push_work_ok hB E V hf ?_
        simp only []
        refine law_work_ok (o := none) E ho V ?_
        simp only [ne_rq (E.dot_rb V), ok_some]
        refine ⟨fun h => absurd h (by decide), fun _ => ⟨by simp, fin2 _⟩⟩
    · intro σ S hi0
      rw [hI] at hi0
      obtain ⟨s7', s10, rfl, rfl⟩ := hi0
      clear hI I
      have E := env_of hb hzl hzb none
      rw [sq_nx, rest_at]
      simp [Gat_lt]
      refine push_work_ok hB E V hzf ?_
      rw [hzw]
      have z01 : PV.tup [PV.int 0, PV.int 1] = rq 0 := rfl
      have rb0 : Rb 0 := ⟨by show 0 < 2 ^ 500; exact Nat.two_pow_pos _, by show 1 < 2 ^ 500; exact Nat.one_lt_two_pow (by decide)⟩
      simp only [z01, eq_rq rb0, ok_some]
      exact hQ _
end LAW

end
section
set_option Elab.async false
set_option linter.all false
set_option maxRecDepth 100000
set_option maxHeartbeats 4000000
namespace LAW
open PySem MP
theorem law_pot_ok {ns : List Int} {Q : PV × Sto → Prop} (q : ∀ a c : Int, 0 ≤ a → 0 ≤ c → c < 2147483587 → Q (.ref 1, [.fzl (ns.map .int), .lst [.int a, .int c]])) : Ok (F__law_pot [.ref 0, .int 0] [.fzl (ns.map .int)]) Q := by
  refine run__law_pot rfl ?_
  have m1 : L2.CMulW 1307 0 := (Bd.small (by decide) (by decide)).sm.mul (Bd.small (by decide) (by decide)).sm
  have m2 : L2.CMulW 6947 0 := (Bd.small (by decide) (by decide)).sm.mul (Bd.small (by decide) (by decide)).sm
  have p1 : L2.CPow 10 18 := by unfold L2.CPow; decide
  simp [b__law_pot, m1]
  rw [rest_at, b_cons]
  obtain ⟨K, hK⟩ : ∃ K : Fl → Prop, K = fun f => ∃ c : Int, 0 ≤ c ∧ f = Fl.nx [some (.ref 0), some (.int 0), some (.int c)] [.fzl (ns.map .int)] := ⟨_, rfl⟩
  have sq : seqOf (.ref 0) [SO.fzl (ns.map PV.int)] = some (ns.map .int) := rfl
  refine Ok.mono (Q := K) ?_ ?_
  · simp [sq]
    refine ⟨fun h => ?_, fun h => ?_⟩
    · obtain ⟨x, r, rfl⟩ : ∃ x r, ns = x :: r := by
        cases ns with
        | nil => simp at h
        | cons x r => exact ⟨x, r, rfl⟩
      simp
      rw [hK]
      exact ⟨_, by split <;> omega, rfl⟩
    · rw [hK]
      exact ⟨_, by decide, rfl⟩
  · rw [hK]
    rintro _ ⟨c, hc, rfl⟩
    clear hK K
    rw [sq_nx, rest_at]
    have f1 : ∀ i k : Int, 0 < k → i.fmod k = i % k := fun i k h => Int.fmod_eq_emod_of_nonneg _ (by omega)
    have b1 : 0 ≤ c % 2147483549 := Int.emod_nonneg _ (by decide)
    have b2 : c % 2147483549 < 2147483549 := Int.emod_lt_of_pos _ (by decide)
    have m3 : L2.CMulW (c % 2147483549) 40014 := (Bd.small (by omega) (by omega)).sm.mul (Bd.small (by decide) (by decide)).sm
    simp [p1, m2, f1, m3]
    rw [fin_ref (o := .lst _) (by simp) (by simp; rfl) (by simp [SO.lt])]
    refine q _ _ ?_ ?_ ?_
    · split <;> omega
    · omega
    · omega
theorem law_ok {ns : List Int} : ∃ st', F_law [.ref 0] [.fzl (ns.map .int)] = some (.bl true, st') := by
  have h : Ok (F_law [.ref 0] [.fzl (ns.map .int)]) (fun r => r.1 = .bl true) := by
    refine run_law rfl ?_
    simp [b_law, Gat_lt]
    refine law_pot_ok fun a c ha hc hc2 => ?_
    simp
    refine right_ok (n := 1) ⟨a, c, rfl, ha, hc, hc2⟩ fun st' => ?_
    simp
  obtain ⟨⟨v, st'⟩, e, rfl⟩ := h
  exact ⟨st', e⟩
end LAW

end
set_option Elab.async false
open PySem
theorem PySem.Challenge.cw_stonespans_k81_whole_what_feet_bear_holds : PySem.Challenge.rw_stonespans_k81_whole_what_feet_bear.Holds := by
  exact LAW.holds_of fun ns _ => LAW.law_ok
