import PyProof.Rows.All
import Wide.All
import OpenK.AllK
import Wide.FinOn
import HandS.ForMost
import KE.SortData
import KE.DataMinMax
import PyProof.ReprRoads
import HandS.Exc
import HandS.ExcOwn
import HandS.WordsExc
import HandS.IsInst
import HandS.SortInts
import HandS.Wide
import HandS.TupAny
import HandS.Conv
import HandS.TupMul
import KE.DataEq
import HandS.Flow
import HandS.Style
import HandS.DictEq
import HandS.DeepEq
import PyProof.NeKinds
import HandS.More
import HandS.Zip
import HandS.Strs
import HandS.SetFor
import HandS.WrittenGet
import KE.GoesZip
import KE.GoesMore
import KE.GoesEnum
import KE.DataFind
import HandS.ExcIs
import HandS.Remove
import KE.KRevSl
import HandS.ExcValue
import HandS.TryOnly
import HandS.Finally
import HandS.Dict
import KE.KDictCopyH
import KE.KDictPairs
import PyProof.PvWalk
import PyProof.FitsInt
import PyProof.ReprText
import PySem.Challenge.RW_rowlaid_k53_whole_gates_left_out
set_option Elab.async false
set_option linter.all false
set_option maxRecDepth 100000
set_option maxHeartbeats 2000000
/-! T: a small language, its values, its store, what its terms come to -/
namespace T
open PySem L2

/-- a value that never changes -/
inductive D where
  | non | bl (b : Bool) | int (i : Int) | str (x : Str)
  | tup (xs : List D) | ctup (xs : List D) | lst (xs : List D) | scr (ns : List Int)
  | dic (kvs : List (Key × D)) | dit (kvs : List (List Key × D)) | exn (c : Nat)
/-- .. or a thing of the store -/
inductive W where
  | p (d : D) | r (n : Nat)
/-- what stands in the store -/
inductive O where
  | dead | lst (ws : List W) | tup (ws : List W) | dic (kvs : List (Key × W)) | dit (kvs : List (List Key × W)) | ins (c : Nat) (fs : List (Str × W))
  | ldk (kvs : List (Key × W)) | ldt (kvs : List (List Key × W))
abbrev Sto := List O
abbrev Nv := List (Option W)
inductive Res (α : Type) where
  | ok (a : α) (s : Sto) | exc (c : Nat) (s : Sto) | err
noncomputable def Res.bind {α β : Type} : Res α → (α → Sto → Res β) → Res β
  | .ok a s, f => f a s
  | .exc c s, _ => .exc c s
  | .err, _ => .err
theorem bind_ok {α β : Type} (a : α) (s : Sto) (f : α → Sto → Res β) : (Res.ok a s).bind f = f a s := rfl
/-- where nothing may be raised -/
noncomputable def Res.ne {α : Type} : Res α → Res α
  | .ok a s => .ok a s
  | _ => .err
noncomputable def ofO {α : Type} (s : Sto) : Option α → Res α
  | some a => .ok a s
  | none => .err

/-- no dict that is walked just now -/
noncomputable def O.alive : O → Bool
  | .dead => false
  | .ldk _ => false
  | .ldt _ => false
  | _ => true
noncomputable def O.there : O → Bool
  | .dead => false
  | _ => true
noncomputable def O.isT : O → Bool
  | .tup _ => true
  | _ => false
noncomputable def W.isP : W → Bool
  | .p _ => true
  | .r _ => false
/-- nothing of the store lies within -/
noncomputable def O.flat : O → Bool
  | .dead => false
  | .lst ws => ws.all W.isP
  | .tup ws => ws.all W.isP
  | .dic kvs => kvs.all fun x => x.2.isP
  | .dit kvs => kvs.all fun x => x.2.isP
  | .ins _ fs => fs.all fun x => x.2.isP
  | .ldk _ => false
  | .ldt _ => false
noncomputable def unW : List W → Option (List D)
  | [] => some []
  | .p d :: r => (unW r).map (d :: ·)
  | .r _ :: _ => none
noncomputable def unK {κ : Type} : List (κ × W) → Option (List (κ × D))
  | [] => some []
  | (k, .p d) :: r => (unK r).map ((k, d) :: ·)
  | (_, .r _) :: _ => none
theorem unW_map : ∀ xs : List D, unW (xs.map W.p) = some xs
  | [] => rfl
  | d :: r => by rw [List.map_cons, unW, unW_map r]; rfl

/-! ### operators -/
inductive Bop where
  | add | sub | mul | fdiv | mod | pow
inductive Cop where
  | eq | ne | lt | le | gt | ge | isN | notN | isB | notB | isin | notin
/-- builtin functions -/
inductive Bfn where
  | len | isiInt | isiBool | isiStr | isiTup | isiLst | all | any | sum | max1 | min1 | max2 | min2 | int | bool | abs | strI
  | lstM | lstP | tupl | srtP | srtM | srtSet | dicM | dicP | srtD | minD | lstT
  deriving DecidableEq
/-- methods of builtin things -/
inductive Bmt where
  | append | extend | pop0 | popAt | insert | clear | remove | index | count | get2 | get1 | setdefault | items | join | split
/-- what a for walks to -/
inductive Tg where
  | nm (i : Nat) | tup (is : List Nat)
mutual
inductive Ex where
  | var (i : Nat)
  | con (d : D)
  | glo (x : Str) (d : D)
  | bin (o : Bop) (a b : Ex)
  | neg (a : Ex)
  | cmp (o : Cop) (a b : Ex)
  | chn (o1 o2 : Cop) (a b c : Ex)
  | and (a b : Ex) | or (a b : Ex) | not (a : Ex)
  | ite (t a b : Ex)
  | tup (es : Exs)
  | tupM (es : Exs)
  | lst (m : Bool) (es : Exs)
  | dnw (t : Bool)
  | ix (a b : Ex)
  | sli (a : Ex) (lo hi : Opt)
  | sliM (a : Ex) (lo hi : Opt)
  | fld (c : Nat) (a : Ex) (f : Str)
  | cal (m : Bool) (f : Nat) (es : Exs)
  | mth (c : Nat) (m : Str) (f : Nat) (o : Ex) (es : Exs)
  | mak (c : Nat) (f : Nat) (es : Exs)
  | bfn (b : Bfn) (es : Exs)
  | rgl (m : Bool) (t : Bool) (a : Ex)
  | bmt (b : Bmt) (o : Ex) (es : Exs)
  | lc (m : Bool) (tg : Tg) (it : Iter) (hc : Bool) (c : Ex) (e : Ex)
  | frz (a : Ex)
  | gdx (x : Str) (kvs : List (Str × D)) (e : Ex)
  | rev (m : Bool) (a : Ex)
  | revT (a : Ex)
  | remI (a b : Ex)
  | idx (a b : Ex)
  | idxR (a b : Ex)
  | sst (m : Bool) (a : Ex)
  | addM (a b : Ex)
  | calB (f : Nat) (es : Exs)
  | cntL (a b : Ex)
  | rpr (a : Ex)
  | isE (a : Ex) (y : Str) (cs : List (Nat × Bool))
  | lcK (m : Bool) (tg : Tg) (a : Ex) (hc : Bool) (c : Ex) (e : Ex)
  | mkE (c : Nat) (e : Ex)
  | dsg (kvs : List (Str × Str)) (e : Ex) (d : Str)
  | calK (f : Nat) (inv : List Nat) (es : Exs)
  | dclr (o : Ex)
  | dcT (a : Ex)
inductive Exs where
  | nil | cons (e : Ex) (es : Exs)
inductive Opt where
  | none | some (e : Ex)
inductive Iter where
  | ex (a : Ex) | rng1 (a : Ex) | rng2 (a b : Ex) | rng3 (a b c : Ex) | enu (a : Ex) | zip (a b : Ex) | items (a : Ex) | keys (a : Ex) | gks (x : Str) (kvs : List (Str × D)) | zipS (a b : Ex) | enuT (a : Ex)
end
mutual
inductive Sm where
  | exp (e : Ex) | asg (i : Nat) (e : Ex) | asgT (ts : List Nat) (e : Ex) | asgI (o i e : Ex) | asgF (c : Nat) (o : Ex) (f : Str) (e : Ex)
  | par (i j : Nat) (a b : Ex) | asgTI (t : Nat) (o i e : Ex)
  | ret (e : Ex) | retN
  | ifs (t : Ex) (a b : Sms)
  | whl (t : Ex) (b : Sms)
  | forr (tg : Tg) (it : Iter) (b : Sms)
  | brk | cnt | pas
  | rai (c : Nat)
  | tryA (k : Nat) (e : Option Nat) (x : Str) (yes no : List Nat) (b : Sms)
  | fzv (i : Nat)
  | forK (tg : Tg) (a : Ex) (b : Sms)
  | asgL (ts : List Nat) (e : Ex)
  | tryC (k i t : Nat) (f : Nat) (es : Exs) (x : Str) (yes no : List Nat)
inductive Sms where
  | nil | cons (s : Sm) (ss : Sms)
end
inductive Flow where
  | nx | bk | ct | rt (w : W)

/-! ### reading -/
/-- a value as the data that it shows now -/
noncomputable def vw (st : Sto) : W → Option D
  | .p d => some d
  | .r n => match st[n]? with
    | some (.lst ws) => (unW ws).map D.lst
    | some (.dic kvs) => (unK kvs).map D.dic
    | some (.dit kvs) => (unK kvs).map D.dit
    | some (.ldk kvs) => (unK kvs).map D.dic
    | some (.ldt kvs) => (unK kvs).map D.dit
    | _ => none
/-- the items of a list or tuple -/
noncomputable def itemsD : D → Option (List D)
  | .tup xs => some xs
  | .ctup xs => some xs
  | .lst xs => some xs
  | .scr ns => some (ns.map D.int)
  | _ => none
noncomputable def itemsW (st : Sto) : W → Option (List W)
  | .p d => (itemsD d).map (·.map W.p)
  | .r n => match st[n]? with
    | some (.lst ws) => some ws
    | _ => none
mutual
noncomputable def toPy : D → Option PyData
  | .non => some .none
  | .bl b => some (.bool b)
  | .int i => some (.int i)
  | .str x => some (.str x)
  | .tup xs => (toPys xs).map PyData.tuple
  | .ctup xs => (toPys xs).map PyData.tuple
  | .lst xs => (toPys xs).map PyData.list
  | .scr ns => some (.list (ns.map PyData.int))
  | .dic _ => none
  | .dit _ => none
  | .exn _ => none
noncomputable def toPys : List D → Option (List PyData)
  | [] => some []
  | x :: xs => match toPy x, toPys xs with
    | some d, some ds => some (d :: ds)
    | _, _ => none
end
noncomputable def pyW (st : Sto) : Nat → W → Option PyData
  | _, .p d => toPy d
  | 0, .r _ => none
  | k + 1, .r n => match st[n]? with
    | some (.lst ws) => (ws.mapM (pyW st k)).map PyData.list
    | some (.tup ws) => (ws.mapM (pyW st k)).map PyData.tuple
    | _ => none
/-- any tuple against () -/
noncomputable def eqN : W → W → Option Bool
  | .p (.tup xs), .p (.tup []) => some xs.isEmpty
  | _, _ => none
/-- a tuple, a list, a dict with what lies in it -/
inductive Nd where
  | tup (ws : List W) | lst (ws : List W) | dic (kvs : List (Key × W))
noncomputable def ndW (st : Sto) : W → Option Nd
  | .p (.tup ds) => some (.tup (ds.map W.p))
  | .p (.ctup ds) => some (.tup (ds.map W.p))
  | .p (.lst ds) => some (.lst (ds.map W.p))
  | .p (.dic kvs) => some (.dic (kvs.map fun e => (e.1, W.p e.2)))
  | .p _ => none
  | .r n => match st[n]? with
    | some (.tup ws) => some (.tup ws)
    | some (.lst ws) => some (.lst ws)
    | some (.dic kvs) => some (.dic kvs)
    | some (.ldk kvs) => some (.dic kvs)
    | _ => none
noncomputable def all2 (f : W → W → Bool) : List W → List W → Bool
  | [], [] => true
  | x :: xs, y :: ys => f x y && all2 f xs ys
  | _, _ => false
noncomputable def leafB (st : Sto) (x y : W) : Bool := match pyW st 4 x, pyW st 4 y with
  | some d, some e => decide (d.depth ≤ 50) && PyData.eqv d e
  | _, _ => false
noncomputable def nodB (f : W → W → Bool) : Option Nd → Option Nd → Bool
  | some (.tup xs), some (.tup ys) => all2 f xs ys
  | some (.lst xs), some (.lst ys) => all2 f xs ys
  | some (.dic xs), some (.dic ys) => decide (xs.length = ys.length) && xs.all fun e => match (ys.find? fun z => decide (z.1 = e.1)).map (·.2) with
    | some u => f e.2 u
    | none => false
  | _, _ => false
/-- they show the same -/
noncomputable def sameW (st : Sto) : Nat → W → W → Bool
  | 0, _, _ => false
  | k + 1, x, y => leafB st x y || nodB (sameW st k) (ndW st x) (ndW st y)
/-- .. tuples and dicts, whatever lies in them -/
noncomputable def eqF (st : Sto) (x y : W) : Option Bool := match eqN x y with
  | some b => some b
  | none => match ndW st x, ndW st y with
    | some (.lst _), _ => none
    | a, b => if nodB (sameW st 8) a b then some true else none
noncomputable def eqW (st : Sto) (x y : W) : Option Bool :=
  match pyW st 4 x, pyW st 4 y with
  | some d, some e => if d.depth ≤ 64 ∧ e.depth ≤ 64 then some (PyData.eqv d e) else eqF st x y
  | _, _ => eqF st x y
noncomputable def truD : D → Option Bool
  | .non => some false
  | .bl b => some b
  | .int i => some (i != 0)
  | .str x => if x.length ≤ sizeLine then some ((x.length : Int) != 0) else none
  | _ => none
noncomputable def truW (_ : Sto) : W → Option Bool
  | .p d => truD d
  | .r _ => none
noncomputable def keyD : D → Option Key
  | .int i => some (.inl i)
  | .str x => some (.inr x)
  | _ => none
noncomputable def keysD : List D → Option (List Key)
  | [] => some []
  | x :: r => match keyD x, keysD r with
    | some k, some ks => some (k :: ks)
    | _, _ => none
noncomputable def keyTD : D → Option (List Key)
  | .tup xs => keysD xs
  | _ => none

/-! ### operators on values -/
noncomputable def mulOk (i j : Int) : Bool := decide (i.natAbs.log2 + j.natAbs.log2 < 1000000)
noncomputable def divOk (j : Int) : Bool := decide (0 < j) && decide (j.natAbs.log2 < 9000)
noncomputable def powOk (i j : Int) : Bool := decide (0 ≤ j) && decide (j ≤ 1000000) && decide (i.natAbs < 2 ^ 64)
noncomputable def small62 (i : Int) : Bool := decide (-(2 ^ 62) ≤ i) && decide (i < 2 ^ 62)
noncomputable def lenOk (n : Nat) : Bool := decide (n ≤ 16777216)
noncomputable def repOk (n : Nat) (k : Int) : Bool := decide (-(2 ^ 63) ≤ k) && decide (k < 2 ^ 63) && decide (n * k.toNat ≤ 16777216)
noncomputable def binD : Bop → D → D → Option D
  | .add, .int i, .int j => some (.int (i + j))
  | .add, .str x, .str y => if lenOk (x.length + y.length) then some (.str (x ++ y)) else none
  | .add, .tup x, .tup y => if lenOk (x.length + y.length) then some (.tup (x ++ y)) else none
  | .add, .lst x, .lst y => if lenOk (x.length + y.length) then some (.lst (x ++ y)) else none
  | .sub, .int i, .int j => some (.int (i - j))
  | .mul, .int i, .int j => if mulOk i j then some (.int (i * j)) else none
  | .mul, .lst x, .int k => if repOk x.length k then some (.lst (List.replicate k.toNat x).flatten) else none
  | .mul, .tup x, .int k => if decide (1 ≤ k) && decide (k ≤ 1000) && decide (x.length ≤ 1000) then some (.tup (List.replicate k.toNat x).flatten) else none
  | .fdiv, .int i, .int j => if divOk j then some (.int (i / j)) else none
  | .mod, .int i, .int j => if decide (0 < j) then some (.int (i % j)) else none
  | .pow, .int i, .int j => if powOk i j then some (.int (i ^ j.toNat)) else none
  | _, _, _ => none
noncomputable def itemsPy : PyData → Option (List PyData)
  | .list ds => some ds
  | .tuple ds => some ds
  | _ => none
/-- x in c -/
noncomputable def inDat (st : Sto) (x c : W) : Option Bool :=
  match pyW st 4 x, pyW st 4 c with
  | some d, some e => match itemsPy e with
    | some ds => if d.depth ≤ 64 then some (ds.any fun z => PyData.eqv z d) else none
    | none => none
  | _, _ => none
noncomputable def hasK {κ α : Type} [DecidableEq κ] (kvs : List (κ × α)) (k : κ) : Bool := kvs.any fun e => decide (e.1 = k)
/-- a text in a text -/
noncomputable def strIn (i j : Str) : Bool := !(Builtin.Str.occurrences j i 0 j.length 1).isEmpty
noncomputable def inW (st : Sto) (x c : W) : Option Bool :=
  match vw st c, x with
  | some (.str j), .p (.str i) => some (strIn i j)
  | some (.dic kvs), .p d => (keyD d).map (hasK kvs)
  | some (.dit kvs), .p d => (keyTD d).map (hasK kvs)
  | some _, _ => inDat st x c
  | none, _ => inDat st x c
noncomputable def isNon : W → Bool
  | .p .non => true
  | _ => false
noncomputable def cmpW (st : Sto) : Cop → W → W → Option Bool
  | .eq, x, y => eqW st x y
  | .ne, x, y => (eqW st x y).map (!·)
  | .lt, .p (.int i), .p (.int j) => some (decide (i < j))
  | .le, .p (.int i), .p (.int j) => some (decide (i ≤ j))
  | .gt, .p (.int i), .p (.int j) => some (decide (j < i))
  | .ge, .p (.int i), .p (.int j) => some (decide (j ≤ i))
  | .isN, x, .p .non => some (isNon x)
  | .notN, x, .p .non => some (!isNon x)
  | .isB, .p (.bl a), .p (.bl b) => some (decide (a = b))
  | .notB, .p (.bl a), .p (.bl b) => some (!decide (a = b))
  | .isin, x, y => inW st x y
  | .notin, x, y => (inW st x y).map (!·)
  | _, _, _ => none
noncomputable def getK {κ α : Type} [DecidableEq κ] (kvs : List (κ × α)) (k : κ) : Option α := (kvs.find? fun e => decide (e.1 = k)).map (·.2)
noncomputable def ixW (st : Sto) (x y : W) : Option W :=
  match y with
  | .p i => match x with
    | .r n => match st[n]?, i with
      | some (.lst ws), .int j => atI ws j
      | some (.tup ws), .int j => atI ws j
      | some (.dic kvs), k => (keyD k).bind (getK kvs)
      | some (.dit kvs), k => (keyTD k).bind (getK kvs)
      | some (.ldk kvs), k => (keyD k).bind (getK kvs)
      | some (.ldt kvs), k => (keyTD k).bind (getK kvs)
      | _, _ => none
    | .p (.dic kvs) => ((keyD i).bind (getK kvs)).map W.p
    | .p (.dit kvs) => ((keyTD i).bind (getK kvs)).map W.p
    | .p (.str z) => match i with
      | .int j => if lenOk z.length then (atI z.cps.toList j).map fun c => .p (.str ⟨#[c]⟩) else none
      | _ => none
    | .p d => match i with
      | .int j => ((itemsD d).bind fun ds => atI ds j).map W.p
      | _ => none
  | .r _ => none
noncomputable def cutL {α : Type} (xs : List α) (lo hi : Option Int) : List α := (xs.drop (HT.sIx xs.length 0 lo)).take (HT.sIx xs.length xs.length hi - HT.sIx xs.length 0 lo)
noncomputable def sliD (lo hi : Option Int) : D → Option D
  | .tup xs => some (.tup (cutL xs lo hi))
  | .lst xs => some (.lst (cutL xs lo hi))
  | .str z => if lenOk z.length then some (.str ⟨(cutL z.cps.toList lo hi).toArray⟩) else none
  | .scr ns => some (.lst (cutL (ns.map D.int) lo hi))
  | _ => none
noncomputable def putK {κ α : Type} [DecidableEq κ] (kvs : List (κ × α)) (k : κ) (v : α) : List (κ × α) :=
  if (kvs.any fun kv => decide (kv.1 = k)) = true then kvs.map (fun kv => if kv.1 = k then (kv.1, v) else kv) else kvs ++ [(k, v)]
/-- o[i] = v -/
noncomputable def setW (st : Sto) (o i v : W) : Option Sto :=
  match o, i with
  | .r n, .p i => match st[n]?, i with
    | some (.lst ws), .int j => (ixN ws.length j).map fun k => st.set n (.lst (ws.set k v))
    | some (.dic kvs), k => (keyD k).bind fun k => if kvs.length < sizeLine then some (st.set n (.dic (putK kvs k v))) else none
    | some (.dit kvs), k => (keyTD k).bind fun k => if kvs.length < sizeLine then some (st.set n (.dit (putK kvs k v))) else none
    | _, _ => none
  | _, _ => none
noncomputable def fldW (st : Sto) (c : Nat) (o : W) (f : Str) : Option W :=
  match o with
  | .r n => match st[n]? with
    | some (.ins c' fs) => if c' = c then fs.lookup f else none
    | _ => none
  | .p _ => none
noncomputable def putFW (f : Str) (v : W) : List (Str × W) → List (Str × W)
  | [] => [(f, v)]
  | (g, x) :: r => if g = f then (g, v) :: r else (g, x) :: putFW f v r
noncomputable def setF (st : Sto) (c : Nat) (o : W) (f : Str) (v : W) : Option Sto :=
  match o with
  | .r n => match st[n]? with
    | some (.ins c' fs) => if c' = c ∧ fs.length < 1000 then some (st.set n (.ins c' (putFW f v fs))) else none
    | _ => none
  | .p _ => none
/-- the thing n of the store becomes a value -/
noncomputable def frzO : O → Option D
  | .lst ws => (unW ws).map D.lst
  | .tup ws => (unW ws).map D.tup
  | .dic kvs => (unK kvs).map D.dic
  | .dit kvs => (unK kvs).map D.dit
  | _ => none
mutual
/-- .. with all that lies in it, each thing once -/
noncomputable def frzN : Nat → W → Sto → Option (D × Sto)
  | _, .p d, st => some (d, st)
  | 0, .r _, _ => none
  | k + 1, .r n, st => match st[n]? with
    | some (.lst ws) => match frzNs k ws st with
      | some (ds, st') => match st'[n]? with
        | some (.lst us) => if us.length = ws.length then some (.lst ds, st'.set n .dead) else none
        | _ => none
      | none => none
    | _ => none
termination_by k => (k, 0)
noncomputable def frzNs : Nat → List W → Sto → Option (List D × Sto)
  | _, [], st => some ([], st)
  | k, w :: ws, st => match frzN k w st with
    | some (d, st') => match frzNs k ws st' with
      | some (ds, st'') => some (d :: ds, st'')
      | none => none
    | none => none
termination_by k ws => (k, ws.length + 1)
end
noncomputable def frzW (st : Sto) : W → Option (W × Sto)
  | .p d => some (.p d, st)
  | .r n => match st[n]? with
    | some o => match frzO o with
      | some d => some (.p d, st.set n .dead)
      | none => (frzN 4 (.r n) st).map fun x => (.p x.1, x.2)
    | none => none
noncomputable def newO (o : O) (st : Sto) : Res W := .ok (.r st.length) (st ++ [o])
noncomputable def resD (st : Sto) : Option D → Res W
  | some d => .ok (.p d) st
  | none => .err
noncomputable def allB : List D → Option (List Bool)
  | [] => some []
  | .bl b :: r => (allB r).map (b :: ·)
  | _ => none
noncomputable def allI : List D → Option (List Int)
  | [] => some []
  | .int i :: r => (allI r).map (i :: ·)
  | _ => none
noncomputable def maxL : Int → List Int → Int
  | m, [] => m
  | m, x :: r => maxL (if x > m then x else m) r
noncomputable def minL : Int → List Int → Int
  | m, [] => m
  | m, x :: r => minL (if x < m then x else m) r
/-- an int put into a rising list -/
noncomputable def insI (x : Int) : List Int → List Int
  | [] => [x]
  | y :: r => if x ≤ y then x :: y :: r else y :: insI x r
noncomputable def srtI : List Int → List Int
  | [] => []
  | x :: r => insI x (srtI r)
noncomputable def insS (x : Int) : List Int → List Int
  | [] => [x]
  | y :: r => if x < y then x :: y :: r else if x = y then y :: r else y :: insS x r
/-- rising, each once -/
noncomputable def setI : List Int → List Int
  | [] => []
  | x :: r => insS x (setI r)
noncomputable def kD : Key → D
  | .inl i => .int i
  | .inr x => .str x
noncomputable def isiD : Bfn → D → Option Bool
  | _, .dit _ => none
  | _, .exn _ => none
  | .isiInt, .int _ => some true
  | .isiInt, .bl _ => some true
  | .isiInt, _ => some false
  | .isiBool, .bl _ => some true
  | .isiBool, _ => some false
  | .isiStr, .str _ => some true
  | .isiStr, _ => some false
  | .isiTup, .tup _ => some true
  | .isiTup, .ctup _ => some true
  | .isiTup, _ => some false
  | .isiLst, .lst _ => some true
  | .isiLst, .scr _ => some true
  | .isiLst, _ => some false
  | _, _ => none
noncomputable def lenD : D → Option Nat
  | .str x => if lenOk x.length then some x.length else none
  | .dic kvs => some kvs.length
  | d => (itemsD d).map List.length
/-- the keys of a dict, all of them ints -/
noncomputable def keysI : List (Key × D) → Option (List Int)
  | [] => some []
  | (.inl i, _) :: r => (keysI r).map (i :: ·)
  | _ => none
/-- tuples that Python's order orders -/
noncomputable def ordOk (es : List PyData) : Bool := es.all (fun d => es.all fun e => PySem.W.alike d e) && es.all (fun d => match d with
  | .tuple (_ :: _) => true
  | _ => false) && decide (PyData.depthAll es ≤ 60) && decide (es.length ≤ 16777216)
noncomputable def srtDs (ds : List D) : Option (List D) := match toPys ds with
  | some es => if ordOk es then some (((ds.zip es).mergeSort (PySem.W.dataLe false Prod.snd)).map Prod.fst) else none
  | none => none
noncomputable def minDs : List D → Option D
  | [] => none
  | d :: ds => match toPys (d :: ds) with
    | some (e :: es) => if ordOk (e :: es) then some ((ds.zip es).foldl (fun a y => if PySem.W.dataLt y.2 a.2 then y else a) (d, e)).1 else none
    | _ => none
/-- a builtin function that reads values and gives one -/
noncomputable def bfnD : Bfn → List D → Option D
  | .len, [d] => (lenD d).map fun n => .int (n : Nat)
  | .isiInt, [d] => (isiD .isiInt d).map D.bl
  | .isiBool, [d] => (isiD .isiBool d).map D.bl
  | .isiStr, [d] => (isiD .isiStr d).map D.bl
  | .isiTup, [d] => (isiD .isiTup d).map D.bl
  | .isiLst, [d] => (isiD .isiLst d).map D.bl
  | .all, [.lst ds] => (allB ds).map fun bs => .bl (bs.all id)
  | .any, [.lst ds] => (allB ds).map fun bs => .bl (bs.any id)
  | .sum, [.lst ds] => (allI ds).map fun ns => .int ns.sum
  | .max1, [.lst ds] => (allI ds).bind fun ns => match ns with
    | [] => none
    | x :: r => some (.int (maxL x r))
  | .min1, [.lst ds] => (allI ds).bind fun ns => match ns with
    | [] => none
    | x :: r => some (.int (minL x r))
  | .max2, [.int i, .int j] => some (.int (if j > i then j else i))
  | .min2, [.int i, .int j] => some (.int (if j < i then j else i))
  | .int, [.int i] => some (.int i)
  | .int, [.bl b] => some (.int (if b then 1 else 0))
  | .bool, [.int i] => some (.bl (i != 0))
  | .bool, [.bl b] => some (.bl b)
  | .abs, [.int i] => some (.int (if i < 0 then -i else i))
  | .strI, [.int i] => if i.natAbs.log2 < 1920 then some (.str (Str.ofString (toString i))) else none
  | .lstP, [d] => (itemsD d).map D.lst
  | .tupl, [.tup xs] => some (.tup xs)
  | .tupl, [.lst xs] => some (.tup xs)
  | .tupl, [.scr ns] => some (.tup (ns.map D.int))
  | .srtP, [.lst ds] => (allI ds).map fun ns => .lst ((srtI ns).map D.int)
  | .srtP, [.tup ds] => (allI ds).map fun ns => .lst ((srtI ns).map D.int)
  | .srtP, [.dic kvs] => (keysI kvs).bind fun ks => if ks.length < 64 then some (.lst ((srtI ks).map D.int)) else none
  | .srtD, [.lst ds] => (srtDs ds).map D.lst
  | .minD, [.lst ds] => minDs ds
  | .lstT, [.dit kvs] => some (.lst (kvs.map fun kv => D.tup (kv.1.map kD)))
  | .srtSet, [d] => ((itemsD d).bind allI).map fun ns => .lst ((setI ns).map D.int)
  | _, _ => none
noncomputable def vws (st : Sto) : List W → Option (List D)
  | [] => some []
  | w :: r => match vw st w, vws st r with
    | some d, some ds => some (d :: ds)
    | _, _ => none
/-- isinstance, len of a thing, whatever lies in it -/
noncomputable def isiO : Bfn → O → Option D
  | .isiTup, .tup _ => some (.bl true)
  | .isiInt, .tup _ => some (.bl false)
  | .isiBool, .tup _ => some (.bl false)
  | .isiStr, .tup _ => some (.bl false)
  | .isiLst, .tup _ => some (.bl false)
  | .isiLst, .lst _ => some (.bl true)
  | .isiInt, .lst _ => some (.bl false)
  | .isiBool, .lst _ => some (.bl false)
  | .isiStr, .lst _ => some (.bl false)
  | .isiTup, .lst _ => some (.bl false)
  | .len, .lst ws => some (.int (ws.length : Nat))
  | .len, .tup ws => some (.int (ws.length : Nat))
  | _, _ => none
noncomputable def bfnO (b : Bfn) (ws : List W) (st : Sto) : Option D :=
  match ws with
  | [.r n] => (st[n]?).bind (isiO b)
  | _ => none
noncomputable def bfnW (b : Bfn) (ws : List W) (st : Sto) : Res W :=
  match b with
  | .lstM => match ws with
    | [w] => match itemsW st w with
      | some xs => newO (.lst xs) st
      | none => .err
    | _ => .err
  | .srtM => match vws st ws with
    | some ds => match bfnD .srtP ds with
      | some (.lst xs) => newO (.lst (xs.map W.p)) st
      | _ => .err
    | none => .err
  | b => match vws st ws with
    | some ds => resD st (bfnD b ds)
    | none => resD st (bfnO b ws st)
noncomputable def isLstR (st : Sto) : W → Bool
  | .r n => match st[n]? with
    | some (.lst _) => true
    | _ => false
  | .p _ => false
/-- the items of a list (no tuple) -/
noncomputable def lstW (st : Sto) : W → Option (List W)
  | .p (.lst ds) => some (ds.map W.p)
  | .p _ => none
  | .r n => match st[n]? with
    | some (.lst ws) => some ws
    | _ => none
/-- the items of a tuple of the store -/
noncomputable def tupR (st : Sto) : W → Option (List W)
  | .p _ => none
  | .r n => match st[n]? with
    | some (.tup ws) => some ws
    | _ => none
/-- the items of a tuple -/
noncomputable def tupI (st : Sto) : W → Option (List W)
  | .p (.tup ds) => some (ds.map W.p)
  | .p _ => none
  | .r n => match st[n]? with
    | some (.tup ws) => some ws
    | _ => none
/-- l.remove(i) -/
noncomputable def remW (st : Sto) : W → W → Option Sto
  | .r n, .p (.int i) => match st[n]? with
    | some (.lst ws) => match (unW ws).bind allI with
      | some ns => if i ∈ ns then some (st.set n (.lst ((ns.erase i).map fun j => W.p (.int j)))) else none
      | none => none
    | _ => none
  | _, _ => none
/-- methods that change a list -/
noncomputable def bmtL (b : Bmt) (n : Nat) (xs : List W) (ws : List W) (st : Sto) : Res W :=
  match b, ws with
  | .append, [w] => if xs.length < sizeLine then .ok (.p .non) (st.set n (.lst (xs ++ [w]))) else .err
  | .extend, [w] => match w with
    | .p (.tup ds) => if lenOk (xs.length + ds.length) then .ok (.p .non) (st.set n (.lst (xs ++ ds.map W.p))) else .err
    | w => match lstW st w with
      | some ys => if lenOk (xs.length + ys.length) then .ok (.p .non) (st.set n (.lst (xs ++ ys))) else .err
      | none => .err
  | .pop0, [] => match xs[xs.length - 1]? with
    | some w => .ok w (st.set n (.lst xs.dropLast))
    | none => .err
  | .popAt, [.p (.int i)] => if small62 i then match ixN xs.length i with
    | some k => match xs[k]? with
      | some w => .ok w (st.set n (.lst (xs.eraseIdx k)))
      | none => .err
    | none => .err else .err
  | .insert, [.p (.int i), w] => if decide (xs.length < sizeLine) && decide (0 ≤ i) && decide (i ≤ xs.length) && small62 i then .ok (.p .non) (st.set n (.lst (xs.take i.toNat ++ [w] ++ xs.drop i.toNat))) else .err
  | .clear, [] => .ok (.p .non) (st.set n (.lst []))
  | _, _ => .err
noncomputable def bmtW (b : Bmt) (o : W) (ws : List W) (st : Sto) : Res W :=
  match o with
  | .r n => match st[n]? with
    | some (.lst xs) => bmtL b n xs ws st
    | _ => .err
  | .p _ => .err

/-- d.clear() -/
noncomputable def dclrW (st : Sto) : W → Res W
  | .r n => match st[n]? with
    | some (.dic _) => .ok (.p .non) (st.set n (.dic []))
    | _ => .err
  | .p _ => .err

/-- pairs of numbers, small ones -/
noncomputable def gridB (ks : List Key) : Bool := match ks with
  | [.inl g, .inl n] => decide (0 ≤ g) && decide (g < 5) && decide (0 ≤ n) && decide (n < 10)
  | _ => false
noncomputable def pairT : D → Option (List Key × D)
  | .tup [.tup ks, v] => (keysD ks).map fun kk => (kk, v)
  | _ => none
noncomputable def pairsT : List D → Option (List (List Key × D))
  | [] => some []
  | d :: ds => match pairT d, pairsT ds with
    | some e, some es => some (e :: es)
    | _, _ => none
/-- dict(pairs), dict(d) where the keys are tuples -/
noncomputable def dcTW (st : Sto) : W → Res W
  | .r n => match st[n]? with
    | some (.dit kvs) => if (kvs.all fun kv => gridB kv.1) = true then newO (.dit kvs) st else .err
    | _ => .err
  | .p (.lst ds) => match pairsT ds with
    | some es => if (es.map (·.1)).Nodup then newO (.dit (es.map fun e => (e.1, W.p e.2))) st else .err
    | none => .err
  | .p _ => .err

/-! ### calls -/
abbrev Call := Nat → List W → Sto → Res W
/-- the things of the arguments, each at its own place; the arguments renumbered -/
noncomputable def pick (st : Sto) : List W → Option (List W × List Nat)
  | ws => go 0 ws
where
  go (k : Nat) : List W → Option (List W × List Nat)
    | [] => some ([], [])
    | .p d :: r => (go k r).map fun x => (.p d :: x.1, x.2)
    | .r n :: r => (go (k + 1) r).map fun x => (.r k :: x.1, n :: x.2)
noncomputable def objs (st : Sto) : List Nat → Option (List O)
  | [] => some []
  | n :: r => match st[n]?, objs st r with
    | some o, some os => if o.flat then some (o :: os) else none
    | _, _ => none
noncomputable def back : Sto → List Nat → Sto → Option Sto
  | st, [], _ => some st
  | _, _ :: _, [] => none
  | st, n :: r, o :: os => if o.flat then back (st.set n o) r os else none
mutual
/-- a thing that a call has made, with what lies in it, brought home: only what is new, each once -/
noncomputable def imp (s' : Sto) (m : Nat) : Nat → W → Sto → List Nat → Option (W × Sto × List Nat)
  | _, .p d, st, u => some (.p d, st, u)
  | 0, .r _, _, _ => none
  | k + 1, .r n, st, u => if decide (n < m) || u.contains n then none else match s'[n]? with
    | some (.lst ws) => match imps s' m k ws st (n :: u) with
      | some (ws', st', u') => some (.r st'.length, st' ++ [.lst ws'], u')
      | none => none
    | some (.tup ws) => match imps s' m k ws st (n :: u) with
      | some (ws', st', u') => some (.r st'.length, st' ++ [.tup ws'], u')
      | none => none
    | some o => if o.flat then some (.r st.length, st ++ [o], n :: u) else none
    | none => none
termination_by k => (k, 0)
noncomputable def imps (s' : Sto) (m : Nat) : Nat → List W → Sto → List Nat → Option (List W × Sto × List Nat)
  | _, [], st, u => some ([], st, u)
  | k, w :: ws, st, u => match imp s' m k w st u with
    | some (w', st', u') => match imps s' m k ws st' u' with
      | some (ws', st'', u'') => some (w' :: ws', st'', u'')
      | none => none
    | none => none
termination_by k ws => (k, ws.length + 1)
end
/-- a call in a store of the arguments' things alone -/
noncomputable def calA (C : Call) (f : Nat) (ws : List W) (st : Sto) : Res W :=
  match pick st ws with
  | none => .err
  | some (us, ns) => if ns.Nodup then match objs st ns with
    | none => .err
    | some os => match C f us os with
      | .ok w s' => match back st ns s' with
        | none => .err
        | some st' => match imp s' ns.length 6 w st' [] with
          | some (w', st'', _) => .ok w' st''
          | none => .err
      | .exc c s' => match back st ns s' with
        | none => .err
        | some st' => .exc c st'
      | .err => .err
    else .err
noncomputable def calM (m : Bool) (C : Call) (f : Nat) (ws : List W) (st : Sto) : Res W := if m then C f ws st else calA C f ws st
/-- a thing as the data that it shows now, with what lies in it -/
noncomputable def vwN (st : Sto) : Nat → W → Option D
  | _, .p d => some d
  | 0, .r _ => none
  | k + 1, .r n => match st[n]? with
    | some (.lst ws) => (ws.mapM (vwN st k)).map D.lst
    | some (.tup ws) => (ws.mapM (vwN st k)).map D.tup
    | _ => vw st (.r n)
noncomputable def lentW (st : Sto) (ws : List W) : Option (List D) := match vws st ws with
  | some ds => some ds
  | none => ws.mapM (vwN st 6)
/-- a call to which the arguments' things are lent as values; it tells no more than a number, a truth, a text, None -/
noncomputable def calB (C : Call) (f : Nat) (ws : List W) (st : Sto) : Res W :=
  match lentW st ws with
  | none => .err
  | some ds => match C f (ds.map W.p) [] with
    | .ok (.p .non) _ => .ok (.p .non) st
    | .ok (.p (.bl b)) _ => .ok (.p (.bl b)) st
    | .ok (.p (.int i)) _ => .ok (.p (.int i)) st
    | .ok (.p (.str x)) _ => .ok (.p (.str x)) st
    | .ok _ _ => .err
    | .exc c _ => .exc c st
    | .err => .err
/-- o.m: o an instance of the class c that has no field m of its own -/
noncomputable def isIns (st : Sto) (c : Nat) (m : Str) : W → Bool
  | .r n => match st[n]? with
    | some (.ins c' fs) => decide (c' = c) && (fs.lookup m).isNone
    | _ => false
  | .p _ => false
noncomputable def makW (C : Call) (c : Nat) (f : Nat) (ws : List W) (st : Sto) : Res W :=
  match C f (.r st.length :: ws) (st ++ [.ins c []]) with
  | .ok (.p .non) s' => .ok (.r st.length) s'
  | .ok _ _ => .err
  | .exc c s' => .exc c s'
  | .err => .err

/-! ### loops -/
noncomputable def setTs : List Nat → List W → Nv → Option Nv
  | [], [], ρ => some ρ
  | i :: is, w :: ws, ρ => setTs is ws (ρ.set i (some w))
  | _, _, _ => none
noncomputable def bindT (tg : Tg) (w : W) (ρ : Nv) : Option Nv :=
  match tg with
  | .nm i => some (ρ.set i (some w))
  | .tup is => match w with
    | .p (.tup ds) => setTs is (ds.map W.p) ρ
    | _ => none
noncomputable def Tg.slots : Tg → List Nat
  | .nm i => [i]
  | .tup is => is
noncomputable def lcLoop (step : W → Sto → Res (Option W)) : List W → List W → Sto → Res (List W)
  | [], acc, st => .ok acc st
  | x :: xs, acc, st => (step x st).bind fun o st' => match o with
    | some w => if acc.length < sizeLine then lcLoop step xs (acc ++ [w]) st' else .err
    | none => lcLoop step xs acc st'
noncomputable def forLoop (step : W → Nv → Sto → Res (Flow × Nv)) : List W → Nv → Sto → Res (Flow × Nv)
  | [], ρ, st => .ok (.nx, ρ) st
  | x :: xs, ρ, st => (step x ρ st).bind fun o st' => match o.1 with
    | .nx => forLoop step xs o.2 st'
    | .ct => forLoop step xs o.2 st'
    | .bk => .ok (.nx, o.2) st'
    | .rt w => .ok (.rt w, o.2) st'
/-- over a list of the store, as it stands at each turn -/
noncomputable def dynLoop (step : W → Nv → Sto → Res (Flow × Nv)) (n : Nat) : Nat → Nat → Nv → Sto → Res (Flow × Nv)
  | 0, _, _, _ => .err
  | k + 1, i, ρ, st => match st[n]? with
    | some (.lst ws) => match ws[i]? with
      | some x => (step x ρ st).bind fun o st' => match o.1 with
        | .nx => dynLoop step n k (i + 1) o.2 st'
        | .ct => dynLoop step n k (i + 1) o.2 st'
        | .bk => .ok (.nx, o.2) st'
        | .rt w => .ok (.rt w, o.2) st'
      | none => .ok (.nx, ρ) st
    | _ => .err
/-- a comprehension over a list of the store, as it stands at each turn -/
noncomputable def lcDyn (step : W → Sto → Res (Option W)) (n : Nat) : Nat → Nat → List W → Sto → Res (List W)
  | 0, _, _, _ => .err
  | k + 1, i, acc, st => match st[n]? with
    | some (.lst ws) => match ws[i]? with
      | some x => (step x st).bind fun o st' => match o with
        | some w => if acc.length < sizeLine then lcDyn step n k (i + 1) (acc ++ [w]) st' else .err
        | none => lcDyn step n k (i + 1) acc st'
      | none => .ok acc st
    | _ => .err
noncomputable def whlLoop (t : Nv → Sto → Res Bool) (b : Nv → Sto → Res (Flow × Nv)) : Nat → Nv → Sto → Res (Flow × Nv)
  | 0, _, _ => .err
  | k + 1, ρ, st => (t ρ st).bind fun c st1 => if c then (b ρ st1).bind fun o st' => match o.1 with
      | .nx => whlLoop t b k o.2 st'
      | .ct => whlLoop t b k o.2 st'
      | .bk => .ok (.nx, o.2) st'
      | .rt w => .ok (.rt w, o.2) st'
    else .ok (.nx, ρ) st1
/-- how many turns a while may take -/
noncomputable def fuel : Nat := 1000000000
noncomputable def rngL (lo : Int) (n : Nat) : List W := (List.range n).map fun i => W.p (.int (lo + (i : Nat)))
noncomputable def enuL : Nat → List D → List D
  | _, [] => []
  | k, x :: r => .tup [.int (k : Nat), x] :: enuL (k + 1) r
noncomputable def zipL : List D → List D → List D
  | x :: xs, y :: ys => .tup [x, y] :: zipL xs ys
  | _, _ => []
/-- a text's signs -/
noncomputable def chsD (z : Str) : List D := z.cps.toList.map fun c => D.str ⟨#[c]⟩
inductive Itv where
  | fix (ws : List W) | dyn (n : Nat)
noncomputable def iterW (st : Sto) : W → Option Itv
  | .p d => (itemsD d).map fun ds => .fix (ds.map W.p)
  | .r n => match st[n]? with
    | some (.lst _) => some (.dyn n)
    | _ => none

/-- a dict that is walked: its keys, and how it stands meanwhile -/
noncomputable def lockO : O → Option O
  | .dic kvs => some (.ldk kvs)
  | .dit kvs => some (.ldt kvs)
  | _ => none
noncomputable def keysO : O → Option (List W)
  | .ldk kvs => some (kvs.map fun kv => W.p (kD kv.1))
  | .ldt kvs => some (kvs.map fun kv => W.p (.tup (kv.1.map kD)))
  | _ => none
noncomputable def unlockO : O → Option O
  | .ldk kvs => some (.dic kvs)
  | .ldt kvs => some (.dit kvs)
  | _ => none
noncomputable def unlk {α : Type} (n : Nat) : Res α → Res α
  | .ok a s => match (s[n]?).bind unlockO with
    | some o => .ok a (s.set n o)
    | none => .err
  | .exc c s => .exc c s
  | .err => .err
noncomputable def isR (n : Nat) : W → Bool
  | .r k => decide (k = n)
  | .p _ => false
/-- the dict that a walk is to lock -/
noncomputable def lockW (st : Sto) : Res W → Option (Nat × O)
  | .ok (.r n) _ => ((st[n]?).bind lockO).map fun x => (n, x)
  | _ => none
/-- its keys -/
noncomputable def keysR (n : Nat) (st : Sto) (x : W) : Option (List W) := if isR n x then (st[n]?).bind keysO else none

/-- values by names, in the parameters' order: inv tells where each was written -/
noncomputable def reo {α : Type} (inv : List Nat) (ws : List α) : List α := inv.filterMap fun i => ws[i]?
/-- what a written dict of texts has at a key, or another text -/
noncomputable def getS (kvs : List (Str × Str)) (k d : Str) : Str := ((kvs.find? fun e => decide (e.1 = k)).map (·.2)).getD d
/-! ### terms -/
/-- what repr may show -/
noncomputable def isDsp : PyData → Bool
  | .list _ => true
  | .tuple _ => true
  | _ => false
noncomputable def rprOk (e : PyData) : Bool := isDsp e && e.showable && !e.hasDict && decide (e.depth ≤ 60) && decide (e.shown.length ≤ sizeLine)
mutual
noncomputable def evE (C : Call) : Ex → Nv → Sto → Res W
  | .var i, ρ, st => match ρ[i]? with
    | some (some w) => .ok w st
    | _ => .err
  | .con d, _, st => .ok (.p d) st
  | .glo _ d, _, st => .ok (.p d) st
  | .bin o a b, ρ, st => (evE C a ρ st).bind fun x st => (evE C b ρ st).bind fun y st => match vw st x, vw st y with
    | some x, some y => resD st (binD o x y)
    | _, _ => .err
  | .neg a, ρ, st => (evE C a ρ st).bind fun x st => match x with
    | .p (.int i) => .ok (.p (.int (-i))) st
    | _ => .err
  | .cmp o a b, ρ, st => (evE C a ρ st).bind fun x st => (evE C b ρ st).bind fun y st => match cmpW st o x y with
    | some k => .ok (.p (.bl k)) st
    | none => .err
  | .chn o o' a b c, ρ, st => (evE C a ρ st).bind fun x st => (evE C b ρ st).bind fun y st => match cmpW st o x y with
    | some true => (evE C c ρ st).bind fun z st => match cmpW st o' y z with
      | some k => .ok (.p (.bl k)) st
      | none => .err
    | some false => .ok (.p (.bl false)) st
    | none => .err
  | .and a b, ρ, st => (evE C a ρ st).bind fun x st => match x with
    | .p (.bl true) => evE C b ρ st
    | .p (.bl false) => .ok (.p (.bl false)) st
    | _ => .err
  | .or a b, ρ, st => (evE C a ρ st).bind fun x st => match x with
    | .p (.bl true) => .ok (.p (.bl true)) st
    | .p (.bl false) => evE C b ρ st
    | .p (.tup ds) => if ds.isEmpty then evE C b ρ st else .ok (.p (.tup ds)) st
    | _ => .err
  | .not a, ρ, st => (evE C a ρ st).bind fun x st => match x with
    | .p (.bl k) => .ok (.p (.bl (!k))) st
    | _ => .err
  | .ite t a b, ρ, st => (evT C t ρ st).bind fun k st => if k then evE C a ρ st else evE C b ρ st
  | .tup es, ρ, st => (evEs C es ρ st).bind fun ws st => match unW ws with
    | some ds => if lenOk ds.length then .ok (.p (.tup ds)) st else .err
    | none => .err
  | .tupM es, ρ, st => (evEs C es ρ st).bind fun ws st => if lenOk ws.length then newO (.tup ws) st else .err
  | .lst m es, ρ, st => (evEs C es ρ st).bind fun ws st => if lenOk ws.length then (if m then newO (.lst ws) st else match unW ws with
    | some ds => .ok (.p (.lst ds)) st
    | none => .err) else .err
  | .dnw t, _, st => if t then newO (.dit []) st else newO (.dic []) st
  | .ix a b, ρ, st => (evE C a ρ st).bind fun x st => (evE C b ρ st).bind fun y st => match ixW st x y with
    | some w => .ok w st
    | none => .err
  | .sli a lo hi, ρ, st => (evE C a ρ st).bind fun x st => (evO C lo ρ st).bind fun l st => (evO C hi ρ st).bind fun u st => match vw st x with
    | some d => resD st (sliD l u d)
    | none => .err
  | .sliM a lo hi, ρ, st => (evE C a ρ st).bind fun x st => (evO C lo ρ st).bind fun l st => (evO C hi ρ st).bind fun u st => match lstW st x with
    | some ws => newO (.lst (cutL ws l u)) st
    | none => match tupR st x with
      | some ws => if (cutL ws l u).length < ws.length then newO (.tup (cutL ws l u)) st else .err
      | none => .err
  | .fld c a f, ρ, st => (evE C a ρ st).bind fun x st => match fldW st c x f with
    | some w => .ok w st
    | none => .err
  | .cal m f es, ρ, st => (evEs C es ρ st).bind fun ws st => calM m C f ws st
  | .calB f es, ρ, st => (evEs C es ρ st).bind fun ws st => calB C f ws st
  | .mth c m f o es, ρ, st => (evE C o ρ st).bind fun x st => if isIns st c m x then (evEs C es ρ st).bind fun ws st => C f (x :: ws) st else .err
  | .mak c f es, ρ, st => (evEs C es ρ st).bind fun ws st => makW C c f ws st
  | .bfn b es, ρ, st => (evEs C es ρ st).bind fun ws st => bfnW b ws st
  | .rgl m t a, ρ, st => (evE C a ρ st).bind fun x st => match x with
    | .p (.int j) => if small62 j && decide (j ≤ 16777216) then (if t then .ok (.p (.tup ((List.range j.toNat).map fun i => D.int (0 + (i : Nat))))) st
      else if m then newO (.lst (rngL 0 j.toNat)) st else .ok (.p (.lst ((List.range j.toNat).map fun i => D.int (0 + (i : Nat))))) st) else .err
    | _ => .err
  | .bmt b o es, ρ, st => (evE C o ρ st).bind fun x st => if isLstR st x then (evEs C es ρ st).bind fun ws st => bmtW b x ws st else .err
  | .lc m tg it hc c e, ρ, st => (evI C it ρ st).bind fun v st => match v with
    | .fix ws => (lcLoop (fun x st => match bindT tg x ρ with
        | some ρ' => if hc then (evT C c ρ' st).ne.bind fun k st => if k then (evE C e ρ' st).ne.bind fun w st => .ok (some w) st else .ok none st
          else (evE C e ρ' st).ne.bind fun w st => .ok (some w) st
        | none => .err) ws [] st).bind fun acc st => if m then newO (.lst acc) st else match unW acc with
          | some ds => .ok (.p (.lst ds)) st
          | none => .err
    | .dyn n => (lcDyn (fun x st => match bindT tg x ρ with
        | some ρ' => if hc then (evT C c ρ' st).ne.bind fun k st => if k then (evE C e ρ' st).ne.bind fun w st => .ok (some w) st else .ok none st
          else (evE C e ρ' st).ne.bind fun w st => .ok (some w) st
        | none => .err) n fuel 0 [] st).bind fun acc st => if m then newO (.lst acc) st else match unW acc with
          | some ds => .ok (.p (.lst ds)) st
          | none => .err
  | .frz a, ρ, st => (evE C a ρ st).bind fun x st => match frzW st x with
    | some (w, st) => .ok w st
    | none => .err
  | .gdx _ kvs e, ρ, st => (evE C e ρ st).bind fun y st => match y with
    | .p (.str z) => resD st ((kvs.find? fun kv => decide (kv.1 = z)).map (·.2))
    | _ => .err
  | .rev m a, ρ, st => (evE C a ρ st).bind fun x st => match lstW st x with
    | some ws => if m then newO (.lst ws.reverse) st else match unW ws with
      | some ds => .ok (.p (.lst ds.reverse)) st
      | none => .err
    | none => .err
  | .revT a, ρ, st => (evE C a ρ st).bind fun x st => match x with
    | .p (.tup ds) => .ok (.p (.tup ds.reverse)) st
    | _ => .err
  | .remI a b, ρ, st => (evE C a ρ st).bind fun x st => if isLstR st x then (evE C b ρ st).bind fun y st => match remW st x y with
    | some st' => .ok (.p .non) st'
    | none => .err else .err
  | .idx a b, ρ, st => (evE C a ρ st).bind fun x st => match x with
    | .p (.lst ds) => (evE C b ρ st).bind fun y st => match y with
      | .p (.bl t) => match allB ds with
        | some bs => if t ∈ bs then .ok (.p (.int (bs.idxOf t : Nat))) st else .err
        | none => .err
      | .p (.int i) => match allI ds with
        | some ns => if i ∈ ns then .ok (.p (.int (ns.idxOf i : Nat))) st else .err
        | none => .err
      | _ => .err
    | _ => .err
  | .idxR a b, ρ, st => (evE C a ρ st).bind fun x st => match lstW st x with
    | some _ => (evE C b ρ st).bind fun y st => match lstW st x, y with
      | some ws, .p (.int i) => match (unW ws).bind allI with
        | some ns => if i ∈ ns then .ok (.p (.int (ns.idxOf i : Nat))) st else .err
        | none => .err
      | _, _ => .err
    | none => .err
  | .cntL a b, ρ, st => (evE C a ρ st).bind fun x st => match x with
    | .p (.lst ds) => (evE C b ρ st).bind fun y st => match y with
      | .p (.bl t) => match allB ds with
        | some bs => .ok (.p (.int (bs.count t : Nat))) st
        | none => .err
      | .p (.int i) => match allI ds with
        | some ns => .ok (.p (.int (ns.count i : Nat))) st
        | none => .err
      | _ => .err
    | _ => .err
  | .addM a b, ρ, st => (evE C a ρ st).bind fun x st => (evE C b ρ st).bind fun y st => match lstW st x, lstW st y with
    | some xs, some ys => if lenOk (xs.length + ys.length) then newO (.lst (xs ++ ys)) st else .err
    | _, _ => .err
  | .sst m a, ρ, st => (evE C a ρ st).bind fun x st => match vw st x with
    | some d => match (itemsD d).bind allI with
      | some ns => if decide (ns.length < 4000) && decide ((setI ns).length < 64) then (if m then newO (.lst ((setI ns).map fun i => W.p (.int i))) st else .ok (.p (.lst ((setI ns).map D.int))) st) else .err
      | none => .err
    | none => .err
  | .rpr a, ρ, st => (evE C a ρ st).bind fun x st => match pyW st 4 x with
    | some e => if rprOk e then .ok (.p (.str e.shown)) st else .err
    | none => .err
  | .isE a _ cs, ρ, st => (evE C a ρ st).bind fun x st => match x with
    | .p (.exn c) => match cs.lookup c with
      | some b => .ok (.p (.bl b)) st
      | none => .err
    | .p .non => .ok (.p (.bl false)) st
    | _ => .err
  | .lcK m tg a hc c e, ρ, st => match lockW st (evE C a ρ st) with
    | some (n, o) => unlk n ((evE C a ρ (st.set n o)).bind fun x st => match keysR n st x with
      | some ws => (lcLoop (fun x st => match bindT tg x ρ with
        | some ρ' => if hc then (evT C c ρ' st).ne.bind fun k st => if k then (evE C e ρ' st).ne.bind fun w st => .ok (some w) st else .ok none st
          else (evE C e ρ' st).ne.bind fun w st => .ok (some w) st
        | none => .err) ws [] st).bind fun acc st => if m then newO (.lst acc) st else match unW acc with
          | some ds => .ok (.p (.lst ds)) st
          | none => .err
      | none => .err)
    | none => .err
  | .mkE c e, ρ, st => (evE C e ρ st).bind fun _ st => .ok (.p (.exn c)) st
  | .dsg kvs e d, ρ, st => (evE C e ρ st).bind fun y st => match y with
    | .p (.str k) => .ok (.p (.str (getS kvs k d))) st
    | _ => .err
  | .calK f inv es, ρ, st => (evEs C es ρ st).bind fun ws st => calM false C f (reo inv ws) st
  | .dclr o, ρ, st => (evE C o ρ st).bind fun x st => dclrW st x
  | .dcT a, ρ, st => (evE C a ρ st).bind fun x st => dcTW st x
noncomputable def evT (C : Call) : Ex → Nv → Sto → Res Bool
  | .and a b, ρ, st => (evT C a ρ st).bind fun k st => if k then evT C b ρ st else .ok false st
  | .or a b, ρ, st => (evT C a ρ st).bind fun k st => if k then .ok true st else evT C b ρ st
  | .not a, ρ, st => (evT C a ρ st).bind fun k st => .ok (!k) st
  | e, ρ, st => (evE C e ρ st).bind fun x st => ofO st (truW st x)
noncomputable def evEs (C : Call) : Exs → Nv → Sto → Res (List W)
  | .nil, _, st => .ok [] st
  | .cons e es, ρ, st => (evE C e ρ st).bind fun x st => (evEs C es ρ st).bind fun xs st => .ok (x :: xs) st
noncomputable def evO (C : Call) : Opt → Nv → Sto → Res (Option Int)
  | .none, _, st => .ok none st
  | .some e, ρ, st => (evE C e ρ st).bind fun x st => match x with
    | .p (.int i) => .ok (some i) st
    | _ => .err
noncomputable def evI (C : Call) : Iter → Nv → Sto → Res Itv
  | .ex a, ρ, st => (evE C a ρ st).bind fun x st => ofO st (iterW st x)
  | .rng1 a, ρ, st => (evE C a ρ st).bind fun x st => match x with
    | .p (.int j) => if small62 j then .ok (.fix (rngL 0 j.toNat)) st else .err
    | _ => .err
  | .rng2 a b, ρ, st => (evE C a ρ st).bind fun x st => (evE C b ρ st).bind fun y st => match x, y with
    | .p (.int i), .p (.int j) => if small62 i && small62 j then .ok (.fix (rngL i (j - i).toNat)) st else .err
    | _, _ => .err
  | .rng3 a b c, ρ, st => (evE C a ρ st).bind fun x st => (evE C b ρ st).bind fun y st => (evE C c ρ st).bind fun z st => match x, y, z with
    | .p (.int i), .p (.int j), .p (.int c) => if small62 i && small62 j && decide (c = -1) then .ok (.fix ((List.range (i - j).toNat).map fun k => W.p (.int (i - (k : Nat))))) st else if small62 i && small62 j && decide (c = 7) then .ok (.fix ((List.range ((j - i + 6) / 7).toNat).map fun k => W.p (.int (i + (k : Nat) * 7)))) st else .err
    | _, _, _ => .err
  | .enu a, ρ, st => (evE C a ρ st).bind fun x st => match x with
    | .p (.lst ds) => .ok (.fix ((enuL 0 ds).map W.p)) st
    | _ => .err
  | .zip a b, ρ, st => (evE C a ρ st).bind fun x st => (evE C b ρ st).bind fun y st => match x, y with
    | .p (.lst xs), .p (.lst ys) => .ok (.fix ((zipL xs ys).map W.p)) st
    | .p (.tup xs), .p (.tup ys) => .ok (.fix ((zipL xs ys).map W.p)) st
    | .p (.ctup xs), .p (.tup ys) => .ok (.fix ((zipL xs ys).map W.p)) st
    | _, _ => .err
  | .items a, ρ, st => (evE C a ρ st).bind fun x st => match x with
    | .p (.dic kvs) => .ok (.fix (kvs.map fun x => W.p (.tup [kD x.1, x.2]))) st
    | _ => .err
  | .keys a, ρ, st => (evE C a ρ st).bind fun x st => match x with
    | .p (.dic kvs) => .ok (.fix (kvs.map fun x => W.p (kD x.1))) st
    | .p (.dit kvs) => .ok (.fix (kvs.map fun x => W.p (.tup (x.1.map kD)))) st
    | _ => .err
  | .gks _ kvs, _, st => .ok (.fix (kvs.map fun kv => W.p (.str kv.1))) st
  | .enuT a, ρ, st => (evE C a ρ st).bind fun x st => match x with
    | .p (.tup ds) => .ok (.fix ((enuL 0 ds).map W.p)) st
    | _ => .err
  | .zipS a b, ρ, st => (evE C a ρ st).bind fun x st => (evE C b ρ st).bind fun y st => match x, y with
    | .p (.str z), .p (.tup ys) => .ok (.fix ((zipL (chsD z) ys).map W.p)) st
    | _, _ => .err
end
mutual
noncomputable def evS (C : Call) : Sm → Nv → Sto → Res (Flow × Nv)
  | .exp e, ρ, st => (evE C e ρ st).bind fun _ st => .ok (.nx, ρ) st
  | .asg i e, ρ, st => (evE C e ρ st).bind fun x st => .ok (.nx, ρ.set i (some x)) st
  | .asgT is e, ρ, st => (evE C e ρ st).bind fun x st => match tupI st x with
    | some ws => match setTs is ws ρ with
      | some ρ' => .ok (.nx, ρ') st
      | none => .err
    | none => .err
  | .asgL is e, ρ, st => (evE C e ρ st).bind fun x st => match x with
    | .p (.lst ds) => match setTs is (ds.map W.p) ρ with
      | some ρ' => .ok (.nx, ρ') st
      | none => .err
    | _ => .err
  | .asgI o i e, ρ, st => (evE C e ρ st).bind fun v st => (evE C o ρ st).bind fun x st => (evE C i ρ st).bind fun y st => match setW st x y v with
    | some st' => .ok (.nx, ρ) st'
    | none => .err
  | .asgF c o f e, ρ, st => (evE C e ρ st).bind fun v st => (evE C o ρ st).bind fun x st => match setF st c x f v with
    | some st' => .ok (.nx, ρ) st'
    | none => .err
  | .par i j a b, ρ, st => (evE C a ρ st).bind fun x st => (evE C b ρ st).bind fun y st => .ok (.nx, (ρ.set i (some x)).set j (some y)) st
  | .asgTI t o i e, ρ, st => (evE C e ρ st).bind fun x st => match tupI st x with
    | some [w1, w2] => (evE C o (ρ.set t (some w1)) st).bind fun x st => (evE C i (ρ.set t (some w1)) st).bind fun y st => match setW st x y w2 with
      | some st' => .ok (.nx, ρ.set t (some w1)) st'
      | none => .err
    | _ => .err
  | .ret e, ρ, st => (evE C e ρ st).bind fun x st => .ok (.rt x, ρ) st
  | .retN, ρ, st => .ok (.rt (.p .non), ρ) st
  | .ifs t a b, ρ, st => (evT C t ρ st).bind fun k st => if k then evSs C a ρ st else evSs C b ρ st
  | .whl t b, ρ, st => whlLoop (evT C t) (evSs C b) fuel ρ st
  | .forr tg it b, ρ, st => (evI C it ρ st).bind fun v st => match v with
    | .fix ws => forLoop (fun x ρ st => match bindT tg x ρ with
      | some ρ' => evSs C b ρ' st
      | none => .err) ws ρ st
    | .dyn n => dynLoop (fun x ρ st => match bindT tg x ρ with
      | some ρ' => evSs C b ρ' st
      | none => .err) n fuel 0 ρ st
  | .brk, ρ, st => .ok (.bk, ρ) st
  | .cnt, ρ, st => .ok (.ct, ρ) st
  | .pas, ρ, st => .ok (.nx, ρ) st
  | .rai c, _, st => .exc c st
  | .tryA k e _ yes no b, ρ, st => match evSs C b ρ st with
    | .ok o st => .ok o st
    | .exc c st => if c ∈ yes then .ok (.nx, (List.replicate ρ.length none).set k (some (.p (match e with
        | some _ => .exn c
        | none => .bl true)))) st else if c ∈ no then .exc c st else .err
    | .err => .err
  | .tryC k i t f es _ yes no, ρ, st => match evEs C es ρ st with
    | .ok ws st => match calM false C f ws st with
      | .ok w st => .ok (.nx, ρ.set t (some w)) st
      | .exc c st => if c ∈ yes then .ok (.nx, ((ρ.set i none).set k (some (.p (.exn c)))).set i none) st else if c ∈ no then .exc c st else .err
      | .err => .err
    | .exc _ _ => .err
    | .err => .err
  | .fzv i, ρ, st => match ρ[i]? with
    | some (some w) => match frzW st w with
      | some (w', st') => .ok (.nx, ρ.set i (some w')) st'
      | none => .err
    | _ => .err
  | .forK tg a b, ρ, st => match lockW st (evE C a ρ st) with
    | some (n, o) => unlk n ((evE C a ρ (st.set n o)).bind fun x st => match keysR n st x with
      | some ws => forLoop (fun x ρ st => match bindT tg x ρ with
        | some ρ' => evSs C b ρ' st
        | none => .err) ws ρ st
      | none => .err)
    | none => .err
noncomputable def evSs (C : Call) : Sms → Nv → Sto → Res (Flow × Nv)
  | .nil, ρ, st => .ok (.nx, ρ) st
  | .cons s ss, ρ, st => (evS C s ρ st).bind fun o st => match o.1 with
    | .nx => evSs C ss o.2 st
    | f => .ok (f, o.2) st
end
/-- a def: how many parameters, how many names, its body -/
structure Def where
  ar : Nat
  nn : Nat
  body : Sms
noncomputable def runB (C : Call) (d : Def) (ws : List W) (st : Sto) : Res W :=
  if ws.length = d.ar then (evSs C d.body (ws.map some ++ List.replicate (d.nn - d.ar) none) st).bind fun o st => match o.1 with
    | .rt w => .ok w st
    | .nx => .ok (.p .non) st
    | _ => .err
  else .err
/-- the defs of a text, to a depth -/
noncomputable def run (tb : Nat → Option Def) : Nat → Call
  | 0 => fun _ _ _ => .err
  | n + 1 => fun f ws st => match tb f with
    | some d => runB (run tb n) d ws st
    | none => .err
end T

set_option maxRecDepth 100000
set_option maxHeartbeats 2000000
/-! T: how values and stores of the language stand in the heap -/
namespace T
open PySem L2

/-- a tuple of the written part -/
noncomputable def WrT (K : PySem.W.Frag) (a : Addr) (xs : List V) : Prop :=
  ∃ (o : Obj) (its : Array Value) (n : Nat), K.lookup a = some o ∧ o.cls = .type "tuple" ∧ o.data = .seq its n ∧ its.size ≤ sizeLine ∧ Vals xs its.toList
theorem WrT.sq {K : PySem.W.Frag} {H : Hp} {a : Addr} {xs : List V} (h : WrT K a xs) : SqT K H a xs := .inr h
/-- what is fixed: the written part, the classes' addresses -/
structure Fx where
  K : PySem.W.Frag
  Cl : Nat → Addr
mutual
inductive RepD (F : Fx) (L : Addr → Prop) (H : Hp) : V → D → Prop where
  | non : RepD F L H .non .non
  | bl (b : Bool) : RepD F L H (.bl b) (.bl b)
  | int (i : Int) : RepD F L H (.int i) (.int i)
  | str (x : Str) : RepD F L H (.str x) (.str x)
  | tup {a : Addr} {xs : List V} {ds : List D} : (L a ∨ a = a) → H a = some (.tup xs) → RepDs F L H xs ds → RepD F L H (.ref a) (.tup ds)
  | ctup {a : Addr} {xs : List V} {ds : List D} : WrT F.K a xs → RepDs F L H xs ds → RepD F L H (.ref a) (.ctup ds)
  | lst {a : Addr} {xs : List V} {ds : List D} : L a → H a = some (.lst xs) → RepDs F L H xs ds → RepD F L H (.ref a) (.lst ds)
  | scr {a : Addr} {ns : List Int} : True → SqL F.K H a (ns.map V.int) → ((L a ∧ ∃ o, H a = some (.frz o (.lst (ns.map V.int)))) ∨ ∀ H', SqL F.K H' a (ns.map V.int)) → RepD F L H (.ref a) (.scr ns)
  | dic {a : Addr} {kvs : List (Key × V)} {ds : List (Key × D)} : L a → Rd H a (.dK kvs) → RepKs F L H kvs ds → RepD F L H (.ref a) (.dic ds)
  | exn {a : Addr} {oe : Obj} {c : Nat} : L a → H a = some (.frz oe (.ext fun _ => True)) → oe.cls = .ref (F.Cl c) → oe.dict = none → (∃ vs, oe.data = .fields vs) → RepD F L H (.ref a) (.exn c)
  | dit {a : Addr} {kvs : List (List Key × V)} {ds : List (List Key × D)} : L a → Rd H a (.dT kvs) → RepTs F L H kvs ds → RepD F L H (.ref a) (.dit ds)
inductive RepDs (F : Fx) (L : Addr → Prop) (H : Hp) : List V → List D → Prop where
  | nil : RepDs F L H [] []
  | cons {v : V} {vs : List V} {d : D} {ds : List D} : RepD F L H v d → RepDs F L H vs ds → RepDs F L H (v :: vs) (d :: ds)
inductive RepKs (F : Fx) (L : Addr → Prop) (H : Hp) : List (Key × V) → List (Key × D) → Prop where
  | nil : RepKs F L H [] []
  | cons {k : Key} {v : V} {vs : List (Key × V)} {d : D} {ds : List (Key × D)} : RepD F L H v d → RepKs F L H vs ds → RepKs F L H ((k, v) :: vs) ((k, d) :: ds)
inductive RepTs (F : Fx) (L : Addr → Prop) (H : Hp) : List (List Key × V) → List (List Key × D) → Prop where
  | nil : RepTs F L H [] []
  | cons {k : List Key} {v : V} {vs : List (List Key × V)} {d : D} {ds : List (List Key × D)} : RepD F L H v d → RepTs F L H vs ds → RepTs F L H ((k, v) :: vs) ((k, d) :: ds)
end
section
variable {F : Fx} {L L' : Addr → Prop} {H H' : Hp}
/-- what is told to L stands on -/
noncomputable def Kp (L : Addr → Prop) (H : Hp) (L' : Addr → Prop) (H' : Hp) : Prop := ((∀ a, L a → L' a) ∧ ∀ a xs, H a = some (.tup xs) → H' a = some (.tup xs)) ∧ ∀ a o, L a → H a = some o → H' a = some o
theorem Kp.refl : Kp L H L H := ⟨⟨fun _ h => h, fun _ _ h => h⟩, fun _ _ _ h => h⟩
theorem Kp.trans {La Lb : Addr → Prop} {H1 H2 : Hp} (x : Kp L H La H1) (y : Kp La H1 Lb H2) : Kp L H Lb H2 :=
  ⟨⟨fun a h => y.1.1 a (x.1.1 a h), fun a xs h => y.1.2 a xs (x.1.2 a xs h)⟩, fun a o h e => y.2 a o (x.1.1 a h) (x.2 a o h e)⟩
theorem rd_kp (k : Kp L H L' H') {a : Addr} {u : HO} (hL : L a) (h : Rd H a u) : Rd H' a u := by
  rcases h with h | ⟨o, h⟩
  · exact .inl (k.2 a _ hL h)
  · exact .inr ⟨o, k.2 a _ hL h⟩
mutual
theorem RepD.kp (k : Kp L H L' H') : ∀ {v : V} {d : D}, RepD F L H v d → RepD F L' H' v d
  | _, _, .non => .non
  | _, _, .bl b => .bl b
  | _, _, .int i => .int i
  | _, _, .str x => .str x
  | _, _, .tup hL h r => .tup (.inr rfl) (k.1.2 _ _ h) (RepDs.kp k r)
  | _, _, .ctup f r => .ctup f (RepDs.kp k r)
  | _, _, .lst hL h r => .lst (k.1.1 _ hL) (k.2 _ _ hL h) (RepDs.kp k r)
  | _, _, .scr t _ (.inl ⟨hL, o, e⟩) => .scr t (.inl (.inr ⟨o, k.2 _ _ hL e⟩)) (.inl ⟨k.1.1 _ hL, o, k.2 _ _ hL e⟩)
  | _, _, .scr t _ (.inr h) => .scr t (h _) (.inr h)
  | _, _, .dic hL h r => .dic (k.1.1 _ hL) (rd_kp k hL h) (RepKs.kp k r)
  | _, _, .exn hL h c d e => .exn (k.1.1 _ hL) (k.2 _ _ hL h) c d e
  | _, _, .dit hL h r => .dit (k.1.1 _ hL) (rd_kp k hL h) (RepTs.kp k r)
theorem RepDs.kp (k : Kp L H L' H') : ∀ {vs : List V} {ds : List D}, RepDs F L H vs ds → RepDs F L' H' vs ds
  | _, _, .nil => .nil
  | _, _, .cons r rs => .cons (RepD.kp k r) (RepDs.kp k rs)
theorem RepKs.kp (k : Kp L H L' H') : ∀ {vs : List (Key × V)} {ds : List (Key × D)}, RepKs F L H vs ds → RepKs F L' H' vs ds
  | _, _, .nil => .nil
  | _, _, .cons r rs => .cons (RepD.kp k r) (RepKs.kp k rs)
theorem RepTs.kp (k : Kp L H L' H') : ∀ {vs : List (List Key × V)} {ds : List (List Key × D)}, RepTs F L H vs ds → RepTs F L' H' vs ds
  | _, _, .nil => .nil
  | _, _, .cons r rs => .cons (RepD.kp k r) (RepTs.kp k rs)
end
theorem RepDs.length : ∀ {vs : List V} {ds : List D}, RepDs F L H vs ds → vs.length = ds.length
  | _, _, .nil => rfl
  | _, _, .cons _ r => congrArg (· + 1) r.length
theorem RepDs.append : ∀ {vs us : List V} {ds es : List D}, RepDs F L H vs ds → RepDs F L H us es → RepDs F L H (vs ++ us) (ds ++ es)
  | _, _, _, _, .nil, s => s
  | _, _, _, _, .cons r t, s => .cons r (t.append s)
theorem RepDs.get : ∀ {vs : List V} {ds : List D} {i : Nat} {d : D}, RepDs F L H vs ds → ds[i]? = some d → ∃ v, vs[i]? = some v ∧ RepD F L H v d
  | _, _, _, _, .nil, e => by simp at e
  | _, _, 0, _, .cons r _, e => by simp at e; subst e; exact ⟨_, rfl, r⟩
  | _, _, i + 1, _, .cons _ t, e => by
    obtain ⟨v, h1, h2⟩ := t.get (i := i) (by simpa using e)
    exact ⟨v, by simpa using h1, h2⟩
theorem RepDs.take : ∀ {vs : List V} {ds : List D} (n : Nat), RepDs F L H vs ds → RepDs F L H (vs.take n) (ds.take n)
  | _, _, 0, _ => by simp; exact .nil
  | _, _, _ + 1, .nil => by simp; exact .nil
  | _, _, n + 1, .cons r t => by simp only [List.take_succ_cons]; exact .cons r (t.take n)
theorem RepDs.drop : ∀ {vs : List V} {ds : List D} (n : Nat), RepDs F L H vs ds → RepDs F L H (vs.drop n) (ds.drop n)
  | _, _, 0, r => r
  | _, _, _ + 1, .nil => by simp; exact .nil
  | _, _, n + 1, .cons _ t => by simp only [List.drop_succ_cons]; exact t.drop n
end

/-! ### the store -/
section
variable (F : Fx) (μ : List Addr) (L : Addr → Prop) (H : Hp)
inductive RepW : V → W → Prop where
  | p {v : V} {d : D} : RepD F L H v d → RepW v (.p d)
  | r {a : Addr} {n : Nat} : μ[n]? = some a → RepW (.ref a) (.r n)
inductive RepWs : List V → List W → Prop where
  | nil : RepWs [] []
  | cons {v : V} {vs : List V} {w : W} {ws : List W} : RepW F μ L H v w → RepWs vs ws → RepWs (v :: vs) (w :: ws)
/-- entries, their keys alike -/
inductive RepE {κ : Type} : List (κ × V) → List (κ × W) → Prop where
  | nil : RepE [] []
  | cons {k : κ} {v : V} {vs : List (κ × V)} {w : W} {ws : List (κ × W)} : RepW F μ L H v w → RepE vs ws → RepE ((k, v) :: vs) ((k, w) :: ws)
noncomputable def RepO (a : Addr) : O → Prop
  | .dead => False
  | .lst ws => ∃ vs, H a = some (.lst vs) ∧ RepWs F μ L H vs ws
  | .tup ws => ∃ vs, H a = some (.tup vs) ∧ RepWs F μ L H vs ws
  | .dic kvs => ∃ vs, H a = some (.dK vs) ∧ RepE F μ L H vs kvs
  | .dit kvs => ∃ vs, H a = some (.dT vs) ∧ RepE F μ L H vs kvs
  | .ins c fs => ∃ dx vs, H a = some (.ins (F.Cl c) dx vs) ∧ RepE F μ L H vs fs
  | .ldk kvs => ∃ vs, (∃ od, H a = some (.frz od (.dK vs))) ∧ RepE F μ L H vs kvs
  | .ldt kvs => ∃ vs, (∃ od, H a = some (.frz od (.dT vs))) ∧ RepE F μ L H vs kvs
end
noncomputable def Live (st : Sto) (n : Nat) : Prop := ∃ o, st[n]? = some o ∧ o.alive = true
/-- .. a dict that is walked, too -/
noncomputable def LivT (st : Sto) (n : Nat) : Prop := ∃ o, st[n]? = some o ∧ o.there = true
theorem alive_there : ∀ {o : O}, o.alive = true → o.there = true
  | .dead, h => by cases h
  | .lst _, _ => rfl
  | .tup _, _ => rfl
  | .dic _, _ => rfl
  | .dit _, _ => rfl
  | .ins _ _, _ => rfl
  | .ldk _, h => by cases h
  | .ldt _, h => by cases h
theorem Live.t {st : Sto} {n : Nat} (h : Live st n) : LivT st n := let ⟨o, e, al⟩ := h; ⟨o, e, alive_there al⟩
/-- the address of a thing of the store -/
noncomputable def At (μ : List Addr) (st : Sto) (a : Addr) : Prop := ∃ n, Live st n ∧ μ[n]? = some a
noncomputable def AtT (μ : List Addr) (st : Sto) (a : Addr) : Prop := ∃ n, LivT st n ∧ μ[n]? = some a
theorem At.t {μ : List Addr} {st : Sto} {a : Addr} (h : At μ st a) : AtT μ st a := let ⟨n, l, m⟩ := h; ⟨n, l.t, m⟩
structure Rel (F : Fx) (μ : List Addr) (L : Addr → Prop) (H : Hp) (st : Sto) : Prop where
  len : μ.length = st.length
  obj : ∀ (n : Nat) (o : O) (a : Addr), st[n]? = some o → μ[n]? = some a → o.there = true → ¬ L a ∧ RepO F μ L H a o
  inj : ∀ (n m : Nat) (a : Addr), LivT st n → LivT st m → μ[n]? = some a → μ[m]? = some a → n = m
  told : ∀ a, L a → ∃ o, H a = some o
noncomputable def RelE (F : Fx) (μ : List Addr) (L : Addr → Prop) (H : Hp) (σ : L2.St) (ρ : Nv) : Prop :=
  ρ.length ≤ σ.length ∧ ∀ (i : Nat) (w : W), ρ[i]? = some (some w) → ∃ v, σ[i]? = some (some v) ∧ RepW F μ L H v w
/-- what may have come about -/
structure Ext (μ : List Addr) (L : Addr → Prop) (H : Hp) (st : Sto) (μ' : List Addr) (L' : Addr → Prop) (H' : Hp) (st' : Sto) : Prop where
  keep : ∀ a o, H a = some o → ¬ At μ st a → H' a = some o
  tups : ∀ a xs, H a = some (.tup xs) → H' a = some (.tup xs)
  up : ∀ a, L a → L' a
  new : ∀ a, L' a → L a ∨ H a = none ∨ At μ st a
  pre : ∀ (n : Nat) (a : Addr), μ[n]? = some a → μ'[n]? = some a
  live : ∀ a, At μ' st' a → H a = none ∨ At μ st a
  livT : ∀ a, AtT μ' st' a → H a = none ∨ AtT μ st a
section
variable {F : Fx} {μ μ1 μ2 μ' : List Addr} {L La Lb L' : Addr → Prop} {H H1 H2 H' : Hp} {st st1 st2 st' : Sto}
theorem RepO.there {a : Addr} {o : O} (h : RepO F μ L H a o) : ∃ u, H a = some u := by
  cases o with
  | dead => exact h.elim
  | lst ws => obtain ⟨vs, e, _⟩ := h; exact ⟨_, e⟩
  | tup ws => obtain ⟨vs, e, _⟩ := h; exact ⟨_, e⟩
  | dic ws => obtain ⟨vs, e, _⟩ := h; exact ⟨_, e⟩
  | dit ws => obtain ⟨vs, e, _⟩ := h; exact ⟨_, e⟩
  | ins c fs => obtain ⟨dx, vs, e, _⟩ := h; exact ⟨_, e⟩
  | ldk ws => obtain ⟨vs, ⟨_, e⟩, _⟩ := h; exact ⟨_, e⟩
  | ldt ws => obtain ⟨vs, ⟨_, e⟩, _⟩ := h; exact ⟨_, e⟩
theorem RepO.ntup {a : Addr} {o : O} (h : RepO F μ L H a o) (nt : o.isT = false) : ∀ xs, H a ≠ some (.tup xs) := fun xs q => by
  cases o with
  | dead => exact h.elim
  | lst ws => obtain ⟨vs, e, _⟩ := h; rw [q] at e; cases e
  | tup ws => cases nt
  | dic ws => obtain ⟨vs, e, _⟩ := h; rw [q] at e; cases e
  | dit ws => obtain ⟨vs, e, _⟩ := h; rw [q] at e; cases e
  | ins c fs => obtain ⟨dx, vs, e, _⟩ := h; rw [q] at e; cases e
  | ldk ws => obtain ⟨vs, ⟨_, e⟩, _⟩ := h; rw [q] at e; cases e
  | ldt ws => obtain ⟨vs, ⟨_, e⟩, _⟩ := h; rw [q] at e; cases e
theorem Rel.at_ (R : Rel F μ L H st) {a : Addr} (h : At μ st a) : ¬ L a ∧ ∃ u, H a = some u := by
  obtain ⟨n, ⟨o, e, al⟩, m⟩ := h
  obtain ⟨x, y⟩ := R.obj n o a e m (alive_there al)
  exact ⟨x, y.there⟩
theorem Rel.atT (R : Rel F μ L H st) {n : Nat} {a : Addr} (h : LivT st n) (m : μ[n]? = some a) : ∃ u, H a = some u := by
  obtain ⟨o, e, al⟩ := h
  exact (R.obj n o a e m al).2.there
theorem Rel.addr (R : Rel F μ L H st) {n : Nat} {o : O} (h : st[n]? = some o) : ∃ a, μ[n]? = some a := by
  have h1 := (List.getElem?_eq_some_iff.mp h).1
  exact ⟨μ[n]'(by rw [R.len]; exact h1), List.getElem?_eq_getElem _⟩
theorem Ext.refl : Ext μ L H st μ L H st :=
  ⟨fun _ _ h _ => h, fun _ _ h => h, fun _ h => h, fun _ h => .inl h, fun _ _ h => h, fun _ h => .inr h, fun _ h => .inr h⟩
theorem Ext.kp (R : Rel F μ L H st) (e : Ext μ L H st μ' L' H' st') : Kp L H L' H' :=
  ⟨⟨e.up, e.tups⟩, fun a o hL h => e.keep a o h fun z => (R.at_ z).1 hL⟩
theorem Ext.trans (x : Ext μ L H st μ1 La H1 st1) (y : Ext μ1 La H1 st1 μ2 Lb H2 st2) : Ext μ L H st μ2 Lb H2 st2 where
  keep := fun a o h n => y.keep a o (x.keep a o h n) fun z => by
    rcases x.live a z with q | q
    · rw [q] at h; cases h
    · exact n q
  tups := fun a xs h => y.tups a xs (x.tups a xs h)
  up := fun a h => y.up a (x.up a h)
  new := fun a h => by
    rcases y.new a h with q | q | q
    · exact x.new a q
    · by_cases z : At μ st a
      · exact .inr (.inr z)
      · refine .inr (.inl ?_)
        cases e : H a with
        | none => rfl
        | some o =>
          have := x.keep a o e z
          rw [q] at this; cases this
    · rcases x.live a q with q | q
      · exact .inr (.inl q)
      · exact .inr (.inr q)
  pre := fun n a h => y.pre n a (x.pre n a h)
  live := fun a h => by
    rcases y.live a h with q | q
    · by_cases z : At μ st a
      · exact .inr z
      · refine .inl ?_
        cases e : H a with
        | none => rfl
        | some o =>
          have := x.keep a o e z
          rw [q] at this; cases this
    · exact x.live a q
  livT := fun a h => by
    rcases y.livT a h with q | q
    · by_cases z : AtT μ st a
      · exact .inr z
      · refine .inl ?_
        cases e : H a with
        | none => rfl
        | some o =>
          have := x.keep a o e fun w => z w.t
          rw [q] at this; cases this
    · exact x.livT a q
theorem RepW.mono (k : Kp L H L' H') (p : ∀ (n : Nat) (a : Addr), μ[n]? = some a → μ'[n]? = some a) {v : V} {w : W} (h : RepW F μ L H v w) : RepW F μ' L' H' v w := by
  cases h with
  | p r => exact .p (r.kp k)
  | r e => exact .r (p _ _ e)
theorem RepWs.mono (k : Kp L H L' H') (p : ∀ (n : Nat) (a : Addr), μ[n]? = some a → μ'[n]? = some a) : ∀ {vs : List V} {ws : List W}, RepWs F μ L H vs ws → RepWs F μ' L' H' vs ws
  | _, _, .nil => .nil
  | _, _, .cons r t => .cons (r.mono k p) (t.mono k p)
theorem RepE.mono {κ : Type} (k : Kp L H L' H') (p : ∀ (n : Nat) (a : Addr), μ[n]? = some a → μ'[n]? = some a) : ∀ {vs : List (κ × V)} {ws : List (κ × W)}, RepE F μ L H vs ws → RepE F μ' L' H' vs ws
  | _, _, .nil => .nil
  | _, _, .cons r t => .cons (r.mono k p) (t.mono k p)
theorem RepO.mono (k : Kp L H L' H') (p : ∀ (n : Nat) (a : Addr), μ[n]? = some a → μ'[n]? = some a) {a : Addr} {o : O} (h : RepO F μ L H a o) (e : ∀ u, H a = some u → H' a = some u) : RepO F μ' L' H' a o := by
  cases o with
  | dead => exact h.elim
  | lst ws => obtain ⟨vs, x, r⟩ := h; exact ⟨vs, e _ x, r.mono k p⟩
  | tup ws => obtain ⟨vs, x, r⟩ := h; exact ⟨vs, e _ x, r.mono k p⟩
  | dic ws => obtain ⟨vs, x, r⟩ := h; exact ⟨vs, e _ x, r.mono k p⟩
  | dit ws => obtain ⟨vs, x, r⟩ := h; exact ⟨vs, e _ x, r.mono k p⟩
  | ins c fs => obtain ⟨dx, vs, x, r⟩ := h; exact ⟨dx, vs, e _ x, r.mono k p⟩
  | ldk ws => obtain ⟨vs, ⟨od, x⟩, r⟩ := h; exact ⟨vs, ⟨od, e _ x⟩, r.mono k p⟩
  | ldt ws => obtain ⟨vs, ⟨od, x⟩, r⟩ := h; exact ⟨vs, ⟨od, e _ x⟩, r.mono k p⟩
theorem RelE.mono (k : Kp L H L' H') (p : ∀ (n : Nat) (a : Addr), μ[n]? = some a → μ'[n]? = some a) {σ : L2.St} {ρ : Nv} (h : RelE F μ L H σ ρ) : RelE F μ' L' H' σ ρ :=
  ⟨h.1, fun i w e => let ⟨v, x, r⟩ := h.2 i w e; ⟨v, x, r.mono k p⟩⟩
theorem Ext.wv (R : Rel F μ L H st) (e : Ext μ L H st μ' L' H' st') {v : V} {w : W} (h : RepW F μ L H v w) : RepW F μ' L' H' v w := h.mono (e.kp R) e.pre
theorem Ext.wvs (R : Rel F μ L H st) (e : Ext μ L H st μ' L' H' st') {v : List V} {w : List W} (h : RepWs F μ L H v w) : RepWs F μ' L' H' v w := h.mono (e.kp R) e.pre
theorem Ext.env (R : Rel F μ L H st) (e : Ext μ L H st μ' L' H' st') {σ : L2.St} {ρ : Nv} (h : RelE F μ L H σ ρ) : RelE F μ' L' H' σ ρ := h.mono (e.kp R) e.pre
theorem RelE.set {σ : L2.St} {ρ : Nv} {i : Nat} {v : V} {w : W} (h : RelE F μ L H σ ρ) (r : RepW F μ L H v w) : RelE F μ L H (σ.set i (some v)) (ρ.set i (some w)) := by
  refine ⟨by simpa using h.1, fun j u e => ?_⟩
  by_cases hj : i = j
  · subst hj
    have hl : i < ρ.length := by
      have := (List.getElem?_eq_some_iff.mp e).1
      simpa using this
    rw [List.getElem?_set_self hl] at e
    cases e
    exact ⟨v, List.getElem?_set_self (Nat.lt_of_lt_of_le hl h.1), r⟩
  · rw [List.getElem?_set_ne hj] at e
    obtain ⟨v', e', r'⟩ := h.2 j u e
    exact ⟨v', by rw [List.getElem?_set_ne hj]; exact e', r'⟩

/-! ### the steps: a new value, a new thing, a thing changed, a thing that becomes a value -/
theorem at_push {o : O} {p a : Addr} (hl : μ.length = st.length) (h : At (μ ++ [p]) (st ++ [o]) a) : At μ st a ∨ (a = p ∧ o.alive = true) := by
  obtain ⟨n, ⟨u, e, al⟩, m⟩ := h
  by_cases hn : n < st.length
  · rw [List.getElem?_append_left hn] at e
    rw [List.getElem?_append_left (by rw [hl]; exact hn)] at m
    exact .inl ⟨n, ⟨u, e, al⟩, m⟩
  · have hn' : n = st.length := by
      have := (List.getElem?_eq_some_iff.mp e).1
      simp at this
      omega
    subst hn'
    rw [List.getElem?_append_right (Nat.le_refl _)] at e
    rw [← hl, List.getElem?_append_right (Nat.le_refl _)] at m
    simp at e m
    exact .inr ⟨m.symm, by rw [e]; exact al⟩
theorem at_pushT {o : O} {p a : Addr} (hl : μ.length = st.length) (h : AtT (μ ++ [p]) (st ++ [o]) a) : AtT μ st a ∨ (a = p ∧ o.there = true) := by
  obtain ⟨n, ⟨u, e, al⟩, m⟩ := h
  by_cases hn : n < st.length
  · rw [List.getElem?_append_left hn] at e
    rw [List.getElem?_append_left (by rw [hl]; exact hn)] at m
    exact .inl ⟨n, ⟨u, e, al⟩, m⟩
  · have hn' : n = st.length := by
      have := (List.getElem?_eq_some_iff.mp e).1
      simp at this
      omega
    subst hn'
    rw [List.getElem?_append_right (Nat.le_refl _)] at e
    rw [← hl, List.getElem?_append_right (Nat.le_refl _)] at m
    simp at e m
    exact .inr ⟨m.symm, by rw [e]; exact al⟩
/-- something new that is told to L -/
theorem Ext.val (R : Rel F μ L H st) {p : Addr} {u : HO} (hp : H p = none) : Ext μ L H st μ (fun a => L a ∨ a = p) (upd H p u) st where
  keep := fun a o h _ => by rw [upd_ne (ne_of_none h hp)]; exact h
  tups := fun a xs h => by rw [upd_ne (ne_of_none h hp)]; exact h
  up := fun a h => .inl h
  new := fun a h => by
    rcases h with h | rfl
    · exact .inl h
    · exact .inr (.inl hp)
  pre := fun _ _ h => h
  live := fun _ h => .inr h
  livT := fun _ h => .inr h
theorem Rel.val (R : Rel F μ L H st) {p : Addr} {u : HO} (hp : H p = none) : Rel F μ (fun a => L a ∨ a = p) (upd H p u) st where
  len := R.len
  obj := fun n o a e m al => by
    obtain ⟨x, y⟩ := R.obj n o a e m al
    obtain ⟨w, hw⟩ := y.there
    have ne : a ≠ p := ne_of_none hw hp
    exact ⟨fun z => z.elim x ne, y.mono ((Ext.val R hp).kp R) (fun _ _ h => h) fun v hv => by rw [upd_ne ne]; exact hv⟩
  inj := R.inj
  told := fun a h => by
    by_cases ne : a = p
    · subst ne; exact ⟨_, upd_same⟩
    · rw [upd_ne ne]; exact R.told a (h.elim id fun z => absurd z ne)
/-- something new that is nobody's (a tracked thing of no interest) -/
theorem Ext.aside {p : Addr} {u : HO} (hp : H p = none) : Ext μ L H st μ L (upd H p u) st where
  keep := fun a o h _ => by rw [upd_ne (ne_of_none h hp)]; exact h
  tups := fun a xs h => by rw [upd_ne (ne_of_none h hp)]; exact h
  up := fun a h => h
  new := fun a h => .inl h
  pre := fun _ _ h => h
  live := fun _ h => .inr h
  livT := fun _ h => .inr h
theorem Rel.aside (R : Rel F μ L H st) {p : Addr} {u : HO} (hp : H p = none) : Rel F μ L (upd H p u) st where
  len := R.len
  obj := fun n o a e m al => by
    obtain ⟨x, y⟩ := R.obj n o a e m al
    obtain ⟨w, hw⟩ := y.there
    have ne : a ≠ p := ne_of_none hw hp
    exact ⟨x, y.mono ((Ext.aside hp).kp R) (fun _ _ h => h) fun v hv => by rw [upd_ne ne]; exact hv⟩
  inj := R.inj
  told := fun a h => by
    obtain ⟨o, e⟩ := R.told a h
    exact ⟨o, by rw [upd_ne (ne_of_none e hp)]; exact e⟩
theorem Rel.fresh (R : Rel F μ L H st) {p : Addr} (hp : H p = none) : ¬ L p := fun z => by
  obtain ⟨o, e⟩ := R.told p z
  rw [hp] at e; cases e
/-- a new thing of the store -/
theorem Ext.thing (R : Rel F μ L H st) {p : Addr} {u : HO} {o : O} (hp : H p = none) : Ext μ L H st (μ ++ [p]) L (upd H p u) (st ++ [o]) where
  keep := fun a w h _ => by rw [upd_ne (ne_of_none h hp)]; exact h
  tups := fun a xs h => by rw [upd_ne (ne_of_none h hp)]; exact h
  up := fun a h => h
  new := fun a h => .inl h
  pre := fun n a h => by
    have hn := (List.getElem?_eq_some_iff.mp h).1
    rw [List.getElem?_append_left hn]; exact h
  live := fun a h => by
    rcases at_push R.len h with h | ⟨rfl, _⟩
    · exact .inr h
    · exact .inl hp
  livT := fun a h => by
    rcases at_pushT R.len h with h | ⟨rfl, _⟩
    · exact .inr h
    · exact .inl hp
theorem Rel.thing (R : Rel F μ L H st) {p : Addr} {u : HO} {o : O} (hp : H p = none) (hL : ¬ L p) (r : o.there = true → RepO F (μ ++ [p]) L (upd H p u) p o) : Rel F (μ ++ [p]) L (upd H p u) (st ++ [o]) where
  len := by simp [R.len]
  obj := fun n w a e m al => by
    by_cases hn : n < st.length
    · rw [List.getElem?_append_left hn] at e
      rw [List.getElem?_append_left (by rw [R.len]; exact hn)] at m
      obtain ⟨x, y⟩ := R.obj n w a e m al
      obtain ⟨v, hv⟩ := y.there
      exact ⟨x, y.mono ((Ext.thing (o := o) R hp).kp R) (Ext.thing (u := u) (o := o) R hp).pre fun v hv => by rw [upd_ne (ne_of_none hv hp)]; exact hv⟩
    · have hn' : n = st.length := by
        have := (List.getElem?_eq_some_iff.mp e).1
        simp at this
        omega
      subst hn'
      rw [List.getElem?_append_right (Nat.le_refl _)] at e
      rw [← R.len, List.getElem?_append_right (Nat.le_refl _)] at m
      simp at e m
      subst e m
      exact ⟨hL, r al⟩
  inj := fun n m a hn hm en em => by
    have aux : ∀ k, LivT (st ++ [o]) k → (μ ++ [p])[k]? = some a → (k < st.length ∧ LivT st k ∧ μ[k]? = some a) ∨ (k = st.length ∧ a = p) := by
      intro k hk ek
      obtain ⟨w, e, al⟩ := hk
      by_cases hlt : k < st.length
      · rw [List.getElem?_append_left hlt] at e
        rw [List.getElem?_append_left (by rw [R.len]; exact hlt)] at ek
        exact .inl ⟨hlt, ⟨w, e, al⟩, ek⟩
      · have hk' : k = st.length := by
          have := (List.getElem?_eq_some_iff.mp e).1
          simp at this
          omega
        subst hk'
        rw [← R.len, List.getElem?_append_right (Nat.le_refl _)] at ek
        simp at ek
        exact .inr ⟨rfl, ek.symm⟩
    rcases aux n hn en with ⟨_, l1, e1⟩ | ⟨rfl, rfl⟩
    · rcases aux m hm em with ⟨_, l2, e2⟩ | ⟨_, rfl⟩
      · exact R.inj n m a l1 l2 e1 e2
      · obtain ⟨u, hu⟩ := R.atT l1 e1
        rw [hp] at hu; cases hu
    · rcases aux m hm em with ⟨_, l2, e2⟩ | ⟨rfl, _⟩
      · obtain ⟨u, hu⟩ := R.atT l2 e2
        rw [hp] at hu; cases hu
      · rfl
  told := fun a h => by
    obtain ⟨o, e⟩ := R.told a h
    exact ⟨o, by rw [upd_ne (ne_of_none e hp)]; exact e⟩
theorem set_livT {o : O} {n k : Nat} (h : LivT (st.set n o) k) : LivT st k ∨ k = n := by
  by_cases hk : n = k
  · exact .inr hk.symm
  · obtain ⟨w, e, al⟩ := h
    rw [List.getElem?_set_ne hk] at e
    exact .inl ⟨w, e, al⟩
theorem set_live {o : O} {n k : Nat} (h : Live (st.set n o) k) : Live st k ∨ k = n := by
  by_cases hk : n = k
  · exact .inr hk.symm
  · obtain ⟨w, e, al⟩ := h
    rw [List.getElem?_set_ne hk] at e
    exact .inl ⟨w, e, al⟩
/-- a thing changed -/
theorem Ext.set (R : Rel F μ L H st) {n : Nat} {a : Addr} {u : HO} {o o' : O} (hn : st[n]? = some o) (al : o.alive = true) (ha : μ[n]? = some a) (nt : o.isT = false := by rfl) : Ext μ L H st μ L (upd H a u) (st.set n o') where
  keep := fun b w h z => by
    rw [upd_ne fun q => z (by rw [q]; exact ⟨n, ⟨o, hn, al⟩, ha⟩)]; exact h
  tups := fun b xs h => by
    rw [upd_ne fun q => (R.obj n o a hn ha (alive_there al)).2.ntup nt xs (by rw [← q]; exact h)]; exact h
  up := fun _ h => h
  new := fun _ h => .inl h
  pre := fun _ _ h => h
  live := fun b h => by
    obtain ⟨k, hk, e⟩ := h
    rcases set_live hk with hk | rfl
    · exact .inr ⟨k, hk, e⟩
    · rw [ha] at e; cases e
      exact .inr ⟨k, ⟨o, hn, al⟩, ha⟩
  livT := fun b h => by
    obtain ⟨k, hk, e⟩ := h
    rcases set_livT hk with hk | rfl
    · exact .inr ⟨k, hk, e⟩
    · rw [ha] at e; cases e
      exact .inr ⟨k, ⟨o, hn, alive_there al⟩, ha⟩
theorem Rel.set (R : Rel F μ L H st) {n : Nat} {a : Addr} {u : HO} {o o' : O} (hn : st[n]? = some o) (al : o.alive = true) (ha : μ[n]? = some a) (r : RepO F μ L (upd H a u) a o') (nt : o.isT = false := by rfl) : Rel F μ L (upd H a u) (st.set n o') where
  len := by simp [R.len]
  obj := fun k w b e m alw => by
    by_cases hk : n = k
    · subst hk
      have hlt := (List.getElem?_eq_some_iff.mp hn).1
      rw [List.getElem?_set_self hlt] at e
      cases e
      rw [ha] at m; cases m
      exact ⟨(R.obj n o a hn ha (alive_there al)).1, r⟩
    · rw [List.getElem?_set_ne hk] at e
      obtain ⟨x, y⟩ := R.obj k w b e m alw
      have ne : b ≠ a := fun q => by
        subst q
        exact hk (R.inj n k b ⟨o, hn, alive_there al⟩ ⟨w, e, alw⟩ ha m)
      exact ⟨x, y.mono ((Ext.set (o' := o') R hn al ha nt).kp R) (fun _ _ h => h) fun v hv => by rw [upd_ne ne]; exact hv⟩
  inj := fun k m b hk hm ek em => by
    have aux : ∀ j, LivT (st.set n o') j → LivT st j := fun j hj => by
      rcases set_livT hj with h | rfl
      · exact h
      · exact ⟨o, hn, alive_there al⟩
    exact R.inj k m b (aux k hk) (aux m hm) ek em
  told := fun b h => by
    by_cases ne : b = a
    · subst ne; exact ⟨_, upd_same⟩
    · rw [upd_ne ne]; exact R.told b h
/-- a thing becomes a value: told to L -/
theorem Ext.freeze (R : Rel F μ L H st) {n : Nat} {a : Addr} {o : O} (hn : st[n]? = some o) (al : o.alive = true) (ha : μ[n]? = some a) : Ext μ L H st μ (fun b => L b ∨ b = a) H (st.set n .dead) where
  keep := fun b w h _ => h
  tups := fun _ _ h => h
  up := fun _ h => .inl h
  new := fun b h => by
    rcases h with h | rfl
    · exact .inl h
    · exact .inr (.inr ⟨n, ⟨o, hn, al⟩, ha⟩)
  pre := fun _ _ h => h
  live := fun b h => by
    obtain ⟨k, hk, e⟩ := h
    rcases set_live hk with hk | rfl
    · exact .inr ⟨k, hk, e⟩
    · rw [ha] at e; cases e
      exact .inr ⟨k, ⟨o, hn, al⟩, ha⟩
  livT := fun b h => by
    obtain ⟨k, hk, e⟩ := h
    rcases set_livT hk with hk | rfl
    · exact .inr ⟨k, hk, e⟩
    · rw [ha] at e; cases e
      exact .inr ⟨k, ⟨o, hn, alive_there al⟩, ha⟩
theorem Rel.freeze (R : Rel F μ L H st) {n : Nat} {a : Addr} {o : O} (hn : st[n]? = some o) (al : o.alive = true) (ha : μ[n]? = some a) : Rel F μ (fun b => L b ∨ b = a) H (st.set n .dead) where
  len := by simp [R.len]
  obj := fun k w b e m alw => by
    by_cases hk : n = k
    · subst hk
      have hlt := (List.getElem?_eq_some_iff.mp hn).1
      rw [List.getElem?_set_self hlt] at e
      cases e
      cases alw
    · rw [List.getElem?_set_ne hk] at e
      obtain ⟨x, y⟩ := R.obj k w b e m alw
      have ne : b ≠ a := fun q => by
        subst q
        exact hk (R.inj n k b ⟨o, hn, alive_there al⟩ ⟨w, e, alw⟩ ha m)
      exact ⟨fun z => z.elim x ne, y.mono ((Ext.freeze R hn al ha).kp R) (fun _ _ h => h) fun v hv => hv⟩
  inj := fun k m b hk hm ek em => by
    have aux : ∀ j, LivT (st.set n .dead) j → LivT st j := fun j hj => by
      rcases set_livT hj with h | rfl
      · exact h
      · exact ⟨o, hn, alive_there al⟩
    exact R.inj k m b (aux k hk) (aux m hm) ek em
  told := fun b h => by
    rcases h with h | rfl
    · exact R.told b h
    · exact R.at_ ⟨n, ⟨o, hn, al⟩, ha⟩ |>.2
end
end T

set_option maxRecDepth 100000
set_option maxHeartbeats 2000000
/-! T: what a term comes to is what the walk asks: readings -/
namespace T
open PySem L2

/-! ### readings by what a term comes to -/
noncomputable def Post {α : Type} (F : Fx) (Ew : XK) (μ : List Addr) (L : Addr → Prop) (H : Hp) (st : Sto) (r : Res α) (Q : α → List Addr → (Addr → Prop) → Hp → Sto → Prop) : Prop :=
  match r with
  | .ok a st' => ∀ μ' L' H', Ext μ L H st μ' L' H' st' → Rel F μ' L' H' st' → Q a μ' L' H' st'
  | .exc c st' => ∀ μ' L' H', Ext μ L H st μ' L' H' st' → Rel F μ' L' H' st' → Ew (.ref (F.Cl c)) none H'
  | .err => False
section
variable {F : Fx} {Ew : XK} {μ μ1 : List Addr} {L La : Addr → Prop} {H H1 : Hp} {st st1 : Sto} {α β : Type}
theorem Post.mono {r : Res α} {Q Q' : α → List Addr → (Addr → Prop) → Hp → Sto → Prop} (h : Post F Ew μ L H st r Q)
    (k : ∀ a μ' L' H' st', Ext μ L H st μ' L' H' st' → Rel F μ' L' H' st' → Q a μ' L' H' st' → Q' a μ' L' H' st') : Post F Ew μ L H st r Q' := by
  cases r with
  | ok a s => exact fun μ' L' H' e R => k a μ' L' H' s e R (h μ' L' H' e R)
  | exc c s => exact h
  | err => exact h
theorem Post.from {r : Res α} {Q : α → List Addr → (Addr → Prop) → Hp → Sto → Prop} (e : Ext μ L H st μ1 La H1 st1) (h : Post F Ew μ L H st r Q) : Post F Ew μ1 La H1 st1 r Q := by
  cases r with
  | ok a s => exact fun μ' L' H' e' R => h μ' L' H' (e.trans e') R
  | exc c s => exact fun μ' L' H' e' R => h μ' L' H' (e.trans e') R
  | err => exact h
theorem Post.bind {r : Res α} {f : α → Sto → Res β} {Q : β → List Addr → (Addr → Prop) → Hp → Sto → Prop} (h : Post F Ew μ L H st (r.bind f) Q) :
    Post F Ew μ L H st r (fun a μ1 L1 H1 st1 => Post F Ew μ1 L1 H1 st1 (f a st1) Q) := by
  cases r with
  | ok a s => exact fun μ' L' H' e R => Post.from e h
  | exc c s => exact h
  | err => exact h
end
noncomputable def tE (F : Fx) (Ew : XK) (m : Nv → Sto → Res W) : TE := fun σ H Q => ∃ μ L ρ st, Rel F μ L H st ∧ RelE F μ L H σ ρ ∧ Post F Ew μ L H st (m ρ st) fun w μ' L' H' _ => ∀ v, RepW F μ' L' H' v w → Q v H'
noncomputable def tT (F : Fx) (Ew : XK) (m : Nv → Sto → Res Bool) : TT := fun σ H Q => ∃ μ L ρ st, Rel F μ L H st ∧ RelE F μ L H σ ρ ∧ Post F Ew μ L H st (m ρ st) fun k μ' L' H' _ => Q k H'
noncomputable def tA (F : Fx) (Ew : XK) (m : Nv → Sto → Res (List W)) : TA := fun σ H Q => ∃ μ L ρ st, Rel F μ L H st ∧ RelE F μ L H σ ρ ∧ Post F Ew μ L H st (m ρ st) fun ws μ' L' H' _ => ∀ vs, RepWs F μ' L' H' vs ws → Q vs H'
noncomputable def tO (F : Fx) (Ew : XK) (m : Nv → Sto → Res (Option Int)) : TO := fun σ H Q => ∃ μ L ρ st, Rel F μ L H st ∧ RelE F μ L H σ ρ ∧ Post F Ew μ L H st (m ρ st) fun o μ' L' H' _ => Q o H'
theorem _root_.L2.PE.imp {X : Cx} {e : Expr} {t t' : TE} (h : PE X e t) (k : ∀ σ H Q, t' σ H Q → t σ H Q) : PE X e t' := ⟨fun pins s σ H Q I q => h.run pins s σ H Q I (k σ H Q q)⟩
theorem _root_.L2.PT.imp {X : Cx} {e : Expr} {t t' : TT} (h : PT X e t) (k : ∀ σ H Q, t' σ H Q → t σ H Q) : PT X e t' := ⟨fun pins s σ H Q I q => h.run pins s σ H Q I (k σ H Q q)⟩
theorem _root_.L2.PW.imp {X : Cx} {e : Expr} {t t' : TT} (h : PW X e t) (k : ∀ σ H Q, t' σ H Q → t σ H Q) : PW X e t' := ⟨fun w pins s σ H Q I q => h.run w pins s σ H Q I (k σ H Q q)⟩
theorem _root_.L2.PA.imp {X : Cx} {e : List Expr} {t t' : TA} (h : PA X e t) (k : ∀ σ H Q, t' σ H Q → t σ H Q) : PA X e t' := ⟨fun p pins s σ H Q I q => h.run p pins s σ H Q I (k σ H Q q)⟩
theorem _root_.L2.PO.imp {X : Cx} {e : Option Expr} {t t' : TO} (h : PO X e t) (k : ∀ σ H Q, t' σ H Q → t σ H Q) : PO X e t' := ⟨fun pins s σ H Q I q => h.run pins s σ H Q I (k σ H Q q)⟩
theorem _root_.L2.PS.imp {X : Cx} {e : Stmt} {t t' : TS} (h : PS X e t) (k : ∀ D σ H, t' D σ H → t D σ H) : PS X e t' := ⟨fun pins s σ H D I q => h.run pins s σ H D I (k D σ H q)⟩
theorem _root_.L2.PSs.imp {X : Cx} {e : List Stmt} {t t' : TS} (h : PSs X e t) (k : ∀ D σ H, t' D σ H → t D σ H) : PSs X e t' := ⟨fun pins s σ H D I q => h.run pins s σ H D I (k D σ H q)⟩
theorem _root_.L2.PI.imp {X : Cx} {tg e : Expr} {t t' : TI} (h : PI X tg e t) (k : ∀ σ H Q, t' σ H Q → t σ H Q) : PI X tg e t' := ⟨fun pins s σ H Q I q => h.run pins s σ H Q I (k σ H Q q)⟩
section
variable {F : Fx} {Ew : XK} {μ μ1 : List Addr} {L La : Addr → Prop} {H H1 : Hp} {st st1 : Sto} {α β : Type} {σ : L2.St} {ρ : Nv}
/-- a term within a longer one -/
theorem in_E {m : Nv → Sto → Res W} {f : W → Sto → Res β} {Q : β → List Addr → (Addr → Prop) → Hp → Sto → Prop} {G : VK} (R : Rel F μ L H st) (RE : RelE F μ L H σ ρ) (h : Post F Ew μ L H st ((m ρ st).bind f) Q)
    (k : ∀ w v μ1 L1 H1 st1, Ext μ L H st μ1 L1 H1 st1 → Rel F μ1 L1 H1 st1 → RelE F μ1 L1 H1 σ ρ → RepW F μ1 L1 H1 v w → Post F Ew μ1 L1 H1 st1 (f w st1) Q → G v H1) : tE F Ew m σ H G :=
  ⟨μ, L, ρ, st, R, RE, h.bind.mono fun w μ1 L1 H1 st1 e R1 q v r => k w v μ1 L1 H1 st1 e R1 (e.env R RE) r q⟩
theorem in_T {m : Nv → Sto → Res Bool} {f : Bool → Sto → Res β} {Q : β → List Addr → (Addr → Prop) → Hp → Sto → Prop} {G : Bool → Hp → Prop} (R : Rel F μ L H st) (RE : RelE F μ L H σ ρ) (h : Post F Ew μ L H st ((m ρ st).bind f) Q)
    (k : ∀ w μ1 L1 H1 st1, Ext μ L H st μ1 L1 H1 st1 → Rel F μ1 L1 H1 st1 → RelE F μ1 L1 H1 σ ρ → Post F Ew μ1 L1 H1 st1 (f w st1) Q → G w H1) : tT F Ew m σ H G :=
  ⟨μ, L, ρ, st, R, RE, h.bind.mono fun w μ1 L1 H1 st1 e R1 q => k w μ1 L1 H1 st1 e R1 (e.env R RE) q⟩
theorem in_A {m : Nv → Sto → Res (List W)} {f : List W → Sto → Res β} {Q : β → List Addr → (Addr → Prop) → Hp → Sto → Prop} {G : List V → Hp → Prop} (R : Rel F μ L H st) (RE : RelE F μ L H σ ρ) (h : Post F Ew μ L H st ((m ρ st).bind f) Q)
    (k : ∀ ws vs μ1 L1 H1 st1, Ext μ L H st μ1 L1 H1 st1 → Rel F μ1 L1 H1 st1 → RelE F μ1 L1 H1 σ ρ → RepWs F μ1 L1 H1 vs ws → Post F Ew μ1 L1 H1 st1 (f ws st1) Q → G vs H1) : tA F Ew m σ H G :=
  ⟨μ, L, ρ, st, R, RE, h.bind.mono fun w μ1 L1 H1 st1 e R1 q v r => k w v μ1 L1 H1 st1 e R1 (e.env R RE) r q⟩
theorem in_O {m : Nv → Sto → Res (Option Int)} {f : Option Int → Sto → Res β} {Q : β → List Addr → (Addr → Prop) → Hp → Sto → Prop} {G : Option Int → Hp → Prop} (R : Rel F μ L H st) (RE : RelE F μ L H σ ρ) (h : Post F Ew μ L H st ((m ρ st).bind f) Q)
    (k : ∀ w μ1 L1 H1 st1, Ext μ L H st μ1 L1 H1 st1 → Rel F μ1 L1 H1 st1 → RelE F μ1 L1 H1 σ ρ → Post F Ew μ1 L1 H1 st1 (f w st1) Q → G w H1) : tO F Ew m σ H G :=
  ⟨μ, L, ρ, st, R, RE, h.bind.mono fun w μ1 L1 H1 st1 e R1 q => k w μ1 L1 H1 st1 e R1 (e.env R RE) q⟩
/-- a value that is there -/
theorem Post.here {a : α} {Q : α → List Addr → (Addr → Prop) → Hp → Sto → Prop} (R : Rel F μ L H st) (h : Post F Ew μ L H st (.ok a st) Q) : Q a μ L H st := h μ L H .refl R
/-- a new value laid -/
theorem Post.val {d : D} {G : VK} {p : Addr} {u : HO} (R : Rel F μ L H st) (h : Post F Ew μ L H st (.ok (W.p d) st) fun w μ' L' H' _ => ∀ v, RepW F μ' L' H' v w → G v H') (hp : H p = none)
    (r : RepD F (fun a => L a ∨ a = p) (upd H p u) (.ref p) d) : G (.ref p) (upd H p u) := h μ _ _ (Ext.val R hp) (Rel.val R hp) _ (.p r)
/-- a new thing laid -/
theorem Post.thing {o : O} {G : VK} {p : Addr} {u : HO} (R : Rel F μ L H st) (h : Post F Ew μ L H st (newO o st) fun w μ' L' H' _ => ∀ v, RepW F μ' L' H' v w → G v H') (hp : H p = none)
    (r : RepO F (μ ++ [p]) L (upd H p u) p o) : G (.ref p) (upd H p u) :=
  h _ _ _ (Ext.thing R hp) (Rel.thing R hp (R.fresh hp) fun _ => r) _ (.r (by rw [← R.len, List.getElem?_append_right (Nat.le_refl _)]; simp))
end

/-! ### what is shown -/
inductive Sh (F : Fx) (L : Addr → Prop) (H : Hp) : V → D → Prop where
  | d {v : V} {d : D} : RepD F L H v d → Sh F L H v d
  | lst {a : Addr} {xs : List V} {ds : List D} : H a = some (.lst xs) → RepDs F L H xs ds → Sh F L H (.ref a) (.lst ds)
  | dic {a : Addr} {kvs : List (Key × V)} {ds : List (Key × D)} : Rd H a (.dK kvs) → RepKs F L H kvs ds → Sh F L H (.ref a) (.dic ds)
  | dit {a : Addr} {kvs : List (List Key × V)} {ds : List (List Key × D)} : Rd H a (.dT kvs) → RepTs F L H kvs ds → Sh F L H (.ref a) (.dit ds)
section
variable {F : Fx} {Ew : XK} {μ μ1 : List Addr} {L La : Addr → Prop} {H H1 : Hp} {st st1 : Sto}
theorem unW_reps : ∀ {vs : List V} {ws : List W} {ds : List D}, RepWs F μ L H vs ws → unW ws = some ds → RepDs F L H vs ds
  | _, _, _, .nil, e => by cases e; exact .nil
  | _, _, _, .cons (.p r) t, e => by
    rw [unW] at e
    cases q : unW _ with
    | none => rw [q] at e; cases e
    | some ds => rw [q] at e; cases e; exact .cons r (unW_reps t q)
  | _, _, _, .cons (.r _) t, e => by cases e
theorem unK_reps : ∀ {vs : List (Key × V)} {ws : List (Key × W)} {ds : List (Key × D)}, T.RepE F μ L H vs ws → unK ws = some ds → RepKs F L H vs ds
  | _, _, _, .nil, e => by cases e; exact .nil
  | _, _, _, .cons (.p r) t, e => by
    rw [unK] at e
    cases q : unK _ with
    | none => rw [q] at e; cases e
    | some ds => rw [q] at e; cases e; exact .cons r (unK_reps t q)
  | _, _, _, .cons (.r _) t, e => by cases e
theorem unT_reps : ∀ {vs : List (List Key × V)} {ws : List (List Key × W)} {ds : List (List Key × D)}, T.RepE F μ L H vs ws → unK ws = some ds → RepTs F L H vs ds
  | _, _, _, .nil, e => by cases e; exact .nil
  | _, _, _, .cons (.p r) t, e => by
    rw [unK] at e
    cases q : unK _ with
    | none => rw [q] at e; cases e
    | some ds => rw [q] at e; cases e; exact .cons r (unT_reps t q)
  | _, _, _, .cons (.r _) t, e => by cases e
theorem reps_map : ∀ {vs : List V} {ds : List D}, RepDs F L H vs ds → RepWs F μ L H vs (ds.map W.p)
  | _, _, .nil => .nil
  | _, _, .cons r t => .cons (.p r) (reps_map t)
/-- a thing that the store has -/
theorem Rel.thg (R : Rel F μ L H st) {v : V} {n : Nat} {o : O} (r : RepW F μ L H v (.r n)) (e : st[n]? = some o) (al : o.there = true) : ∃ a, v = .ref a ∧ μ[n]? = some a ∧ RepO F μ L H a o ∧ ¬ L a := by
  cases r with
  | r m =>
    obtain ⟨x, y⟩ := R.obj n o _ e m al
    exact ⟨_, rfl, m, y, x⟩
theorem sh_of (R : Rel F μ L H st) {v : V} {w : W} {d : D} (r : RepW F μ L H v w) (e : vw st w = some d) : Sh F L H v d := by
  cases w with
  | p x => cases e; cases r with | p r => exact .d r
  | r n =>
    rw [vw] at e
    cases q : st[n]? with
    | none => rw [q] at e; cases e
    | some o =>
      rw [q] at e
      cases o with
      | dead => cases e
      | ins c fs => cases e
      | tup ws => cases e
      | lst ws =>
        obtain ⟨a, rfl, _, ⟨vs, h1, h2⟩, _⟩ := R.thg r q rfl
        cases z : unW ws with
        | none => simp only [z] at e; cases e
        | some ds => simp only [z] at e; cases e; exact .lst h1 (unW_reps h2 z)
      | dic ws =>
        obtain ⟨a, rfl, _, ⟨vs, h1, h2⟩, _⟩ := R.thg r q rfl
        cases z : unK ws with
        | none => simp only [z] at e; cases e
        | some ds => simp only [z] at e; cases e; exact .dic (.inl h1) (unK_reps h2 z)
      | dit ws =>
        obtain ⟨a, rfl, _, ⟨vs, h1, h2⟩, _⟩ := R.thg r q rfl
        cases z : unK ws with
        | none => simp only [z] at e; cases e
        | some ds => simp only [z] at e; cases e; exact .dit (.inl h1) (unT_reps h2 z)
      | ldk ws =>
        obtain ⟨a, rfl, _, ⟨vs, ⟨od, h1⟩, h2⟩, _⟩ := R.thg r q rfl
        cases z : unK ws with
        | none => simp only [z] at e; cases e
        | some ds => simp only [z] at e; cases e; exact .dic (.inr ⟨od, h1⟩) (unK_reps h2 z)
      | ldt ws =>
        obtain ⟨a, rfl, _, ⟨vs, ⟨od, h1⟩, h2⟩, _⟩ := R.thg r q rfl
        cases z : unK ws with
        | none => simp only [z] at e; cases e
        | some ds => simp only [z] at e; cases e; exact .dit (.inr ⟨od, h1⟩) (unT_reps h2 z)
theorem Sh.int {v : V} {i : Int} (h : Sh F L H v (.int i)) : v = .int i := by
  cases h with | d r => cases r; rfl
theorem Sh.str {v : V} {i : Str} (h : Sh F L H v (.str i)) : v = .str i := by
  cases h with | d r => cases r; rfl
theorem Sh.bl {v : V} {i : Bool} (h : Sh F L H v (.bl i)) : v = .bl i := by
  cases h with | d r => cases r; rfl
theorem Sh.non {v : V} (h : Sh F L H v .non) : v = .non := by
  cases h with | d r => cases r; rfl
theorem Sh.tup {v : V} {ds : List D} (h : Sh F L H v (.tup ds)) : ∃ a xs, v = .ref a ∧ H a = some (.tup xs) ∧ (L a ∨ a = a) ∧ RepDs F L H xs ds := by
  cases h with | d r => cases r with | tup hl f r => exact ⟨_, _, rfl, f, hl, r⟩
theorem Sh.lstI {v : V} {ds : List D} (h : Sh F L H v (.lst ds)) : ∃ a xs, v = .ref a ∧ H a = some (.lst xs) ∧ RepDs F L H xs ds := by
  cases h with
  | d r => cases r with | lst _ f r => exact ⟨_, _, rfl, f, r⟩
  | lst f r => exact ⟨_, _, rfl, f, r⟩
end
end T

set_option maxRecDepth 100000
set_option maxHeartbeats 4000000
/-! T: an empty tuple, repeated, or a tuple times one: it itself -/
namespace L2
open PySem PySem.Spec PyProof.Rows
theorem tuple_mul0 (l : Addr) (items : Array Value) (n : Nat) (dd : Option Addr) (sl : Array (Option Value)) (x : Int) (u : Tok) (c0 : (decide (x < -(2 ^ 63)) || decide (x ≥ 2 ^ 63)) = false) (c1 : (items.isEmpty || x == 1) = true) :
    Meets (Builtin.«tuple.__mul__» ⟨[.ref l, .int x u], []⟩) (fun _ R s => s.heap.get? l = some { cls := .type "tuple", dict := dd, data := .seq items n, slots := sl } ∧
      R (.ok (.ret (Value.ref l))) s) :=
  .of_wp fun prog w A R s h => by
    obtain ⟨hp, g, d, tk, os⟩ := s
    obtain ⟨hl, h⟩ := h
    have f1 := AutoSeq1.idx_int
    wp_walk using wpAny_loadPart' hl
    repeat (first
      | (refine wpAny_ite_false (decide_eq_false (by rw [c0]; exact Bool.false_ne_true)) ?_; wp_walk using wpAny_loadPart' hl)
      | (refine wpAny_ite_true (decide_eq_true c1) ?_; wp_walk using wpAny_loadPart' hl))
    exact ⟨_, rfl, h⟩
noncomputable def rRep0 (K : PySem.W.Frag) : R2 := fun x y H Q => ∃ l k vs, x = .ref l ∧ y = .int k ∧ SqT K H l vs ∧ (vs = [] ∨ k = 1) ∧ 1 ≤ k ∧ k ≤ 1000 ∧ Q (.ref l) H
section
variable {X : Cx}
theorem op_rep0 : OpR X (binaryOp .Mult) (rRep0 X.K) := by
  intro pins s σ H x y v u Q I rx ry h
  obtain ⟨l, k, vs, rfl, rfl, hT, hv, h1, h2, q⟩ := h
  cases rx
  obtain ⟨t, rfl⟩ := ry
  obtain ⟨its, r, ⟨⟨cls, dd, data, sl⟩, ho, hc, n, hd⟩, hs⟩ := I.tuple hT
  simp only at hc hd
  subst hc hd
  have c0 : (decide (k < -(2 ^ 63)) || decide (k ≥ 2 ^ 63)) = false := by
    rw [decide_eq_false (by omega), decide_eq_false (by omega)] <;> rfl
  refine wpAny_binaryOp_repeat_ref (T := "tuple") (U := "int") (by decide) ⟨_, ho, rfl⟩ (fun s' => typeIs_int s' k t) noFill_tuple_mul F.fills_int_mul F.slot_int_rmul repeat_tuple F.slot_int_index.lookup
    (call_meets F.slot_int_rmul (typeIs_int s k t) F.entry_int_rmul (F.args_int_rmul_2 _ _) (int_rmul_tuple k t l _ n dd sl)
      ⟨ho, rfl, ⟨_, ho, rfl⟩, call_meets F.slot_tuple_mul ⟨_, ho, rfl⟩ F.entry_tuple_mul (F.args_tuple_mul_2 _ _) (tuple_mul0 l _ n dd sl k t c0 (by
      rcases hv with e | e
      · subst e
        have hle : its.length = 0 := r.length.symm
        have hn : its = [] := List.eq_nil_of_length_eq_zero hle
        subst hn
        rfl
      · subst e
        rw [Bool.or_eq_true]
        exact .inr (by decide))) ⟨ho, ?_⟩⟩)
  exact ⟨.ref l, _, I, rfl, q⟩
end
end L2

set_option maxRecDepth 100000
set_option maxHeartbeats 4000000
/-! T: names, constants, operators, comparisons -/
namespace T
open PySem L2
section
variable {F : Fx} {Ew : XK} {X : Cx} {C : Call} {a b c : Ex} {ea eb ec : Expr} {pos : Pos}
theorem s_var {i : Nat} {x : Str} (hN : X.N[i]? = some x) (hv : Vis X.env.scope x) (hd : (x == ("__debug__" : Str)) = false) (hcd : (x == ("__classdict__" : Str)) = false) : PE X (.Name x pos) (tE F Ew (evE C (.var i))) :=
  (pe_var hN hv hd hcd).imp fun σ H Q ⟨μ, L, ρ, st, R, RE, h⟩ => by
    rw [evE] at h
    cases e : ρ[i]? with
    | none => rw [e] at h; exact h.elim
    | some o =>
      rw [e] at h
      cases o with
      | none => exact h.elim
      | some w =>
        obtain ⟨v, e', r⟩ := RE.2 i w e
        exact ⟨v, e', Post.here R h v r⟩
theorem s_val {d : D} {v : V} {e : Expr} (he : PE X e (tC v)) (r : ∀ L H, RepD F L H v d) : PE X e (tE F Ew (evE C (.con d))) :=
  he.imp fun σ H Q ⟨μ, L, ρ, st, R, RE, h⟩ => by
    rw [evE] at h
    exact Post.here R h v (.p (r L H))
theorem s_glo {d : D} {v : V} {x : Str} {u : Value} (hg : Gl X x) (hm : X.mg x = some u) (rv : RelV v u) (hd : (x == ("__debug__" : Str)) = false) (r : ∀ L H, RepD F L H v d) : PE X (.Name x pos) (tE F Ew (evE C (.glo x d))) :=
  (pe_glob hg hm rv hd).imp fun σ H Q ⟨μ, L, ρ, st, R, RE, h⟩ => by
    rw [evE] at h
    exact Post.here R h v (.p (r L H))

/-! ### operators -/
variable {μ : List Addr} {L : Addr → Prop} {H : Hp} {st : Sto} {G : VK}
abbrev PostD (F : Fx) (Ew : XK) (μ : List Addr) (L : Addr → Prop) (H : Hp) (st : Sto) (d : D) (G : VK) : Prop := Post F Ew μ L H st (.ok (W.p d) st) fun w μ' L' H' _ => ∀ v, RepW F μ' L' H' v w → G v H'
theorem reps_nil {xs : List V} {ds : List D} (r : RepDs F L H xs ds) : xs = [] ↔ ds = [] := by
  cases r <;> simp
theorem fin_int {i : Int} (R : Rel F μ L H st) (h : PostD F Ew μ L H st (.int i) G) : G (.int i) H := Post.here R h _ (.p (.int i))
theorem fin_bl {i : Bool} (R : Rel F μ L H st) (h : PostD F Ew μ L H st (.bl i) G) : G (.bl i) H := Post.here R h _ (.p (.bl i))
theorem fin_str {i : Str} (R : Rel F μ L H st) (h : PostD F Ew μ L H st (.str i) G) : G (.str i) H := Post.here R h _ (.p (.str i))
/-- a new tuple -/
theorem fin_tup {xs : List V} {ds : List D} {p : Addr} (R : Rel F μ L H st) (h : PostD F Ew μ L H st (.tup ds) G) (hp : H p = none) (r : RepDs F L H xs ds) : G (.ref p) (upd H p (.tup xs)) :=
  Post.val R h hp (.tup (.inr rfl) upd_same (RepDs.kp ((Ext.val (F := F) R hp).kp R) r))
/-- a new list that never changes -/
theorem fin_lst {xs : List V} {ds : List D} {p : Addr} (R : Rel F μ L H st) (h : PostD F Ew μ L H st (.lst ds) G) (hp : H p = none) (r : RepDs F L H xs ds) : G (.ref p) (upd H p (.lst xs)) :=
  Post.val R h hp (.lst (.inr rfl) upd_same (RepDs.kp ((Ext.val (F := F) R hp).kp R) r))
theorem lenOk_le {n : Nat} (h : lenOk n = true) : n ≤ sizeLine := Nat.le_trans (of_decide_eq_true h) (by decide)
noncomputable def rAdd (K : PySem.W.Frag) : R2 := fun x y H Q => (rI0 (fun i j => .int (i + j)) x y H Q ∨ (∃ i j, x = .str i ∧ y = .str j ∧ i.length + j.length ≤ sizeLine ∧ Q (.str (i ++ j)) H)) ∨ (rCatA K x y H Q ∨ rCat x y H Q)
theorem op_addT : OpR X (binaryOp .Add) (rAdd X.K) := (op_add.or op_add_str).or (op_catA.or op_cat)
theorem flat_rep {xs : List V} {ds : List D} (r : RepDs F L H xs ds) : ∀ k : Nat, RepDs F L H (List.replicate k xs).flatten (List.replicate k ds).flatten
  | 0 => by simp; exact .nil
  | k + 1 => by
    rw [List.replicate_succ, List.replicate_succ, List.flatten_cons, List.flatten_cons]
    exact r.append (flat_rep r k)
theorem mul_ok {i j : Int} (h : mulOk i j = true) : CMulW i j := by
  unfold CMulW
  exact of_decide_eq_true h
theorem div_ok {i j : Int} (h : divOk j = true) : CDivW i j := by
  rw [divOk, Bool.and_eq_true] at h
  exact ⟨of_decide_eq_true h.1, of_decide_eq_true h.2⟩
theorem pow_ok {i j : Int} (h : powOk i j = true) : CPow i j := by
  rw [powOk, Bool.and_eq_true, Bool.and_eq_true] at h
  exact ⟨of_decide_eq_true h.1.1, of_decide_eq_true h.1.2, of_decide_eq_true h.2⟩
noncomputable def rMul (K : PySem.W.Frag) : R2 := fun x y H Q => (rI CMulW (fun i j => .int (i * j)) x y H Q ∨ rRep x y H Q) ∨ (rRepT K x y H Q ∨ rRep0 K x y H Q)
theorem op_mulT : OpR X (binaryOp .Mult) (rMul X.K) := (op_mulW.or op_rep).or (op_repT.or op_rep0)
/-- the reading of an operator by what it comes to -/
noncomputable def rBin (K : PySem.W.Frag) : Bop → R2
  | .add => rAdd K
  | .sub => rI0 fun i j => .int (i - j)
  | .mul => rMul K
  | .fdiv => rI CDivW fun i j => .int (i / j)
  | .mod => rI (fun _ j => 0 < j) fun i j => .int (i % j)
  | .pow => rI CPow fun i j => .int (i ^ j.toNat)
noncomputable def opB : Bop → Operator
  | .add => .Add
  | .sub => .Sub
  | .mul => .Mult
  | .fdiv => .FloorDiv
  | .mod => .Mod
  | .pow => .Pow
theorem op_binT : ∀ o : Bop, OpR X (binaryOp (opB o)) (rBin X.K o)
  | .add => op_addT
  | .sub => op_sub
  | .mul => op_mulT
  | .fdiv => op_fdivW
  | .mod => op_mod
  | .pow => op_pow
theorem bin_ok {x y : V} {d e r : D} (R : Rel F μ L H st) (hx : Sh F L H x d) (hy : Sh F L H y e) : ∀ (o : Bop), binD o d e = some r → PostD F Ew μ L H st r G → rBin F.K o x y H G := by
  intro o h q
  cases o with
  | add =>
    cases d <;> cases e <;> try (simp only [binD, reduceCtorEq] at h; done)
    · rw [hx.int, hy.int]; cases h
      exact .inl (.inl ⟨_, _, rfl, rfl, fin_int R q⟩)
    · rw [hx.str, hy.str]
      simp only [binD] at h
      split at h
      · rename_i z
        cases h
        exact .inl (.inr ⟨_, _, rfl, rfl, lenOk_le z, fin_str R q⟩)
      · cases h
    · simp only [binD] at h
      split at h
      · rename_i z
        cases h
        obtain ⟨a, xs, rfl, f1, l1, r1⟩ := hx.tup
        obtain ⟨b, ys, rfl, f2, l2, r2⟩ := hy.tup
        refine .inr (.inl ⟨a, b, xs, ys, rfl, rfl, SqT.of f1, SqT.of f2, by rw [r1.length, r2.length]; exact lenOk_le z, fun e => ?_, fun _ e => ?_, fun _ _ p hp => fin_tup R q hp (r1.append r2)⟩)
        · have e1 := (reps_nil r1).mp e
          subst e1
          exact Post.here R q _ (.p (.tup l2 f2 r2))
        · have e1 := (reps_nil r2).mp e
          subst e1
          rw [List.append_nil] at q
          exact Post.here R q _ (.p (.tup l1 f1 r1))
      · cases h
    · simp only [binD] at h
      split at h
      · rename_i z
        cases h
        obtain ⟨a, xs, rfl, f1, r1⟩ := hx.lstI
        obtain ⟨b, ys, rfl, f2, r2⟩ := hy.lstI
        exact .inr (.inr ⟨a, b, xs, ys, rfl, rfl, f1, f2, by rw [r1.length, r2.length]; exact lenOk_le z, fun p hp => fin_lst R q hp (r1.append r2)⟩)
      · cases h
  | sub =>
    cases d <;> cases e <;> try (simp only [binD, reduceCtorEq] at h; done)
    rw [hx.int, hy.int]; cases h
    exact ⟨_, _, rfl, rfl, fin_int R q⟩
  | mul =>
    cases d <;> cases e <;> try (simp only [binD, reduceCtorEq] at h; done)
    · simp only [binD] at h
      split at h
      · rename_i z
        cases h
        rw [hx.int, hy.int]
        exact .inl (.inl ⟨_, _, rfl, rfl, mul_ok z, fin_int R q⟩)
      · cases h
    · simp only [binD] at h
      split at h
      · rename_i z
        cases h
        rw [hy.int]
        obtain ⟨a, xs, rfl, f1, l1, r1⟩ := hx.tup
        simp only [Bool.and_eq_true, decide_eq_true_eq] at z
        by_cases e : xs = []
        · have e1 := (reps_nil r1).mp e
          subst e e1
          refine .inr (.inr ⟨a, _, _, rfl, rfl, SqT.of f1, .inl rfl, z.1.1, z.1.2, ?_⟩)
          rw [show ∀ k : Nat, (List.replicate k ([] : List D)).flatten = [] from fun k => by induction k with
            | zero => rfl
            | succ k ih => rw [List.replicate_succ, List.flatten_cons, ih]; rfl] at q
          exact Post.here R q _ (.p (.tup l1 f1 r1))
        · rcases Int.lt_or_eq_of_le z.1.1 with k1 | k1
          case inr =>
            subst k1
            have e2 : ∀ ds : List D, (List.replicate (1 : Int).toNat ds).flatten = ds := fun ds => List.append_nil ds
            rw [e2] at q
            exact .inr (.inr ⟨a, _, _, rfl, rfl, SqT.of f1, .inr rfl, by decide, by decide, Post.here R q _ (.p (.tup l1 f1 r1))⟩)
          exact .inr (.inl ⟨a, _, xs, rfl, rfl, SqT.of f1, e, k1, z.1.2, by rw [r1.length]; exact z.2, fun p hp => fin_tup R q hp (flat_rep r1 _)⟩)
      · cases h
    · simp only [binD] at h
      split at h
      · rename_i z
        cases h
        rw [hy.int]
        obtain ⟨a, xs, rfl, f1, r1⟩ := hx.lstI
        rw [repOk, Bool.and_eq_true, Bool.and_eq_true] at z
        exact .inl (.inr ⟨a, _, xs, rfl, rfl, f1, of_decide_eq_true z.1.1, of_decide_eq_true z.1.2, by rw [r1.length]; exact Nat.le_trans (of_decide_eq_true z.2) (by decide), fun p hp => fin_lst R q hp (flat_rep r1 _)⟩)
      · cases h
  | fdiv =>
    cases d <;> cases e <;> try (simp only [binD, reduceCtorEq] at h; done)
    simp only [binD] at h
    split at h
    · rename_i z
      cases h
      rw [hx.int, hy.int]
      exact ⟨_, _, rfl, rfl, div_ok z, fin_int R q⟩
    · cases h
  | mod =>
    cases d <;> cases e <;> try (simp only [binD, reduceCtorEq] at h; done)
    simp only [binD] at h
    split at h
    · rename_i z
      cases h
      rw [hx.int, hy.int]
      exact ⟨_, _, rfl, rfl, of_decide_eq_true z, fin_int R q⟩
    · cases h
  | pow =>
    cases d <;> cases e <;> try (simp only [binD, reduceCtorEq] at h; done)
    simp only [binD] at h
    split at h
    · rename_i z
      cases h
      rw [hx.int, hy.int]
      exact ⟨_, _, rfl, rfl, pow_ok z, fin_int R q⟩
    · cases h
theorem s_bin (o : Bop) (hK : X.K = F.K) (ha : PE X ea (tE F Ew (evE C a))) (hb : PE X eb (tE F Ew (evE C b))) : PE X (.BinOp ea (opB o) eb pos) (tE F Ew (evE C (.bin o a b))) :=
  (pe_op (op_binT o) ha hb).imp fun σ H Q ⟨μ, L, ρ, st, R, RE, h⟩ => by
    rw [evE] at h
    refine in_E R RE h fun x v μ1 L1 H1 st1 e1 R1 RE1 r1 h1 => ?_
    refine in_E R1 RE1 h1 fun y u μ2 L2 H2 st2 e2 R2 RE2 r2 h2 => ?_
    cases q1 : vw st2 x with
    | none => simp only [q1] at h2; exact h2.elim
    | some d1 =>
      cases q2 : vw st2 y with
      | none => simp only [q1, q2] at h2; exact h2.elim
      | some d2 =>
        simp only [q1, q2] at h2
        cases q3 : binD o d1 d2 with
        | none => rw [q3] at h2; exact h2.elim
        | some d =>
          rw [q3] at h2
          rw [hK]
          exact bin_ok R2 (sh_of R2 (e2.wv R1 r1) q1) (sh_of R2 r2 q2) o q3 h2
theorem s_neg (ha : PE X ea (tE F Ew (evE C a))) : PE X (.UnaryOp .USub ea pos) (tE F Ew (evE C (.neg a))) :=
  (pe_un un_neg ha).imp fun σ H Q ⟨μ, L, ρ, st, R, RE, h⟩ => by
    rw [evE] at h
    refine in_E R RE h fun x v μ1 L1 H1 st1 e1 R1 RE1 r1 h1 => ?_
    cases r1 with
    | r m => exact h1.elim
    | p r =>
      cases r <;> first
        | exact h1.elim
        | exact ⟨_, rfl, fin_int R1 h1⟩

/-! ### and, or, not as values; if else -/
theorem s_and1 {es : List Expr} {p : Pos} (ha : PE X ea (tE F Ew (evE C a))) (hb : PE X (.BoolOp .And (eb :: es) pos) (tE F Ew (evE C b))) : PE X (.BoolOp .And (ea :: eb :: es) pos) (tE F Ew (evE C (.and a b))) :=
  (pe_and ha hb).imp fun σ H Q ⟨μ, L, ρ, st, R, RE, h⟩ => by
    rw [evE] at h
    refine in_E R RE h fun x v μ1 L1 H1 st1 e1 R1 RE1 r1 h1 => ?_
    cases r1 with
    | r m => exact h1.elim
    | p r =>
      cases r <;> try (exact h1.elim)
      rename_i k
      refine ⟨k, rfl, ?_⟩
      cases k with
      | true => exact ⟨μ1, L1, ρ, st1, R1, RE1, h1⟩
      | false => exact fin_bl R1 h1
theorem s_or1 {es : List Expr} {p : Pos} (ha : PE X ea (tE F Ew (evE C a))) (hb : PE X (.BoolOp .Or (eb :: es) pos) (tE F Ew (evE C b))) : PE X (.BoolOp .Or (ea :: eb :: es) pos) (tE F Ew (evE C (.or a b))) :=
  (pe_orT ha hb).imp fun σ H Q ⟨μ, L, ρ, st, R, RE, h⟩ => by
    rw [evE] at h
    refine in_E R RE h fun x v μ1 L1 H1 st1 e1 R1 RE1 r1 h1 => ?_
    cases r1 with
    | r m => exact h1.elim
    | p r =>
      cases r <;> try (exact h1.elim)
      · rename_i k
        refine ⟨k, rfl, ?_⟩
        cases k with
        | false => exact ⟨μ1, L1, ρ, st1, R1, RE1, h1⟩
        | true => exact fin_bl R1 h1
      · rename_i a xs ds hL ht rs
        refine ⟨!xs.isEmpty, .inr (.inl ⟨xs, .inl (.inl ht), rfl⟩), ?_⟩
        cases rs with
        | nil => exact ⟨μ1, L1, ρ, st1, R1, RE1, h1⟩
        | cons r rs => exact Post.here R1 h1 _ (.p (.tup hL ht (.cons r rs)))
theorem s_not (ha : PE X ea (tE F Ew (evE C a))) : PE X (.UnaryOp .Not ea pos) (tE F Ew (evE C (.not a))) :=
  (pe_not ha).imp fun σ H Q ⟨μ, L, ρ, st, R, RE, h⟩ => by
    rw [evE] at h
    refine in_E R RE h fun x v μ1 L1 H1 st1 e1 R1 RE1 r1 h1 => ?_
    cases r1 with
    | r m => exact h1.elim
    | p r =>
      cases r <;> first
        | exact h1.elim
        | exact ⟨_, rfl, fin_bl R1 h1⟩
theorem s_ite (hc : PT X ec (tT F Ew (evT C c))) (ha : PE X ea (tE F Ew (evE C a))) (hb : PE X eb (tE F Ew (evE C b))) : PE X (.IfExp ec ea eb pos) (tE F Ew (evE C (.ite c a b))) :=
  (pe_ifExp hc ha hb).imp fun σ H Q ⟨μ, L, ρ, st, R, RE, h⟩ => by
    rw [evE] at h
    refine in_T R RE h fun k μ1 L1 H1 st1 e1 R1 RE1 h1 => ?_
    cases k with
    | true => exact ⟨μ1, L1, ρ, st1, R1, RE1, h1⟩
    | false => exact ⟨μ1, L1, ρ, st1, R1, RE1, h1⟩

/-! ### tests -/
theorem t_and1 {es : List Expr} (ha : PT X ea (tT F Ew (evT C a))) (hb : PW X (.BoolOp .And (eb :: es) pos) (tT F Ew (evT C b))) : PW X (.BoolOp .And (ea :: eb :: es) pos) (tT F Ew (evT C (.and a b))) :=
  (pw_and ha hb).imp fun σ H Q ⟨μ, L, ρ, st, R, RE, h⟩ => by
    rw [evT] at h
    refine in_T R RE h fun k μ1 L1 H1 st1 e1 R1 RE1 h1 => ?_
    cases k with
    | true => exact ⟨μ1, L1, ρ, st1, R1, RE1, h1⟩
    | false => exact Post.here R1 h1
theorem t_or1 {es : List Expr} (ha : PT X ea (tT F Ew (evT C a))) (hb : PW X (.BoolOp .Or (eb :: es) pos) (tT F Ew (evT C b))) : PW X (.BoolOp .Or (ea :: eb :: es) pos) (tT F Ew (evT C (.or a b))) :=
  (pw_or ha hb).imp fun σ H Q ⟨μ, L, ρ, st, R, RE, h⟩ => by
    rw [evT] at h
    refine in_T R RE h fun k μ1 L1 H1 st1 e1 R1 RE1 h1 => ?_
    cases k with
    | false => exact ⟨μ1, L1, ρ, st1, R1, RE1, h1⟩
    | true => exact Post.here R1 h1
theorem t_not (ha : PT X ea (tT F Ew (evT C a))) : PT X (.UnaryOp .Not ea pos) (tT F Ew (evT C (.not a))) :=
  (pt_not ha).imp fun σ H Q ⟨μ, L, ρ, st, R, RE, h⟩ => by
    rw [evT] at h
    exact in_T R RE h fun k μ1 L1 H1 st1 e1 R1 RE1 h1 => Post.here R1 h1
/-- what evT does with any other term -/
noncomputable def evTV (C : Call) (a : Ex) (ρ : Nv) (st : Sto) : Res Bool := (evE C a ρ st).bind fun x st => ofO st (truW st x)
theorem t_val (hK : X.K = F.K) (ha : PE X ea (tE F Ew (evE C a))) (he : ∀ whole, isTrue ea X.env whole = (do let v ← whole; standAt ea.pos; holding [v] (truthy v))) : PT X ea (tT F Ew (evTV C a)) :=
  (pt_truth ha he).imp fun σ H Q ⟨μ, L, ρ, st, R, RE, h⟩ => by
    rw [evTV] at h
    refine in_E R RE h fun x v μ1 L1 H1 st1 e1 R1 RE1 r1 h1 => ?_
    cases r1 with
    | r m => exact h1.elim
    | p r =>
      cases r <;> try (exact h1.elim)
      · exact ⟨false, rfl, Post.here R1 h1⟩
      · rename_i k
        exact ⟨k, rfl, Post.here R1 h1⟩
      · exact ⟨_, rfl, Post.here R1 h1⟩
      · simp only [truW, truD] at h1
        split at h1
        · rename_i z
          exact ⟨_, ⟨z, rfl⟩, Post.here R1 h1⟩
        · exact h1.elim
end
end T

set_option maxRecDepth 100000
set_option maxHeartbeats 4000000
/-! T: == and != of tuples, lists and dicts that show the same, whatever lies in them -/
namespace T
open PySem L2 PySem.Spec PyProof.Rows PySem.SeqAt
section
variable {P : Program} {w : World}
open AutoSeq1 in
/-- two tuples whose things are equal one by one -/
theorem tup_eqP (p q : Addr) (us vs : Array Value) (m n : Nat) (dp dq : Option Addr) (sp sq : Array (Option Value)) (same : us.size = vs.size) :
    MeetsIn P w (Builtin.«tuple.__eq__» ⟨[.ref p, .ref q], []⟩) (fun A R s => s.heap.get? p = some { cls := .type "tuple", dict := dp, data := .seq us m, slots := sp } ∧ s.heap.get? q = some { cls := .type "tuple", dict := dq, data := .seq vs n, slots := sq } ∧
      (∀ j (h1 : j < us.size) (h2 : j < vs.size), EqP P w A.in1 s us[j] vs[j] true) ∧ R (.ok (.ret (.bool true))) s) :=
  .of_wp fun A R s want => by
    obtain ⟨hp, gs, dd, tk, os⟩ := s
    obtain ⟨at_p, at_q, each, want⟩ := want
    have sub := AutoSeq1.sub_tuple_tuple
    have many : (us.toList.zip vs.toList).length = us.size := by simp [same]
    wp_walk using wpAny_loadPart' at_p, wpAny_loadPart' at_q, wpAny_forIn_list _ (fun rest b s' => b.1 = none ∧ s' = ⟨hp, gs, dd, tk, os⟩ ∧ ∃ i, rest = (us.toList.zip vs.toList).drop i) _
    case turn =>
      rintro ⟨x, y⟩ rest b s' ⟨none_, rfl, i, at_i⟩
      have low : i < (us.toList.zip vs.toList).length := by
        apply Classical.byContradiction
        intro z
        rw [List.drop_of_length_le (Nat.le_of_not_lt z)] at at_i
        cases at_i
      have l1 : i < us.size := many ▸ low
      have l2 : i < vs.size := same ▸ l1
      rw [List.drop_eq_getElem_cons low] at at_i
      injection at_i with pair tail
      obtain ⟨rfl, rfl⟩ : x = us[i] ∧ y = vs[i] := ⟨by simpa using congrArg Prod.fst pair, by simpa using congrArg Prod.snd pair⟩
      refine wpAny_bind (each i l1 l2 _ _ ?_)
      wp_walk
      exact ⟨rfl, rfl, i + 1, tail⟩
    case fin =>
      rintro ⟨b1, b2⟩ s' ⟨none_, rfl, i, _⟩
      simp only at none_
      subst none_
      wp_walk
      exact ⟨_, rfl, by simpa [Builtin.Tuple.tupleCompareSizes, same] using want⟩
    case h => exact ⟨rfl, rfl, 0, rfl⟩
open AutoSeq1 in
theorem tup_neP (p q : Addr) (us vs : Array Value) (m n : Nat) (dp dq : Option Addr) (sp sq : Array (Option Value)) (same : us.size = vs.size) :
    MeetsIn P w (Builtin.«tuple.__ne__» ⟨[.ref p, .ref q], []⟩) (fun A R s => s.heap.get? p = some { cls := .type "tuple", dict := dp, data := .seq us m, slots := sp } ∧ s.heap.get? q = some { cls := .type "tuple", dict := dq, data := .seq vs n, slots := sq } ∧
      (∀ j (h1 : j < us.size) (h2 : j < vs.size), EqP P w A.in1 s us[j] vs[j] true) ∧ R (.ok (.ret (.bool false))) s) :=
  .of_wp fun A R s want => by
    obtain ⟨hp, gs, dd, tk, os⟩ := s
    obtain ⟨at_p, at_q, each, want⟩ := want
    have sub := AutoSeq1.sub_tuple_tuple
    have many : (us.toList.zip vs.toList).length = us.size := by simp [same]
    wp_walk using wpAny_loadPart' at_p, wpAny_loadPart' at_q, wpAny_forIn_list _ (fun rest b s' => b.1 = none ∧ s' = ⟨hp, gs, dd, tk, os⟩ ∧ ∃ i, rest = (us.toList.zip vs.toList).drop i) _
    case turn =>
      rintro ⟨x, y⟩ rest b s' ⟨none_, rfl, i, at_i⟩
      have low : i < (us.toList.zip vs.toList).length := by
        apply Classical.byContradiction
        intro z
        rw [List.drop_of_length_le (Nat.le_of_not_lt z)] at at_i
        cases at_i
      have l1 : i < us.size := many ▸ low
      have l2 : i < vs.size := same ▸ l1
      rw [List.drop_eq_getElem_cons low] at at_i
      injection at_i with pair tail
      obtain ⟨rfl, rfl⟩ : x = us[i] ∧ y = vs[i] := ⟨by simpa using congrArg Prod.fst pair, by simpa using congrArg Prod.snd pair⟩
      refine wpAny_bind (each i l1 l2 _ _ ?_)
      wp_walk
      exact ⟨rfl, rfl, i + 1, tail⟩
    case fin =>
      rintro ⟨b1, b2⟩ s' ⟨none_, rfl, i, _⟩
      simp only at none_
      subst none_
      wp_walk
      exact ⟨_, rfl, by simpa [Builtin.Tuple.tupleCompareSizes, same, bne] using want⟩
    case h => exact ⟨rfl, rfl, 0, rfl⟩
variable {A : Around} {s : Shared}
theorem rc_tup {p q : Addr} {us vs : Array Value} (hp : s.heap.IsTuple p us) (hq : s.heap.IsTuple q vs) (same : us.size = vs.size) (hu : A.units < cLine) (each : ∀ j (h1 : j < us.size) (h2 : j < vs.size), EqP P w A.in1 s us[j] vs[j] true)
    (E Q : Value → Shared → Prop) (want : Q (.bool true) s) : wpAny (model P w) A (richCompare .Eq (.ref p) (.ref q)) Q E s := by
  obtain ⟨⟨c1, d1, x1, s1⟩, o1, rfl, n1, y1⟩ := id hp
  obtain ⟨⟨c2, d2, x2, s2⟩, o2, rfl, n2, y2⟩ := id hq
  simp only at y1 y2
  subst y1 y2
  have t1 : s.TypeIs (.ref p) "tuple" := ⟨_, o1, rfl⟩
  have t2 : s.TypeIs (.ref q) "tuple" := ⟨_, o2, rfl⟩
  exact wpAny_richCompare_same_room (op := .Eq) t1 t2 F.slot_tuple_eq (call_meetsIn F.slot_tuple_eq t1 F.entry_tuple_eq (F.args_tuple_eq_2 _ _) (tup_eqP p q us vs n1 n2 d1 d2 s1 s2 same) ⟨o1, o2, each, show Value.bool true ≠ Value.notImplemented ∧ Q (.bool true) s from ⟨nofun, want⟩⟩) hu
theorem rc_tupN {p q : Addr} {us vs : Array Value} (hp : s.heap.IsTuple p us) (hq : s.heap.IsTuple q vs) (same : us.size = vs.size) (hu : A.units < cLine) (each : ∀ j (h1 : j < us.size) (h2 : j < vs.size), EqP P w A.in1 s us[j] vs[j] true)
    (E Q : Value → Shared → Prop) (want : Q (.bool false) s) : wpAny (model P w) A (richCompare .NotEq (.ref p) (.ref q)) Q E s := by
  obtain ⟨⟨c1, d1, x1, s1⟩, o1, rfl, n1, y1⟩ := id hp
  obtain ⟨⟨c2, d2, x2, s2⟩, o2, rfl, n2, y2⟩ := id hq
  simp only at y1 y2
  subst y1 y2
  have t1 : s.TypeIs (.ref p) "tuple" := ⟨_, o1, rfl⟩
  have t2 : s.TypeIs (.ref q) "tuple" := ⟨_, o2, rfl⟩
  exact wpAny_richCompare_same_room (op := .NotEq) t1 t2 F.slot_tuple_ne (call_meetsIn F.slot_tuple_ne t1 F.entry_tuple_ne (F.args_tuple_ne_2 _ _) (tup_neP p q us vs n1 n2 d1 d2 s1 s2 same) ⟨o1, o2, each, show Value.bool false ≠ Value.notImplemented ∧ Q (.bool false) s from ⟨nofun, want⟩⟩) hu
theorem rc_dicN {K : Type} [DecidableEq K] {knd : KeyKind P w K} {p q : Addr} {ka kb : List (K × Value)} (hp : (p == sysModules) = false) (hq : (q == sysModules) = false) (dp : s.heap.DictOf knd p ka) (dq : s.heap.DictOf knd q kb) (hu : A.units < cLine)
    (len : ka.length = kb.length) (hits : PySem.W.KeqHitsP P w A.in1 s kb ka true) (E Q : Value → Shared → Prop) (want : Q (.bool false) s) : wpAny (model P w) A (richCompare .NotEq (.ref p) (.ref q)) Q E s := by
  refine wpAny_richCompare_same_room (op := .NotEq) dp.typeIs dq.typeIs PySem.F.slot_dict_ne (wpAny_call_entry PySem.F.slot_dict_ne dp.typeIs PySem.F.entry_dict_ne ?_ (PySem.F.args_dict_ne_2 _ _)) hu
  show wpAny _ _ (Builtin.Dict.dictSlotArgs "__ne__" ⟨[.ref p, .ref q], []⟩ >>= _) _ _ s
  refine wpAny_bind ?_
  unfold Builtin.Dict.dictSlotArgs
  refine wpAny_bind (wpAny_notOrdered_dict dp.typeIs ?_)
  show wpAny _ _ (pure (Value.ref p, Value.ref q)) _ _ s
  refine wpAny_pure (wpAny_bind (wpAny_isInstance (T := "dict") dq.typeIs PySem.F.sub_dict_dict ?_))
  simp only [Bool.not_true, Bool.false_eq_true, if_false]
  refine wpAny_bind (wpAny_pure (wpAny_bind (wpAny_pure ?_)))
  refine wpAny_bind (PySem.W.samePairsP (r := true) hp hq dp dq (fun _ => hits) ?_)
  have e : (ka.length == kb.length && true) = true := by rw [len]; simp
  rw [e]
  exact wpAny_pure ⟨_, rfl, nofun, want⟩
end
/-! ### what shows the same -/
/-- plain data that are equal -/
noncomputable def EqLf (K : PySem.W.Frag) (H : Hp) (x y : V) : Prop := ∃ d e, Dp K H x d ∧ Dp K H y e ∧ d.plain = true ∧ e.plain = true ∧ d.depth ≤ 50 ∧ PyData.eqv d e = true
noncomputable def EqSt (K : PySem.W.Frag) (H : Hp) (E : V → V → Prop) (x y : V) : Prop :=
  (∃ a b xs ys, x = .ref a ∧ y = .ref b ∧ SqT K H a xs ∧ SqT K H b ys ∧ Paired E xs ys) ∨
  (∃ a b xs ys, x = .ref a ∧ y = .ref b ∧ SqL K H a xs ∧ SqL K H b ys ∧ Paired E xs ys) ∨
    ∃ a b ks ls, x = .ref a ∧ y = .ref b ∧ Rd H a (.dK ks) ∧ Rd H b (.dK ls) ∧ ks.length = ls.length ∧ ∀ p ∈ ks, ∃ u, valV ls p.1 = some u ∧ E p.2 u
/-- .. no lists -/
noncomputable def EqNl (K : PySem.W.Frag) (H : Hp) (E : V → V → Prop) (x y : V) : Prop :=
  (∃ a b xs ys, x = .ref a ∧ y = .ref b ∧ SqT K H a xs ∧ SqT K H b ys ∧ Paired E xs ys) ∨
    ∃ a b ks ls, x = .ref a ∧ y = .ref b ∧ Rd H a (.dK ks) ∧ Rd H b (.dK ls) ∧ ks.length = ls.length ∧ ∀ p ∈ ks, ∃ u, valV ls p.1 = some u ∧ E p.2 u
theorem EqNl.st {K : PySem.W.Frag} {H : Hp} {E : V → V → Prop} {x y : V} (h : EqNl K H E x y) : EqSt K H E x y := h.elim .inl fun z => .inr (.inr z)
noncomputable def EqTh (K : PySem.W.Frag) (H : Hp) : Nat → V → V → Prop
  | 0 => fun _ _ => False
  | n + 1 => fun x y => EqLf K H x y ∨ EqSt K H (EqTh K H n) x y
section
variable {X : Cx} {pins : List (Addr × Obj)} {σ : L2.St} {H : Hp} {s : Shared}
theorem eqSt_run (I : Inv X pins σ H s) {A : Around} {G : V → V → Prop} (hu : A.units < cLine) (ih : ∀ x y v u, G x y → RelV x v → RelV y u → EqP X.prog X.w A.in1 s v u true) {x y : V} {v u : Value} (h : EqSt X.K H G x y) (rx : RelV x v) (ry : RelV y u) :
    (∀ (E Q : Value → Shared → Prop), Q (.bool true) s → wpAny (model X.prog X.w) A (richCompare .Eq v u) Q E s) ∧ ∃ a b, x = .ref a ∧ y = .ref b := by
  rcases h with ⟨a, b, xs, ys, rfl, rfl, ha, hb, hp⟩ | ⟨a, b, xs, ys, rfl, rfl, ha, hb, hp⟩ | ⟨a, b, ks, ls, rfl, rfl, ha, hb, hl, hp⟩
  · refine ⟨?_, a, b, rfl, rfl⟩
    cases (show v = Value.ref a from rx)
    cases (show u = Value.ref b from ry)
    obtain ⟨us, r1, p1, _⟩ := I.tuple ha
    obtain ⟨ws, r2, p2, _⟩ := I.tuple hb
    have same : us.toArray.size = ws.toArray.size := by
      rw [List.size_toArray, List.size_toArray, ← r1.length, ← r2.length]
      exact Paired.length hp
    exact rc_tup (show s.heap.IsTuple a us.toArray from p1) (show s.heap.IsTuple b ws.toArray from p2) same hu fun j h1 h2 => by
      have k := items_run ih hp r1 r2 j (by simpa using h1) (by simpa using h2)
      simpa using k
  · refine ⟨?_, a, b, rfl, rfl⟩
    cases (show v = Value.ref a from rx)
    cases (show u = Value.ref b from ry)
    obtain ⟨us, r1, p1, _⟩ := I.list ha
    obtain ⟨ws, r2, p2, _⟩ := I.list hb
    have same : us.toArray.size = ws.toArray.size := by
      rw [List.size_toArray, List.size_toArray, ← r1.length, ← r2.length]
      exact Paired.length hp
    intro E Q q
    refine SeqAt.rcP_lists (e := fun _ => true) p1.isList p2.isList same hu (fun j h1 h2 => ?_) E Q ?_
    · have k := items_run ih hp r1 r2 j (by simpa using h1) (by simpa using h2)
      simpa using k
    · rw [show ((List.range us.toArray.size).all fun _ => true) = true from List.all_eq_true.mpr fun _ _ => rfl]
      exact q
  · refine ⟨?_, a, b, rfl, rfl⟩
    cases (show v = Value.ref a from rx)
    cases (show u = Value.ref b from ry)
    obtain ⟨_, ya, va, ra, da⟩ := dk_rd I.hok ha
    obtain ⟨_, yb, vb, rb, db⟩ := dk_rd I.hok hb
    intro E Q q
    refine PySem.W.rcP_dicts (knd := mixKind X.prog X.w) (r := true) ya yb da db hu (fun _ => hits_run ih rb ra hp) E Q ?_
    have e : va.length = vb.length := by rw [← ra.length, ← rb.length]; exact hl
    rw [show (va.length == vb.length && true) = true from by rw [e]; simp]
    exact q
theorem eqTh_run (I : Inv X pins σ H s) : ∀ (n : Nat) (A : Around), A.units + n + 50 < cLine → ∀ (x y : V) (v u : Value), EqTh X.K H n x y → RelV x v → RelV y u → EqP X.prog X.w A s v u true
  | 0, _, _, _, _, _, _, h, _, _ => (show False from h).elim
  | n + 1, A, hu, x, y, v, u, h, rx, ry => by
    rcases h with ⟨d, e, hd, he, sd, se, hl, k⟩ | h
    · obtain ⟨as, r1⟩ := Dp.reads I d x v hd rx
      obtain ⟨bs, r2⟩ := Dp.reads I e y u he ry
      have := SeqAt.eqAt_plain d e A s v u as bs r1 r2 sd se (by have := Nat.min_le_left d.depth e.depth; omega)
      rw [k] at this
      exact this.eqP
    · obtain ⟨step, a, b, rfl, rfl⟩ := eqSt_run I (A := A) (by omega) (eqTh_run I n A.in1 (by show A.units + 1 + n + 50 < cLine; omega)) h rx ry
      cases (show v = Value.ref a from rx)
      cases (show u = Value.ref b from ry)
      by_cases e : a = b
      · subst e
        exact (SeqAt.EqAt.same _).eqP
      · exact SeqAt.eqP_refs e step
theorem neSt_run (I : Inv X pins σ H s) {A : Around} {G : V → V → Prop} (hu : A.units < cLine) (ih : ∀ x y v u, G x y → RelV x v → RelV y u → EqP X.prog X.w A.in1 s v u true) {x y : V} {v u : Value} (h : EqNl X.K H G x y) (rx : RelV x v) (ry : RelV y u)
    (E Q : Value → Shared → Prop) (q : Q (.bool false) s) : wpAny (model X.prog X.w) A (richCompare .NotEq v u) Q E s := by
  rcases h with ⟨a, b, xs, ys, rfl, rfl, ha, hb, hp⟩ | ⟨a, b, ks, ls, rfl, rfl, ha, hb, hl, hp⟩
  · cases (show v = Value.ref a from rx)
    cases (show u = Value.ref b from ry)
    obtain ⟨us, r1, p1, _⟩ := I.tuple ha
    obtain ⟨ws, r2, p2, _⟩ := I.tuple hb
    have same : us.toArray.size = ws.toArray.size := by
      rw [List.size_toArray, List.size_toArray, ← r1.length, ← r2.length]
      exact Paired.length hp
    exact rc_tupN (show s.heap.IsTuple a us.toArray from p1) (show s.heap.IsTuple b ws.toArray from p2) same hu (fun j h1 h2 => by
      have k := items_run ih hp r1 r2 j (by simpa using h1) (by simpa using h2)
      simpa using k) E Q q
  · cases (show v = Value.ref a from rx)
    cases (show u = Value.ref b from ry)
    obtain ⟨_, ya, va, ra, da⟩ := dk_rd I.hok ha
    obtain ⟨_, yb, vb, rb, db⟩ := dk_rd I.hok hb
    exact rc_dicN (knd := mixKind X.prog X.w) ya yb da db hu (by rw [← ra.length, ← rb.length]; exact hl) (hits_run ih rb ra hp) E Q q
end
section
variable {X : Cx}
noncomputable def rEqTh (K : PySem.W.Frag) : R2 := fun x y H Q => ∃ n, n ≤ 8 ∧ EqSt K H (EqTh K H n) x y ∧ Q (.bl true) H
noncomputable def rNeTh (K : PySem.W.Frag) : R2 := fun x y H Q => ∃ n, n ≤ 8 ∧ EqNl K H (EqTh K H n) x y ∧ Q (.bl false) H
theorem op_eqTh (hu : X.A.units + 66 < cLine) : OpR X (compareOp .Eq) (rEqTh X.K) := by
  intro pins s σ H x y v u Q I rx ry h
  obtain ⟨n, hn, h, q⟩ := h
  exact (eqSt_run I (A := X.A) (by omega) (eqTh_run I n X.A.in1 (by show X.A.units + 1 + n + 50 < cLine; omega)) h rx ry).1 _ _ ⟨.bl true, H, I, rfl, q⟩
theorem op_neTh (hu : X.A.units + 66 < cLine) : OpR X (compareOp .NotEq) (rNeTh X.K) := by
  intro pins s σ H x y v u Q I rx ry h
  obtain ⟨n, hn, h, q⟩ := h
  exact neSt_run I (A := X.A) (by omega) (eqTh_run I n X.A.in1 (by show X.A.units + 1 + n + 50 < cLine; omega)) h rx ry _ _ ⟨.bl false, H, I, rfl, q⟩
end
end T

set_option maxRecDepth 100000
set_option maxHeartbeats 4000000
/-! T: comparisons -/
namespace T
open PySem L2
section
variable {X : Cx}
noncomputable def rEqP (K : PySem.W.Frag) : R2 := fun x y H Q => ∃ d e, Dp K H x d ∧ Dp K H y e ∧ d.plain = true ∧ e.plain = true ∧ d.depth ≤ 64 ∧ Q (.bl (PyData.eqv d e)) H
noncomputable def rNeP (K : PySem.W.Frag) : R2 := fun x y H Q => ∃ d e, Dp K H x d ∧ Dp K H y e ∧ d.plain = true ∧ e.plain = true ∧ d.depth ≤ 64 ∧ Q (.bl (!PyData.eqv d e)) H
theorem op_eqP (hu : X.A.units + 66 < cLine) : OpR X (compareOp .Eq) (rEqP X.K) := by
  intro pins s σ H x y v u Q I rx ry h
  obtain ⟨d, e, hd, he, sd, se, hl, q⟩ := h
  obtain ⟨as, r1⟩ := Dp.reads I d x v hd rx
  obtain ⟨bs, r2⟩ := Dp.reads I e y u he ry
  exact SeqAt.eq_plain r1 r2 sd se (by have := Nat.min_le_left d.depth e.depth; omega) ⟨.bl _, H, I, rfl, q⟩
theorem op_neP (hu : X.A.units + 66 < cLine) : OpR X (compareOp .NotEq) (rNeP X.K) := by
  intro pins s σ H x y v u Q I rx ry h
  obtain ⟨d, e, hd, he, sd, se, hl, q⟩ := h
  obtain ⟨as, r1⟩ := Dp.reads I d x v hd rx
  obtain ⟨bs, r2⟩ := Dp.reads I e y u he ry
  exact SeqAt.ne_plain r1 r2 sd se (by have := Nat.min_le_left d.depth e.depth; omega) ⟨.bl _, H, I, rfl, q⟩
noncomputable def rInP (K : PySem.W.Frag) (n : Bool) : R2 := fun x y H Q => ∃ d e ds, Dp K H x d ∧ Dp K H y e ∧ itemsPy e = some ds ∧ d.plain = true ∧ e.plain = true ∧ d.depth ≤ 64 ∧ Q (.bl (if n then !(ds.any fun z => PyData.eqv z d) else ds.any fun z => PyData.eqv z d)) H
theorem itemsPy_cases {e : PyData} {ds : List PyData} (h : itemsPy e = some ds) : e = .list ds ∨ e = .tuple ds := by
  cases e <;> first
    | (simp only [itemsPy, reduceCtorEq] at h; done)
    | (cases h; exact .inl rfl)
    | (cases h; exact .inr rfl)
theorem op_inP (hu : X.A.units + 66 < cLine) : OpR X (compareOp .In) (rInP X.K false) := by
  intro pins s σ H x y v u Q I rx ry h
  obtain ⟨d, e, ds, hd, he, hi, sd, se, hl, q⟩ := h
  obtain ⟨as, r1⟩ := Dp.reads I d x v hd rx
  obtain ⟨bs, r2⟩ := Dp.reads I e y u he ry
  have hm := Nat.min_le_right (PyData.depthAll ds) d.depth
  rcases itemsPy_cases hi with rfl | rfl
  · exact SeqAt.in_list_data r2 r1 (by simpa [PyData.plain] using se) sd (by omega) ⟨.bl _, H, I, rfl, q⟩
  · exact SeqAt.in_tuple_data r2 r1 (by simpa [PyData.plain] using se) sd (by omega) ⟨.bl _, H, I, rfl, q⟩
theorem op_notInP (hu : X.A.units + 66 < cLine) : OpR X (compareOp .NotIn) (rInP X.K true) := by
  intro pins s σ H x y v u Q I rx ry h
  obtain ⟨d, e, ds, hd, he, hi, sd, se, hl, q⟩ := h
  obtain ⟨as, r1⟩ := Dp.reads I d x v hd rx
  obtain ⟨bs, r2⟩ := Dp.reads I e y u he ry
  have hm := Nat.min_le_right (PyData.depthAll ds) d.depth
  rcases itemsPy_cases hi with rfl | rfl
  · exact SeqAt.notIn_list_data r2 r1 (by simpa [PyData.plain] using se) sd (by omega) ⟨.bl _, H, I, rfl, q⟩
  · exact SeqAt.notIn_tuple_data r2 r1 (by simpa [PyData.plain] using se) sd (by omega) ⟨.bl _, H, I, rfl, q⟩
noncomputable def rInDic (n : Bool) : R2 := fun x y H Q => ∃ a o, y = .ref a ∧ DGet H a x o ∧ Q (.bl (if n then !o.isSome else o.isSome)) H
theorem op_inDic (hu : X.A.units + 66 < cLine) : OpR X (compareOp .In) (rInDic false) := by
  intro pins s σ H x y v u Q I rx ry h
  obtain ⟨a, o, rfl, g, q⟩ := h
  cases ry
  exact d_in (by omega) I g rx fun s' I' => ⟨.bl _, H, I', rfl, q⟩
theorem op_notInDic (hu : X.A.units + 66 < cLine) : OpR X (compareOp .NotIn) (rInDic true) := by
  intro pins s σ H x y v u Q I rx ry h
  obtain ⟨a, o, rfl, g, q⟩ := h
  cases ry
  exact d_notIn (by omega) I g rx fun s' I' => ⟨.bl _, H, I', rfl, q⟩
noncomputable def rEqN (K : PySem.W.Frag) (n : Bool) : R2 := fun x y H Q => ∃ a b vs, x = .ref a ∧ y = .ref b ∧ SqT K H a vs ∧ SqT K H b [] ∧ Q (.bl (if n then !vs.isEmpty else vs.isEmpty)) H
theorem vals_empty {vs : List V} {us : List Value} (r : Vals vs us) : (us.length == 0) = vs.isEmpty := by
  have := r.length
  cases vs <;> cases us <;> first | rfl | (simp at this)
theorem op_eqN (hu : X.A.units + 66 < cLine) : OpR X (compareOp .Eq) (rEqN X.K false) := by
  intro pins s σ H x y v u Q I rx ry h
  obtain ⟨a, b, vs, rfl, rfl, h1, h2, q⟩ := h
  cases rx
  cases ry
  obtain ⟨i1, r1, p1, _⟩ := I.tuple h1
  obtain ⟨i2, r2, p2, _⟩ := I.tuple h2
  obtain rfl : i2 = [] := by cases r2; rfl
  refine SeqAt.eq_tupleAt (e := fun _ => true) (show s.heap.IsTuple a i1.toArray from p1) (show s.heap.IsTuple b ([] : List Value).toArray from p2) (by omega) (fun j _ h => absurd h (by simp)) ?_
  have e : ((List.range (min i1.toArray.size ([] : List Value).toArray.size)).all (fun _ => true) && i1.toArray.size == ([] : List Value).toArray.size) = vs.isEmpty := by
    rw [← vals_empty r1]
    simp
  rw [e]
  exact ⟨.bl _, H, I, rfl, q⟩
theorem op_neN (hu : X.A.units + 66 < cLine) : OpR X (compareOp .NotEq) (rEqN X.K true) := by
  intro pins s σ H x y v u Q I rx ry h
  obtain ⟨a, b, vs, rfl, rfl, h1, h2, q⟩ := h
  cases rx
  cases ry
  obtain ⟨i1, r1, p1, _⟩ := I.tuple h1
  obtain ⟨i2, r2, p2, _⟩ := I.tuple h2
  obtain rfl : i2 = [] := by cases r2; rfl
  refine SeqAt.RcNeAt.tuples (A := X.A) (e := fun _ => true) (show s.heap.IsTuple a i1.toArray from p1) (show s.heap.IsTuple b ([] : List Value).toArray from p2) (by omega) (fun j _ h => absurd h (by simp)) X.prog X.w _ _ ?_
  have e : ((List.range (min i1.toArray.size ([] : List Value).toArray.size)).all (fun _ => true) && i1.toArray.size == ([] : List Value).toArray.size) = vs.isEmpty := by
    rw [← vals_empty r1]
    simp
  rw [e]
  exact ⟨.bl _, H, I, rfl, q⟩
noncomputable def cop : Cop → CmpOp
  | .eq => .Eq
  | .ne => .NotEq
  | .lt => .Lt
  | .le => .LtE
  | .gt => .Gt
  | .ge => .GtE
  | .isN => .Is
  | .notN => .IsNot
  | .isB => .Is
  | .notB => .IsNot
  | .isin => .In
  | .notin => .NotIn
noncomputable def rInS (neg : Bool) : R2 := fun x y H Q => ∃ i j, x = .str i ∧ y = .str j ∧ Q (.bl (if neg then !strIn i j else strIn i j)) H
noncomputable def rCmp (K : PySem.W.Frag) : Cop → R2
  | .eq => fun x y H Q => (rEqP K x y H Q ∨ rEqN K false x y H Q) ∨ rEqTh K x y H Q
  | .ne => fun x y H Q => (rNeP K x y H Q ∨ rEqN K true x y H Q) ∨ rNeTh K x y H Q
  | .lt => rI0 fun i j => .bl (decide (i < j))
  | .le => rI0 fun i j => .bl (decide (i ≤ j))
  | .gt => rI0 fun i j => .bl (decide (j < i))
  | .ge => rI0 fun i j => .bl (decide (j ≤ i))
  | .isN => fun x y H Q => y = .non ∧ Q (.bl (decide (x = .non))) H
  | .notN => fun x y H Q => y = .non ∧ Q (.bl (!decide (x = .non))) H
  | .isB => rIsB
  | .notB => rNotB
  | .isin => fun x y H Q => rInP K false x y H Q ∨ rInDic false x y H Q ∨ rInS false x y H Q
  | .notin => fun x y H Q => rInP K true x y H Q ∨ rInDic true x y H Q ∨ rInS true x y H Q
theorem op_cmpT (hu : X.A.units + 66 < cLine) : ∀ o : Cop, OpR X (compareOp (cop o)) (rCmp X.K o)
  | .eq => ((op_eqP hu).or (op_eqN hu)).or (op_eqTh hu)
  | .ne => ((op_neP hu).or (op_neN hu)).or (op_neTh hu)
  | .lt => op_lt
  | .le => op_le
  | .gt => op_gt
  | .ge => op_ge
  | .isN => op_isN
  | .notN => op_notN
  | .isB => op_isBl
  | .notB => op_notBl
  | .isin => (op_inP hu).or ((op_inDic hu).or op_in_str)
  | .notin => (op_notInP hu).or ((op_notInDic hu).or op_notin_str)
end
section
variable {F : Fx} {Ew : XK} {X : Cx} {C : Call} {a b c : Ex} {ea eb ec : Expr} {pos : Pos} {μ : List Addr} {L : Addr → Prop} {H : Hp} {st : Sto} {G : VK}
theorem dp_ints {K : PySem.W.Frag} : ∀ ns : List Int, DpAll K H (ns.map V.int) (ns.map PyData.int)
  | [] => .nil
  | n :: r => .cons (.int n) (dp_ints r)
mutual
theorem dp_of : ∀ {v : V} {d : D} {e : PyData}, RepD F L H v d → toPy d = some e → Dp F.K H v e
  | _, _, _, .non, h => by cases h; exact .non
  | _, _, _, .bl b, h => by cases h; exact .bl b
  | _, _, _, .int b, h => by cases h; exact .int b
  | _, _, _, .str b, h => by cases h; exact .str b
  | _, _, _, .tup (ds := ds) _ f r, h => by
    rw [toPy] at h
    cases q : toPys ds with
    | none => rw [q] at h; cases h
    | some es => rw [q] at h; cases h; exact .tup (SqT.of f) (dps_of r q)
  | _, _, _, .ctup (ds := ds) f r, h => by
    rw [toPy] at h
    cases q : toPys ds with
    | none => rw [q] at h; cases h
    | some es => rw [q] at h; cases h; exact .tup f.sq (dps_of r q)
  | _, _, _, .lst (ds := ds) _ f r, h => by
    rw [toPy] at h
    cases q : toPys ds with
    | none => rw [q] at h; cases h
    | some es => rw [q] at h; cases h; exact .lst (SqL.of f) (dps_of r q)
  | _, _, _, .scr _ f _, h => by
    rw [toPy] at h
    cases h
    exact .lst f (dp_ints _)
  | _, _, _, .dic _ _ _, h => by rw [toPy] at h; cases h
  | _, _, _, .dit _ _ _, h => by rw [toPy] at h; cases h
  | _, _, _, .exn _ _ _ _ _, h => by rw [toPy] at h; cases h
theorem dps_of : ∀ {vs : List V} {ds : List D} {es : List PyData}, RepDs F L H vs ds → toPys ds = some es → DpAll F.K H vs es
  | _, _, _, .nil, h => by rw [toPys] at h; cases h; exact .nil
  | _, _, _, .cons (d := d) (ds := ds) r t, h => by
    rw [toPys] at h
    cases q1 : toPy d with
    | none => simp only [q1] at h; cases h
    | some e =>
      cases q2 : toPys ds with
      | none => simp only [q1, q2] at h; cases h
      | some es => simp only [q1, q2] at h; cases h; exact .cons (dp_of r q1) (dps_of t q2)
end
theorem plain_ints : ∀ ns : List Int, PyData.plainAll (ns.map PyData.int) = true
  | [] => rfl
  | n :: r => by rw [List.map_cons, PyData.plainAll, plain_ints r]; rfl
mutual
theorem plain_of : ∀ (d : D) (e : PyData), toPy d = some e → e.plain = true
  | .non, _, h => by cases h; rfl
  | .bl _, _, h => by cases h; rfl
  | .int _, _, h => by cases h; rfl
  | .str _, _, h => by cases h; rfl
  | .tup ds, _, h => by
    rw [toPy] at h
    cases q : toPys ds with
    | none => rw [q] at h; cases h
    | some es => rw [q] at h; cases h; rw [PyData.plain]; exact plains_of ds es q
  | .lst ds, _, h => by
    rw [toPy] at h
    cases q : toPys ds with
    | none => rw [q] at h; cases h
    | some es => rw [q] at h; cases h; rw [PyData.plain]; exact plains_of ds es q
  | .ctup ds, _, h => by
    rw [toPy] at h
    cases q : toPys ds with
    | none => rw [q] at h; cases h
    | some es => rw [q] at h; cases h; rw [PyData.plain]; exact plains_of ds es q
  | .scr ns, _, h => by rw [toPy] at h; cases h; rw [PyData.plain]; exact plain_ints ns
  | .dic _, _, h => by rw [toPy] at h; cases h
  | .dit _, _, h => by rw [toPy] at h; cases h
  | .exn _, _, h => by rw [toPy] at h; cases h
theorem plains_of : ∀ (ds : List D) (es : List PyData), toPys ds = some es → PyData.plainAll es = true
  | [], _, h => by rw [toPys] at h; cases h; rfl
  | d :: ds, _, h => by
    rw [toPys] at h
    cases q1 : toPy d with
    | none => simp only [q1] at h; cases h
    | some e =>
      cases q2 : toPys ds with
      | none => simp only [q1, q2] at h; cases h
      | some es => simp only [q1, q2] at h; cases h; rw [PyData.plainAll, plain_of d e q1, plains_of ds es q2]; rfl
end
/-- .. of things of the store -/
theorem dpW_of (R : Rel F μ L H st) : ∀ (k : Nat) {v : V} {w : W} {e : PyData}, RepW F μ L H v w → pyW st k w = some e → Dp F.K H v e ∧ e.plain = true := by
  intro k
  induction k with
  | zero =>
    intro v w e r h
    cases r with
    | p r => rw [pyW] at h; exact ⟨dp_of r h, plain_of _ _ h⟩
    | r m => rw [pyW] at h; cases h
  | succ k ih =>
    intro v w e r h
    cases w with
    | p d => cases r with | p r => rw [pyW] at h; exact ⟨dp_of r h, plain_of _ _ h⟩
    | r n =>
      rw [pyW] at h
      cases q : st[n]? with
      | none => rw [q] at h; cases h
      | some o =>
        rw [q] at h
        cases o with
        | lst ws =>
          obtain ⟨a, rfl, _, ⟨vs, h1, h2⟩, _⟩ := R.thg r q rfl
          simp only at h
          cases z : ws.mapM (pyW st k) with
          | none => rw [z] at h; cases h
          | some es =>
            rw [z] at h
            cases h
            have all : ∀ {vs : List V} {ws : List W} {es : List PyData}, RepWs F μ L H vs ws → ws.mapM (pyW st k) = some es → DpAll F.K H vs es ∧ PyData.plainAll es = true := by
              intro vs ws es r
              induction r generalizing es with
              | nil => intro z; simp at z; subst z; exact ⟨.nil, rfl⟩
              | cons r t ih2 =>
                intro z
                rw [List.mapM_cons] at z
                simp only [Option.pure_def, Option.bind_eq_bind, Option.bind_eq_some_iff, Option.some.injEq] at z
                obtain ⟨e1, z1, es1, z2, rfl⟩ := z
                obtain ⟨x1, x2⟩ := ih r z1
                obtain ⟨y1, y2⟩ := ih2 z2
                exact ⟨.cons x1 y1, by rw [PyData.plainAll, x2, y2]; rfl⟩
            obtain ⟨x, y⟩ := all h2 z
            exact ⟨.lst (SqL.of h1) x, by rw [PyData.plain]; exact y⟩
        | tup ws =>
          obtain ⟨a, rfl, _, ⟨vs, h1, h2⟩, _⟩ := R.thg r q rfl
          simp only at h
          cases z : ws.mapM (pyW st k) with
          | none => rw [z] at h; cases h
          | some es =>
            rw [z] at h
            cases h
            have all : ∀ {vs : List V} {ws : List W} {es : List PyData}, RepWs F μ L H vs ws → ws.mapM (pyW st k) = some es → DpAll F.K H vs es ∧ PyData.plainAll es = true := by
              intro vs ws es r
              induction r generalizing es with
              | nil => intro z; simp at z; subst z; exact ⟨.nil, rfl⟩
              | cons r t ih2 =>
                intro z
                rw [List.mapM_cons] at z
                simp only [Option.pure_def, Option.bind_eq_bind, Option.bind_eq_some_iff, Option.some.injEq] at z
                obtain ⟨e1, z1, es1, z2, rfl⟩ := z
                obtain ⟨x1, x2⟩ := ih r z1
                obtain ⟨y1, y2⟩ := ih2 z2
                exact ⟨.cons x1 y1, by rw [PyData.plainAll, x2, y2]; rfl⟩
            obtain ⟨x, y⟩ := all h2 z
            exact ⟨.tup (SqT.of h1) x, by rw [PyData.plain]; exact y⟩
        | dead => cases h
        | dic _ => cases h
        | dit _ => cases h
        | ldk _ => cases h
        | ldt _ => cases h
        | ins _ _ => cases h
theorem key_v {v : V} {d : D} {k : Key} (r : RepD F L H v d) (h : keyD d = some k) : v = kV k := by
  cases r <;> first
    | (simp only [keyD, reduceCtorEq] at h; done)
    | (cases h; rfl)
theorem keys_v : ∀ {vs : List V} {ds : List D} {ks : List Key}, RepDs F L H vs ds → keysD ds = some ks → vs = ks.map kV
  | _, _, _, .nil, h => by rw [keysD] at h; cases h; rfl
  | _, _, _, .cons (d := d) (ds := ds) r t, h => by
    rw [keysD] at h
    cases q1 : keyD d with
    | none => simp only [q1] at h; cases h
    | some e =>
      cases q2 : keysD ds with
      | none => simp only [q1, q2] at h; cases h
      | some es => simp only [q1, q2] at h; cases h; rw [key_v r q1, keys_v t q2]; rfl
/-- a dict's look-up -/
theorem has_ks : ∀ {vs : List (Key × V)} {ds : List (Key × D)} (k : Key), RepKs F L H vs ds → (valV vs k).isSome = hasK ds k
  | _, _, k, .nil => rfl
  | _, _, k, .cons (k := j) r t => by
    by_cases e : j = k
    · rw [valV_pos e]; simp [hasK, e]
    · rw [valV_neg e, has_ks k t]; simp [hasK, e]
theorem has_ts : ∀ {vs : List (List Key × V)} {ds : List (List Key × D)} (k : List Key), RepTs F L H vs ds → (valV vs k).isSome = hasK ds k
  | _, _, k, .nil => rfl
  | _, _, k, .cons (k := j) r t => by
    by_cases e : j = k
    · rw [valV_pos e]; simp [hasK, e]
    · rw [valV_neg e, has_ts k t]; simp [hasK, e]
theorem Sh.dicI {v : V} {ds : List (Key × D)} (h : Sh F L H v (.dic ds)) : ∃ a xs, v = .ref a ∧ Rd H a (.dK xs) ∧ RepKs F L H xs ds := by
  cases h with
  | d r => cases r with | dic _ f r => exact ⟨_, _, rfl, f, r⟩
  | dic f r => exact ⟨_, _, rfl, f, r⟩
theorem Sh.ditI {v : V} {ds : List (List Key × D)} (h : Sh F L H v (.dit ds)) : ∃ a xs, v = .ref a ∧ Rd H a (.dT xs) ∧ RepTs F L H xs ds := by
  cases h with
  | d r => cases r with | dit _ f r => exact ⟨_, _, rfl, f, r⟩
  | dit f r => exact ⟨_, _, rfl, f, r⟩
end
end T

set_option maxRecDepth 100000
set_option maxHeartbeats 4000000
/-! T: comparisons as terms and tests; displays, places, slices, fields -/
namespace T
open PySem L2
theorem Res.bind_assoc {α β γ : Type} (r : Res α) (f : α → Sto → Res β) (g : β → Sto → Res γ) : (r.bind f).bind g = r.bind fun a s => (f a s).bind g := by
  cases r <;> rfl
section
variable {F : Fx} {Ew : XK} {X : Cx} {C : Call} {a b c : Ex} {ea eb ec : Expr} {pos : Pos} {μ : List Addr} {L : Addr → Prop} {H : Hp} {st : Sto} {G : VK}
theorem non_iff {v : V} {w : W} (r : RepW F μ L H v w) : decide (v = .non) = isNon w := by
  cases r with
  | r m => rfl
  | p r => cases r <;> rfl
theorem eqN_dp (R : Rel F μ L H st) {v u : V} {x y : W} {k : Bool} (r1 : RepW F μ L H v x) (r2 : RepW F μ L H u y) (h : eqN x y = some k) : ∃ a b vs, v = .ref a ∧ u = .ref b ∧ SqT F.K H a vs ∧ SqT F.K H b [] ∧ k = vs.isEmpty := by
  unfold eqN at h
  split at h
  · cases h
    cases r1 with
    | p r1 =>
      cases r1 with
      | tup _ f1 q1 =>
        cases r2 with
        | p r2 =>
          cases r2 with
          | tup _ f2 q2 =>
            cases q2
            refine ⟨_, _, _, rfl, rfl, SqT.of f1, SqT.of f2, ?_⟩
            cases q1 <;> rfl
  · cases h
theorem paired_of {G : V → V → Prop} {f : W → W → Bool} (ih : ∀ {v u : V} {x y : W}, RepW F μ L H v x → RepW F μ L H u y → f x y = true → G v u) : ∀ {vs us : List V} {xs ys : List W}, RepWs F μ L H vs xs → RepWs F μ L H us ys → all2 f xs ys = true → Paired G vs us
  | _, _, _, _, .nil, .nil, _ => .nil
  | _, _, _, _, .nil, .cons _ _, h => by cases h
  | _, _, _, _, .cons _ _, .nil, h => by cases h
  | _, _, _, _, .cons r t, .cons r' t', h => by
    rw [all2, Bool.and_eq_true] at h
    exact .cons (ih r r' h.1) (paired_of ih t t' h.2)
theorem find_of : ∀ {ls : List (Key × V)} {ys : List (Key × W)} (k : Key) {w : W}, RepE F μ L H ls ys → (ys.find? fun z => decide (z.1 = k)).map (·.2) = some w → ∃ u, valV ls k = some u ∧ RepW F μ L H u w
  | _, _, k, w, .nil, h => by cases h
  | _, _, k, w, .cons (k := j) r t, h => by
    rw [List.find?_cons] at h
    by_cases e : j = k
    · subst e
      rw [decide_eq_true rfl] at h
      cases h
      exact ⟨_, valV_pos rfl, r⟩
    · rw [decide_eq_false e] at h
      obtain ⟨u, h1, h2⟩ := find_of k t h
      exact ⟨u, by rw [valV_neg e]; exact h1, h2⟩
theorem hits_of {G : V → V → Prop} {f : W → W → Bool} (ih : ∀ {v u : V} {x y : W}, RepW F μ L H v x → RepW F μ L H u y → f x y = true → G v u) {ls : List (Key × V)} {ys : List (Key × W)} (rl : RepE F μ L H ls ys) : ∀ {ks : List (Key × V)} {xs : List (Key × W)}, RepE F μ L H ks xs →
    (xs.all fun e => match (ys.find? fun z => decide (z.1 = e.1)).map (·.2) with
      | some u => f e.2 u
      | none => false) = true → ∀ p ∈ ks, ∃ u, valV ls p.1 = some u ∧ G p.2 u
  | _, _, .nil, _, p, hp => by cases hp
  | _, _, .cons (k := k) r t, h, p, hp => by
    rw [List.all_cons, Bool.and_eq_true] at h
    rcases List.mem_cons.mp hp with rfl | hp
    · have h1 := h.1
      dsimp only at h1
      cases q : (ys.find? fun z => decide (z.1 = k)).map (·.2) with
      | none => rw [q] at h1; cases h1
      | some w =>
        rw [q] at h1
        obtain ⟨u, e, ru⟩ := find_of k rl q
        exact ⟨u, e, ih r ru h1⟩
    · exact hits_of ih rl t h.2 p hp
theorem repE_len {κ : Type} : ∀ {ks : List (κ × V)} {xs : List (κ × W)}, RepE F μ L H ks xs → ks.length = xs.length
  | _, _, .nil => rfl
  | _, _, .cons _ t => congrArg (· + 1) (repE_len t)
theorem repWs_p : ∀ {vs : List V} {ds : List D}, RepDs F L H vs ds → RepWs F μ L H vs (ds.map W.p)
  | _, _, .nil => .nil
  | _, _, .cons r t => .cons (.p r) (repWs_p t)
theorem repE_p : ∀ {vs : List (Key × V)} {ds : List (Key × D)}, RepKs F L H vs ds → RepE F μ L H vs (ds.map fun e => (e.1, W.p e.2))
  | _, _, .nil => .nil
  | _, _, .cons r t => .cons (.p r) (repE_p t)
/-- what stands there, by its kind -/
noncomputable def RepN (F : Fx) (μ : List Addr) (L : Addr → Prop) (H : Hp) (v : V) : Nd → Prop
  | .tup ws => ∃ a vs, v = .ref a ∧ SqT F.K H a vs ∧ RepWs F μ L H vs ws
  | .lst ws => ∃ a vs, v = .ref a ∧ SqL F.K H a vs ∧ RepWs F μ L H vs ws
  | .dic kvs => ∃ a vs, v = .ref a ∧ Rd H a (.dK vs) ∧ RepE F μ L H vs kvs
theorem ndW_rep (R : Rel F μ L H st) {v : V} {x : W} {n : Nd} (r : RepW F μ L H v x) (h : ndW st x = some n) : RepN F μ L H v n := by
  cases x with
  | p d =>
    cases r with
    | p r =>
      cases r <;> first
        | (cases h; done)
        | (cases h; exact ⟨_, _, rfl, SqT.of (by assumption), repWs_p (by assumption)⟩)
        | (rename_i f t; cases h; exact ⟨_, _, rfl, f.sq, repWs_p t⟩)
        | (cases h; exact ⟨_, _, rfl, SqL.of (by assumption), repWs_p (by assumption)⟩)
        | (cases h; exact ⟨_, _, rfl, by assumption, repE_p (by assumption)⟩)
  | r m =>
    unfold ndW at h
    cases q : st[m]? with
    | none => simp only [q] at h; cases h
    | some o =>
      cases o with
      | tup ws => simp only [q] at h; cases h; obtain ⟨a, rfl, _, ⟨vs, h1, h2⟩, _⟩ := R.thg r q rfl; exact ⟨a, vs, rfl, SqT.of h1, h2⟩
      | lst ws => simp only [q] at h; cases h; obtain ⟨a, rfl, _, ⟨vs, h1, h2⟩, _⟩ := R.thg r q rfl; exact ⟨a, vs, rfl, SqL.of h1, h2⟩
      | dic ws => simp only [q] at h; cases h; obtain ⟨a, rfl, _, ⟨vs, h1, h2⟩, _⟩ := R.thg r q rfl; exact ⟨a, vs, rfl, .inl h1, h2⟩
      | ldk ws => simp only [q] at h; cases h; obtain ⟨a, rfl, _, ⟨vs, h1, h2⟩, _⟩ := R.thg r q rfl; exact ⟨a, vs, rfl, .inr h1, h2⟩
      | dead => simp only [q] at h; cases h
      | dit _ => simp only [q] at h; cases h
      | ins _ _ => simp only [q] at h; cases h
      | ldt _ => simp only [q] at h; cases h
theorem leafB_ok (R : Rel F μ L H st) {v u : V} {x y : W} (r1 : RepW F μ L H v x) (r2 : RepW F μ L H u y) (h : leafB st x y = true) : EqLf F.K H v u := by
  unfold leafB at h
  cases q1 : pyW st 4 x with
  | none => simp only [q1] at h; cases h
  | some d =>
    cases q2 : pyW st 4 y with
    | none => simp only [q1, q2] at h; cases h
    | some e =>
      simp only [q1, q2, Bool.and_eq_true, decide_eq_true_eq] at h
      obtain ⟨a1, b1⟩ := dpW_of R 4 r1 q1
      obtain ⟨a2, b2⟩ := dpW_of R 4 r2 q2
      exact ⟨d, e, a1, a2, b1, b2, h.1, h.2⟩
theorem nodB_ok {G : V → V → Prop} {f : W → W → Bool} (ih : ∀ {v u : V} {x y : W}, RepW F μ L H v x → RepW F μ L H u y → f x y = true → G v u) (R : Rel F μ L H st) {v u : V} {x y : W} (r1 : RepW F μ L H v x) (r2 : RepW F μ L H u y) (h : nodB f (ndW st x) (ndW st y) = true) :
    EqSt F.K H G v u ∧ ((∀ ws, ndW st x ≠ some (.lst ws)) → EqNl F.K H G v u) := by
  cases q1 : ndW st x with
  | none => rw [q1] at h; cases h
  | some a =>
    cases q2 : ndW st y with
    | none => rw [q1, q2] at h; cases a <;> cases h
    | some b =>
      rw [q1, q2] at h
      have n1 := ndW_rep R r1 q1
      have n2 := ndW_rep R r2 q2
      cases a <;> cases b <;> first
        | (cases h; done)
        | skip
      · obtain ⟨a, vs, rfl, f1, t1⟩ := n1
        obtain ⟨b, us, rfl, f2, t2⟩ := n2
        have e : EqNl F.K H G (.ref a) (.ref b) := .inl ⟨a, b, vs, us, rfl, rfl, f1, f2, paired_of ih t1 t2 h⟩
        exact ⟨e.st, fun _ => e⟩
      · obtain ⟨a, vs, rfl, f1, t1⟩ := n1
        obtain ⟨b, us, rfl, f2, t2⟩ := n2
        exact ⟨.inr (.inl ⟨a, b, vs, us, rfl, rfl, f1, f2, paired_of ih t1 t2 h⟩), fun z => absurd rfl (z _)⟩
      · obtain ⟨a, vs, rfl, f1, t1⟩ := n1
        obtain ⟨b, us, rfl, f2, t2⟩ := n2
        rw [nodB, Bool.and_eq_true, decide_eq_true_eq] at h
        have e : EqNl F.K H G (.ref a) (.ref b) := .inr ⟨a, b, vs, us, rfl, rfl, f1, f2, by rw [repE_len t1, repE_len t2]; exact h.1, hits_of ih t2 t1 h.2⟩
        exact ⟨e.st, fun _ => e⟩
theorem sameW_ok (R : Rel F μ L H st) : ∀ (k : Nat) {v u : V} {x y : W}, RepW F μ L H v x → RepW F μ L H u y → sameW st k x y = true → EqTh F.K H k v u
  | 0, _, _, _, _, _, _, h => by cases h
  | k + 1, _, _, _, _, r1, r2, h => by
    rw [sameW, Bool.or_eq_true] at h
    rcases h with h | h
    · exact .inl (leafB_ok R r1 r2 h)
    · exact .inr (nodB_ok (fun a b c => sameW_ok R k a b c) R r1 r2 h).1
theorem eqF_dp (R : Rel F μ L H st) {v u : V} {x y : W} {k : Bool} (r1 : RepW F μ L H v x) (r2 : RepW F μ L H u y) (h : eqF st x y = some k) : (∃ a b vs, v = .ref a ∧ u = .ref b ∧ SqT F.K H a vs ∧ SqT F.K H b [] ∧ k = vs.isEmpty) ∨ (k = true ∧ EqNl F.K H (EqTh F.K H 8) v u) := by
  unfold eqF at h
  cases q : eqN x y with
  | some b => rw [q] at h; cases h; exact .inl (eqN_dp R r1 r2 q)
  | none =>
    rw [q] at h
    dsimp only at h
    have fin : ∀ b : Option Nd, (∀ ws, ndW st x ≠ some (.lst ws)) → b = ndW st y → (if nodB (sameW st 8) (ndW st x) b = true then some true else none) = some k → k = true ∧ EqNl F.K H (EqTh F.K H 8) v u := fun b nl eb z => by
      subst eb
      split at z
      · rename_i w
        cases z
        exact ⟨rfl, (nodB_ok (fun a b c => sameW_ok R 8 a b c) R r1 r2 w).2 nl⟩
      · cases z
    split at h
    · cases h
    · rename_i nl
      exact .inr (fin _ (fun ws e => nl ws e) rfl h)
theorem eqW_dp (R : Rel F μ L H st) {v u : V} {x y : W} {k : Bool} (r1 : RepW F μ L H v x) (r2 : RepW F μ L H u y) (h : eqW st x y = some k) :
    ((∃ d e, Dp F.K H v d ∧ Dp F.K H u e ∧ d.plain = true ∧ e.plain = true ∧ d.depth ≤ 64 ∧ k = PyData.eqv d e) ∨ ∃ a b vs, v = .ref a ∧ u = .ref b ∧ SqT F.K H a vs ∧ SqT F.K H b [] ∧ k = vs.isEmpty) ∨ (k = true ∧ EqNl F.K H (EqTh F.K H 8) v u) := by
  rw [eqW] at h
  have fin : eqF st x y = some k → ((∃ d e, Dp F.K H v d ∧ Dp F.K H u e ∧ d.plain = true ∧ e.plain = true ∧ d.depth ≤ 64 ∧ k = PyData.eqv d e) ∨ ∃ a b vs, v = .ref a ∧ u = .ref b ∧ SqT F.K H a vs ∧ SqT F.K H b [] ∧ k = vs.isEmpty) ∨ (k = true ∧ EqNl F.K H (EqTh F.K H 8) v u) := fun h => by
    rcases eqF_dp R r1 r2 h with h | h
    · exact .inl (.inr h)
    · exact .inr h
  cases q1 : pyW st 4 x with
  | none => simp only [q1] at h; exact fin h
  | some d =>
    cases q2 : pyW st 4 y with
    | none => simp only [q1, q2] at h; exact fin h
    | some e =>
      simp only [q1, q2] at h
      split at h
      · rename_i z
        cases h
        obtain ⟨a1, b1⟩ := dpW_of R 4 r1 q1
        obtain ⟨a2, b2⟩ := dpW_of R 4 r2 q2
        exact .inl (.inl ⟨d, e, a1, a2, b1, b2, z.1, rfl⟩)
      · exact fin h
theorem inDat_dp (R : Rel F μ L H st) {v u : V} {x y : W} {k : Bool} (r1 : RepW F μ L H v x) (r2 : RepW F μ L H u y) (h : inDat st x y = some k) :
    ∃ d e ds, Dp F.K H v d ∧ Dp F.K H u e ∧ itemsPy e = some ds ∧ d.plain = true ∧ e.plain = true ∧ d.depth ≤ 64 ∧ k = ds.any fun z => PyData.eqv z d := by
  rw [inDat] at h
  cases q1 : pyW st 4 x with
  | none => simp only [q1] at h; cases h
  | some d =>
    cases q2 : pyW st 4 y with
    | none => simp only [q1, q2] at h; cases h
    | some e =>
      simp only [q1, q2] at h
      cases q3 : itemsPy e with
      | none => simp only [q3] at h; cases h
      | some ds =>
        simp only [q3] at h
        split at h
        · rename_i z
          cases h
          obtain ⟨a1, b1⟩ := dpW_of R 4 r1 q1
          obtain ⟨a2, b2⟩ := dpW_of R 4 r2 q2
          exact ⟨d, e, ds, a1, a2, q3, b1, b2, z, rfl⟩
        · cases h
theorem inW_ok (R : Rel F μ L H st) {v u : V} {x y : W} {k : Bool} (r1 : RepW F μ L H v x) (r2 : RepW F μ L H u y) (h : inW st x y = some k) :
    (∃ d e ds, Dp F.K H v d ∧ Dp F.K H u e ∧ itemsPy e = some ds ∧ d.plain = true ∧ e.plain = true ∧ d.depth ≤ 64 ∧ k = ds.any fun z => PyData.eqv z d) ∨
    (∃ a o, u = .ref a ∧ DGet H a v o ∧ k = o.isSome) ∨ ∃ i j, v = .str i ∧ u = .str j ∧ k = strIn i j := by
  unfold inW at h
  split at h
  · rename_i j i q
    cases h
    cases y with
    | p e =>
      cases q
      cases r1 with
      | p r1 => cases r2 with
        | p r2 => cases r1; cases r2; exact .inr (.inr ⟨_, _, rfl, rfl, rfl⟩)
    | r n =>
      exfalso
      have q : (match st[n]? with
        | some (.lst ws) => (unW ws).map D.lst
        | some (.dic kvs) => (unK kvs).map D.dic
        | some (.dit kvs) => (unK kvs).map D.dit
        | some (.ldk kvs) => (unK kvs).map D.dic
        | some (.ldt kvs) => (unK kvs).map D.dit
        | _ => none) = some (D.str j) := q
      cases z : st[n]? with
      | none => rw [z] at q; cases q
      | some o =>
        rw [z] at q
        cases o <;> first
          | (cases q; done)
          | (obtain ⟨_, _, e⟩ := Option.map_eq_some_iff.mp q; cases e)
  · rename_i kvs dx q
    have sh := sh_of R r2 q
    cases z : keyD dx with
    | none => rw [z] at h; cases h
    | some kk =>
      rw [z] at h
      cases h
      obtain ⟨a, vs, rfl, f, r⟩ := sh.dicI
      cases r1 with
      | p r1 => exact .inr (.inl ⟨a, _, rfl, .inl ⟨vs, kk, f, key_v r1 z, rfl⟩, (has_ks kk r).symm⟩)
  · rename_i kvs dx q
    have sh := sh_of R r2 q
    cases z : keyTD dx with
    | none => rw [z] at h; cases h
    | some kk =>
      rw [z] at h
      cases h
      obtain ⟨a, vs, rfl, f, r⟩ := sh.ditI
      cases r1 with
      | p r1 =>
        cases r1 <;> try (simp only [keyTD, reduceCtorEq] at z; done)
        rename_i hL ht rt
        rw [keyTD] at z
        have e := keys_v rt z
        subst e
        exact .inr (.inl ⟨a, _, rfl, .inr ⟨vs, kk, _, f, rfl, ht, rfl⟩, (has_ts kk r).symm⟩)
  · exact .inl (inDat_dp R r1 r2 h)
  · exact .inl (inDat_dp R r1 r2 h)
theorem cmp_ok (R : Rel F μ L H st) {v u : V} {x y : W} {k : Bool} (r1 : RepW F μ L H v x) (r2 : RepW F μ L H u y) : ∀ (o : Cop), cmpW st o x y = some k → G (.bl k) H → rCmp F.K o v u H G := by
  have tints : ∀ {i j : Int}, x = .p (.int i) → y = .p (.int j) → v = .int i ∧ u = .int j := by
    rintro i j rfl rfl
    cases r1 with
    | p a => cases r2 with
      | p b => cases a; cases b; exact ⟨rfl, rfl⟩
  have tbls : ∀ {i j : Bool}, x = .p (.bl i) → y = .p (.bl j) → v = .bl i ∧ u = .bl j := by
    rintro i j rfl rfl
    cases r1 with
    | p a => cases r2 with
      | p b => cases a; cases b; exact ⟨rfl, rfl⟩
  intro o h q
  cases o with
  | eq =>
    rcases eqW_dp R r1 r2 h with (⟨d, e, a1, a2, b1, b2, z, rfl⟩ | ⟨a, b, vs, e1, e2, f1, f2, rfl⟩) | ⟨rfl, z⟩
    · exact .inl (.inl ⟨d, e, a1, a2, b1, b2, z, q⟩)
    · exact .inl (.inr ⟨a, b, vs, e1, e2, f1, f2, q⟩)
    · exact .inr ⟨8, by decide, z.st, q⟩
  | ne =>
    rw [cmpW] at h
    cases q1 : eqW st x y with
    | none => rw [q1] at h; cases h
    | some k' =>
      rw [q1] at h
      cases h
      rcases eqW_dp R r1 r2 q1 with (⟨d, e, a1, a2, b1, b2, z, rfl⟩ | ⟨a, b, vs, e1, e2, f1, f2, rfl⟩) | ⟨rfl, z⟩
      · exact .inl (.inl ⟨d, e, a1, a2, b1, b2, z, q⟩)
      · exact .inl (.inr ⟨a, b, vs, e1, e2, f1, f2, q⟩)
      · exact .inr ⟨8, by decide, z, q⟩
  | lt =>
    unfold cmpW at h
    split at h <;> try (cases h; done)
    all_goals first
      | (rename_i e; cases e; done)
      | (cases h
         obtain ⟨e1, e2⟩ := tints rfl rfl
         exact ⟨_, _, e1, e2, q⟩)
  | le =>
    unfold cmpW at h
    split at h <;> try (cases h; done)
    all_goals first
      | (rename_i e; cases e; done)
      | (cases h
         obtain ⟨e1, e2⟩ := tints rfl rfl
         exact ⟨_, _, e1, e2, q⟩)
  | gt =>
    unfold cmpW at h
    split at h <;> try (cases h; done)
    all_goals first
      | (rename_i e; cases e; done)
      | (cases h
         obtain ⟨e1, e2⟩ := tints rfl rfl
         exact ⟨_, _, e1, e2, q⟩)
  | ge =>
    unfold cmpW at h
    split at h <;> try (cases h; done)
    all_goals first
      | (rename_i e; cases e; done)
      | (cases h
         obtain ⟨e1, e2⟩ := tints rfl rfl
         exact ⟨_, _, e1, e2, q⟩)
  | isN =>
    unfold cmpW at h
    split at h <;> try (cases h; done)
    all_goals first
      | (rename_i e; cases e; done)
      | (cases h
         cases r2 with | p b => cases b; exact ⟨rfl, by rw [non_iff r1]; exact q⟩)
  | notN =>
    unfold cmpW at h
    split at h <;> try (cases h; done)
    all_goals first
      | (rename_i e; cases e; done)
      | (cases h
         cases r2 with | p b => cases b; exact ⟨rfl, by rw [non_iff r1]; exact q⟩)
  | isB =>
    unfold cmpW at h
    split at h <;> try (cases h; done)
    all_goals first
      | (rename_i e; cases e; done)
      | (cases h
         obtain ⟨e1, e2⟩ := tbls rfl rfl
         exact ⟨_, _, e1, e2, q⟩)
  | notB =>
    unfold cmpW at h
    split at h <;> try (cases h; done)
    all_goals first
      | (rename_i e; cases e; done)
      | (cases h
         obtain ⟨e1, e2⟩ := tbls rfl rfl
         exact ⟨_, _, e1, e2, q⟩)
  | isin =>
    rcases inW_ok R r1 r2 h with ⟨d, e, ds, a1, a2, a3, b1, b2, z, rfl⟩ | ⟨a, o, e1, g, rfl⟩ | ⟨i, j, rfl, rfl, rfl⟩
    · exact .inl ⟨d, e, ds, a1, a2, a3, b1, b2, z, q⟩
    · exact .inr (.inl ⟨a, o, e1, g, q⟩)
    · exact .inr (.inr ⟨i, j, rfl, rfl, q⟩)
  | notin =>
    rw [cmpW] at h
    cases q1 : inW st x y with
    | none => rw [q1] at h; cases h
    | some k' =>
      rw [q1] at h
      cases h
      rcases inW_ok R r1 r2 q1 with ⟨d, e, ds, a1, a2, a3, b1, b2, z, rfl⟩ | ⟨a, o, e1, g, rfl⟩ | ⟨i, j, rfl, rfl, rfl⟩
      · exact .inl ⟨d, e, ds, a1, a2, a3, b1, b2, z, q⟩
      · exact .inr (.inl ⟨a, o, e1, g, q⟩)
      · exact .inr (.inr ⟨i, j, rfl, rfl, q⟩)
theorem s_cmp (o : Cop) (hK : X.K = F.K) (hu : X.A.units + 66 < cLine) (hm : behindInMarks (cop o) eb = false) (ha : PE X ea (tE F Ew (evE C a))) (hb : PE X eb (tE F Ew (evE C b))) : PE X (.Compare ea [cop o] [eb] pos) (tE F Ew (evE C (.cmp o a b))) :=
  (pe_cmpR (op_cmpT hu o) ha hb hm).imp fun σ H Q ⟨μ, L, ρ, st, R, RE, h⟩ => by
    rw [evE] at h
    refine in_E R RE h fun x v μ1 L1 H1 st1 e1 R1 RE1 r1 h1 => ?_
    refine in_E R1 RE1 h1 fun y u μ2 L2 H2 st2 e2 R2 RE2 r2 h2 => ?_
    cases q : cmpW st2 o x y with
    | none => simp only [q] at h2; exact h2.elim
    | some k =>
      simp only [q] at h2
      rw [hK]
      exact cmp_ok R2 (e2.wv R1 r1) r2 o q (fin_bl R2 h2)
theorem t_cmp (o : Cop) (hK : X.K = F.K) (hu : X.A.units + 66 < cLine) (hm : behindInMarks (cop o) eb = false) (ha : PE X ea (tE F Ew (evE C a))) (hb : PE X eb (tE F Ew (evE C b))) : PT X (.Compare ea [cop o] [eb] pos) (tT F Ew (evTV C (.cmp o a b))) :=
  (pt_cmpR (op_cmpT hu o) ha hb hm).imp fun σ H Q ⟨μ, L, ρ, st, R, RE, h⟩ => by
    rw [evTV, evE, Res.bind_assoc] at h
    refine in_E R RE h fun x v μ1 L1 H1 st1 e1 R1 RE1 r1 h1 => ?_
    rw [Res.bind_assoc] at h1
    refine in_E R1 RE1 h1 fun y u μ2 L2 H2 st2 e2 R2 RE2 r2 h2 => ?_
    cases q : cmpW st2 o x y with
    | none => simp only [q] at h2; exact h2.elim
    | some k =>
      simp only [q] at h2
      rw [hK]
      exact cmp_ok R2 (e2.wv R1 r1) r2 o q ⟨k, rfl, Post.here R2 h2⟩
theorem s_chn (o o' : Cop) (hK : X.K = F.K) (hu : X.A.units + 66 < cLine) (hm : lastMarks [cop o, cop o'] [eb, ec] = false) (ha : PE X ea (tE F Ew (evE C a))) (hb : PE X eb (tE F Ew (evE C b))) (hc : PE X ec (tE F Ew (evE C c))) :
    PE X (.Compare ea [cop o, cop o'] [eb, ec] pos) (tE F Ew (evE C (.chn o o' a b c))) :=
  (pe_chain (op_cmpT hu o) (op_cmpT hu o') ha hb hc hm).imp fun σ H Q ⟨μ, L, ρ, st, R, RE, h⟩ => by
    rw [evE] at h
    refine in_E R RE h fun x v μ1 L1 H1 st1 e1 R1 RE1 r1 h1 => ?_
    refine in_E R1 RE1 h1 fun y u μ2 L2 H2 st2 e2 R2 RE2 r2 h2 => ?_
    cases q : cmpW st2 o x y with
    | none => simp only [q] at h2; exact h2.elim
    | some k =>
      simp only [q] at h2
      rw [hK]
      refine cmp_ok R2 (e2.wv R1 r1) r2 o q ⟨k, rfl, ?_⟩
      cases k with
      | false => exact fin_bl R2 h2
      | true =>
        refine in_E R2 RE2 h2 fun z u' μ3 L3 H3 st3 e3 R3 RE3 r3 h3 => ?_
        cases q' : cmpW st3 o' y z with
        | none => simp only [q'] at h3; exact h3.elim
        | some k' =>
          simp only [q'] at h3
          exact cmp_ok R3 (e3.wv R2 r2) r3 o' q' (fin_bl R3 h3)
theorem t_chn (o o' : Cop) (hK : X.K = F.K) (hu : X.A.units + 66 < cLine) (hm : lastMarks [cop o, cop o'] [eb, ec] = false) (ha : PE X ea (tE F Ew (evE C a))) (hb : PE X eb (tE F Ew (evE C b))) (hc : PE X ec (tE F Ew (evE C c))) :
    PT X (.Compare ea [cop o, cop o'] [eb, ec] pos) (tT F Ew (evTV C (.chn o o' a b c))) :=
  (pt_chain (op_cmpT hu o) (op_cmpT hu o') ha hb hc hm).imp fun σ H Q ⟨μ, L, ρ, st, R, RE, h⟩ => by
    rw [evTV, evE, Res.bind_assoc] at h
    refine in_E R RE h fun x v μ1 L1 H1 st1 e1 R1 RE1 r1 h1 => ?_
    rw [Res.bind_assoc] at h1
    refine in_E R1 RE1 h1 fun y u μ2 L2 H2 st2 e2 R2 RE2 r2 h2 => ?_
    cases q : cmpW st2 o x y with
    | none => simp only [q] at h2; exact h2.elim
    | some k =>
      simp only [q] at h2
      rw [hK]
      refine cmp_ok R2 (e2.wv R1 r1) r2 o q ⟨k, rfl, ?_⟩
      cases k with
      | false => exact ⟨false, rfl, Post.here R2 h2⟩
      | true =>
        simp only [Res.bind_assoc] at h2
        refine in_E R2 RE2 h2 fun z u' μ3 L3 H3 st3 e3 R3 RE3 r3 h3 => ?_
        cases q' : cmpW st3 o' y z with
        | none => simp only [q'] at h3; exact h3.elim
        | some k' =>
          simp only [q'] at h3
          exact cmp_ok R3 (e3.wv R2 r2) r3 o' q' ⟨k', rfl, Post.here R3 h3⟩

/-! ### lists of terms, displays -/
theorem s_nil : PA X [] (tA F Ew (evEs C .nil)) := pa_nil.imp fun σ H Q ⟨μ, L, ρ, st, R, RE, h⟩ => by
  rw [evEs] at h
  exact Post.here R h _ .nil
theorem s_cons {es : Exs} {ees : List Expr} (ha : PE X ea (tE F Ew (evE C a))) (hb : PA X ees (tA F Ew (evEs C es))) (hs : starEach (ea :: ees) X.env = (false, eval ea X.env) :: starEach ees X.env) : PA X (ea :: ees) (tA F Ew (evEs C (.cons a es))) :=
  (pa_cons ha hb hs).imp fun σ H Q ⟨μ, L, ρ, st, R, RE, h⟩ => by
    rw [evEs] at h
    refine in_E R RE h fun x v μ1 L1 H1 st1 e1 R1 RE1 r1 h1 => ?_
    refine in_A R1 RE1 h1 fun xs vs μ2 L2 H2 st2 e2 R2 RE2 r2 h2 => ?_
    exact Post.here R2 h2 _ (.cons (e2.wv R1 r1) r2)
theorem repws_len : ∀ {vs : List V} {ws : List W}, RepWs F μ L H vs ws → vs.length = ws.length
  | _, _, .nil => rfl
  | _, _, .cons _ t => congrArg (· + 1) (repws_len t)
theorem unW_len : ∀ {ws : List W} {ds : List D}, unW ws = some ds → ws.length = ds.length
  | [], _, h => by cases h; rfl
  | .p d :: r, _, h => by
    rw [unW] at h
    cases q : unW r with
    | none => rw [q] at h; cases h
    | some ds => rw [q] at h; cases h; exact congrArg (· + 1) (unW_len q)
  | .r _ :: _, _, h => by cases h
theorem s_tup {es : Exs} {ees : List Expr} {x1} (ha : PA X ees (tA F Ew (evEs C es))) : PE X (.Tuple ees x1 pos) (tE F Ew (evE C (.tup es))) :=
  (pe_tup ha).imp fun σ H Q ⟨μ, L, ρ, st, R, RE, h⟩ => by
    rw [evE] at h
    refine in_A R RE h fun ws vs μ1 L1 H1 st1 e1 R1 RE1 r1 h1 => ?_
    cases q : unW ws with
    | none => simp only [q] at h1; exact h1.elim
    | some ds =>
      simp only [q] at h1
      split at h1
      · rename_i z
        exact ⟨by rw [repws_len r1, unW_len q]; exact lenOk_le z, fun p hp => fin_tup R1 h1 hp (unW_reps r1 q)⟩
      · exact h1.elim
end
end T

set_option maxRecDepth 100000
set_option maxHeartbeats 4000000
/-! T: lists that are made, dicts, places, slices, fields, what becomes a value -/
namespace T
open PySem L2
section
variable {F : Fx} {Ew : XK} {X : Cx} {C : Call} {a b c : Ex} {ea eb ec : Expr} {pos : Pos} {μ : List Addr} {L : Addr → Prop} {H : Hp} {st : Sto} {G : VK}
abbrev PostW (F : Fx) (Ew : XK) (μ : List Addr) (L : Addr → Prop) (H : Hp) (st : Sto) (r : Res W) (G : VK) : Prop := Post F Ew μ L H st r fun w μ' L' H' _ => ∀ v, RepW F μ' L' H' v w → G v H'
/-- a new list of the store -/
theorem fin_lstM {xs : List V} {ws : List W} {p : Addr} (R : Rel F μ L H st) (h : PostW F Ew μ L H st (newO (.lst ws) st) G) (hp : H p = none) (r : RepWs F μ L H xs ws) : G (.ref p) (upd H p (.lst xs)) :=
  Post.thing R h hp ⟨xs, upd_same, r.mono ((Ext.thing (o := .lst ws) (u := .lst xs) R hp).kp R) (Ext.thing (u := .lst xs) (o := .lst ws) R hp).pre⟩
theorem s_lst (m : Bool) {es : Exs} {ees : List Expr} (ha : PA X ees (tA F Ew (evEs C es))) : PE X (.List ees pos) (tE F Ew (evE C (.lst m es))) :=
  (pe_lst ha).imp fun σ H Q ⟨μ, L, ρ, st, R, RE, h⟩ => by
    rw [evE] at h
    refine in_A R RE h fun ws vs μ1 L1 H1 st1 e1 R1 RE1 r1 h1 => ?_
    split at h1
    · rename_i z
      refine ⟨by rw [repws_len r1]; exact lenOk_le z, fun p hp => ?_⟩
      cases m with
      | true => exact fin_lstM R1 h1 hp r1
      | false =>
        cases q : unW ws with
        | none => simp only [q] at h1; exact h1.elim
        | some ds => simp only [q] at h1; exact fin_lst R1 h1 hp (unW_reps r1 q)
    · exact h1.elim
theorem s_dnwT {p : Pos} : PE X (.Dict [] [] p) (tE F Ew (evE C (.dnw true))) :=
  pe_dnewT.imp fun σ H Q ⟨μ, L, ρ, st, R, RE, h⟩ => by
    rw [evE] at h
    exact fun p hp => Post.thing R h hp ⟨[], upd_same, .nil⟩
theorem s_dnwK {p : Pos} : PE X (.Dict [] [] p) (tE F Ew (evE C (.dnw false))) :=
  pe_dnewK.imp fun σ H Q ⟨μ, L, ρ, st, R, RE, h⟩ => by
    rw [evE] at h
    exact fun p hp => Post.thing R h hp ⟨[], upd_same, .nil⟩

/-! ### a[b] -/
noncomputable def rIxDic : R2 := fun x y H Q => ∃ a v, x = .ref a ∧ DGet H a y (some v) ∧ Q v H
open PyProof.Rows in
theorem ix_dic (hu : X.A.units + 66 < cLine) : IxR X rIxDic := by
  intro value slice pins s σ H x y v u Q I rx ry h hs
  obtain ⟨a, z, rfl, g, q⟩ := h
  cases rx
  have hT := dict_typeIs I g
  unfold subscriptTail
  refine wpAny_bind ?_
  rw [getitemInPython_of_ne hT.not_modules]
  refine wpAny_bind (wpAny_specialOf hT PySem.F.slot_dict_getitem.lookup ?_)
  have fin : wpAny (model X.prog X.w) X.A (subscripted slice false (.ref a) u) (fun r s₃ => wpAny (model X.prog X.w) X.A (letTemporaryGo value (.ref a) r >>= fun _ => pure r) (EP X pins σ Q) X.xe s₃) X.xe s := by
    rw [hs]
    exact wpAny_operating (d_getItem (by omega) I g ry fun w' s3 I3 rw' => wpAny_bind (wpAny_letTemporaryGo (wpAny_pure ⟨z, H, I3, rw', q⟩)))
  first
    | exact wpAny_pure (wpAny_bind fin)
    | exact wpAny_bind (wpAny_pure (wpAny_bind fin))
    | exact wpAny_bind fin
theorem get_ws : ∀ {vs : List V} {ws : List W} {i : Nat} {w : W}, RepWs F μ L H vs ws → ws[i]? = some w → ∃ v, vs[i]? = some v ∧ RepW F μ L H v w
  | _, _, _, _, .nil, e => by simp at e
  | _, _, 0, _, .cons r _, e => by simp at e; subst e; exact ⟨_, rfl, r⟩
  | _, _, i + 1, _, .cons _ t, e => by
    obtain ⟨v, h1, h2⟩ := get_ws (i := i) t (by simpa using e)
    exact ⟨v, by simpa using h1, h2⟩
theorem atI_ws {vs : List V} {ws : List W} {j : Int} {w : W} (r : RepWs F μ L H vs ws) (e : atI ws j = some w) : ∃ v, atI vs j = some v ∧ RepW F μ L H v w := by
  unfold atI at e ⊢
  rw [repws_len r]
  cases q : ixN ws.length j with
  | none => rw [q] at e; cases e
  | some k => rw [q] at e; exact get_ws r e
theorem atI_ds {vs : List V} {ds : List D} {j : Int} {d : D} (r : RepDs F L H vs ds) (e : atI ds j = some d) : ∃ v, atI vs j = some v ∧ RepD F L H v d := by
  unfold atI at e ⊢
  rw [r.length]
  cases q : ixN ds.length j with
  | none => rw [q] at e; cases e
  | some k => rw [q] at e; exact r.get e
theorem getK_ws {κ : Type} [DecidableEq κ] (k : κ) : ∀ {vs : List (κ × V)} {ws : List (κ × W)} {w : W}, T.RepE F μ L H vs ws → getK ws k = some w → ∃ v, valV vs k = some v ∧ RepW F μ L H v w
  | _, _, _, .nil, e => by simp [getK] at e
  | _, _, _, .cons (k := j) (v := v) (vs := vs) (w := w) (ws := ws) r t, e => by
    by_cases z : j = k
    · subst z
      have : getK ((j, w) :: ws) j = some w := by simp [getK]
      rw [this] at e; cases e
      exact ⟨v, valV_pos rfl, r⟩
    · have : getK ((j, w) :: ws) k = getK ws k := by simp [getK, z]
      rw [this] at e
      obtain ⟨u, h1, h2⟩ := getK_ws k t e
      exact ⟨u, by rw [valV_neg z]; exact h1, h2⟩
theorem getK_ks (k : Key) : ∀ {vs : List (Key × V)} {ws : List (Key × D)} {w : D}, RepKs F L H vs ws → getK ws k = some w → ∃ v, valV vs k = some v ∧ RepD F L H v w
  | _, _, _, .nil, e => by simp [getK] at e
  | _, _, _, .cons (k := j) (v := v) (vs := vs) (d := w) (ds := ws) r t, e => by
    by_cases z : j = k
    · subst z
      have : getK ((j, w) :: ws) j = some w := by simp [getK]
      rw [this] at e; cases e
      exact ⟨v, valV_pos rfl, r⟩
    · have : getK ((j, w) :: ws) k = getK ws k := by simp [getK, z]
      rw [this] at e
      obtain ⟨u, h1, h2⟩ := getK_ks k t e
      exact ⟨u, by rw [valV_neg z]; exact h1, h2⟩
theorem getK_ts (k : List Key) : ∀ {vs : List (List Key × V)} {ws : List (List Key × D)} {w : D}, RepTs F L H vs ws → getK ws k = some w → ∃ v, valV vs k = some v ∧ RepD F L H v w
  | _, _, _, .nil, e => by simp [getK] at e
  | _, _, _, .cons (k := j) (v := v) (vs := vs) (d := w) (ds := ws) r t, e => by
    by_cases z : j = k
    · subst z
      have : getK ((j, w) :: ws) j = some w := by simp [getK]
      rw [this] at e; cases e
      exact ⟨v, valV_pos rfl, r⟩
    · have : getK ((j, w) :: ws) k = getK ws k := by simp [getK, z]
      rw [this] at e
      obtain ⟨u, h1, h2⟩ := getK_ts k t e
      exact ⟨u, by rw [valV_neg z]; exact h1, h2⟩
noncomputable def rIxT' (K : PySem.W.Frag) : R2 := fun x y H Q => rIx K x y H Q ∨ rIxDic x y H Q
theorem ix_any (hu : X.A.units + 66 < cLine) : IxR X (rIxT' X.K) := ix_seq.or (ix_dic hu)
theorem keyT_v {v : V} {d : D} {ks : List Key} (r : RepD F L H v d) (h : keyTD d = some ks) : ∃ b, v = .ref b ∧ H b = some (.tup (ks.map kV)) := by
  cases r <;> try (simp only [keyTD, reduceCtorEq] at h; done)
  rename_i hL ht rt
  rw [keyTD] at h
  have e := keys_v rt h
  subst e
  exact ⟨_, rfl, ht⟩
theorem atI_ints {ns : List Int} {j : Int} {d : D} (e : atI (ns.map D.int) j = some d) : ∃ i, d = .int i ∧ atI (ns.map V.int) j = some (.int i) := by
  unfold atI at e ⊢
  rw [List.length_map] at e ⊢
  cases q : ixN ns.length j with
  | none => rw [q] at e; cases e
  | some k =>
    rw [q] at e
    simp only [Option.bind_some, List.getElem?_map] at e ⊢
    cases z : ns[k]? with
    | none => rw [z] at e; cases e
    | some i => rw [z] at e; cases e; exact ⟨i, rfl, rfl⟩
theorem ixW_ok (R : Rel F μ L H st) {v u : V} {x y w : W} (r1 : RepW F μ L H v x) (r2 : RepW F μ L H u y) (h : ixW st x y = some w) (q : ∀ v, RepW F μ L H v w → G v H) : rIxT' F.K v u H G := by
  unfold ixW at h
  split at h
  · rename_i i
    cases r2 with
    | p r2 =>
    split at h
    · rename_i n
      cases e : st[n]? with
      | none => rw [e] at h; cases h
      | some o =>
        rw [e] at h
        cases o with
        | dead => cases h
        | ins c fs => cases h
        | lst ws =>
          cases r2 <;> try (cases h; done)
          obtain ⟨a, rfl, _, ⟨vs, h1, h2⟩, _⟩ := R.thg r1 e rfl
          obtain ⟨z, e1, e2⟩ := atI_ws h2 h
          exact .inl (.inl ⟨a, vs, _, z, rfl, rfl, SqL.of h1, e1, q z e2⟩)
        | tup ws =>
          cases r2 <;> try (cases h; done)
          obtain ⟨a, rfl, _, ⟨vs, h1, h2⟩, _⟩ := R.thg r1 e rfl
          obtain ⟨z, e1, e2⟩ := atI_ws h2 h
          exact .inl (.inr (.inl ⟨a, vs, _, z, rfl, rfl, SqT.of h1, e1, q z e2⟩))
        | dic kvs =>
          obtain ⟨a, rfl, _, ⟨vs, h1, h2⟩, _⟩ := R.thg r1 e rfl
          simp only at h
          cases k : keyD i with
          | none => rw [k] at h; cases h
          | some kk =>
            rw [k] at h
            obtain ⟨z, e1, e2⟩ := getK_ws kk h2 h
            exact .inr ⟨a, z, rfl, .inl ⟨vs, kk, .inl h1, key_v r2 k, e1.symm⟩, q z e2⟩
        | dit kvs =>
          obtain ⟨a, rfl, _, ⟨vs, h1, h2⟩, _⟩ := R.thg r1 e rfl
          simp only at h
          cases k : keyTD i with
          | none => rw [k] at h; cases h
          | some kk =>
            rw [k] at h
            obtain ⟨z, e1, e2⟩ := getK_ws kk h2 h
            obtain ⟨b, rfl, hb⟩ := keyT_v r2 k
            exact .inr ⟨a, z, rfl, .inr ⟨vs, kk, b, .inl h1, rfl, hb, e1.symm⟩, q z e2⟩
        | ldk kvs =>
          obtain ⟨a, rfl, _, ⟨vs, h1, h2⟩, _⟩ := R.thg r1 e rfl
          simp only at h
          cases k : keyD i with
          | none => rw [k] at h; cases h
          | some kk =>
            rw [k] at h
            obtain ⟨z, e1, e2⟩ := getK_ws kk h2 h
            exact .inr ⟨a, z, rfl, .inl ⟨vs, kk, .inr h1, key_v r2 k, e1.symm⟩, q z e2⟩
        | ldt kvs =>
          obtain ⟨a, rfl, _, ⟨vs, h1, h2⟩, _⟩ := R.thg r1 e rfl
          simp only at h
          cases k : keyTD i with
          | none => rw [k] at h; cases h
          | some kk =>
            rw [k] at h
            obtain ⟨z, e1, e2⟩ := getK_ws kk h2 h
            obtain ⟨b, rfl, hb⟩ := keyT_v r2 k
            exact .inr ⟨a, z, rfl, .inr ⟨vs, kk, b, .inr h1, rfl, hb, e1.symm⟩, q z e2⟩
    · rename_i kvs
      cases r1 with
      | p r1 => cases r1 with
        | dic hL f r =>
          cases k : keyD i with
          | none => rw [k] at h; cases h
          | some kk =>
            rw [k] at h
            cases z : getK kvs kk with
            | none => simp only [Option.bind_some, z] at h; cases h
            | some d =>
              simp only [Option.bind_some, z] at h; cases h
              obtain ⟨v', e1, e2⟩ := getK_ks kk r z
              exact .inr ⟨_, v', rfl, .inl ⟨_, kk, f, key_v r2 k, e1.symm⟩, q v' (.p e2)⟩
    · rename_i kvs
      cases r1 with
      | p r1 => cases r1 with
        | dit hL f r =>
          cases k : keyTD i with
          | none => rw [k] at h; cases h
          | some kk =>
            rw [k] at h
            cases z : getK kvs kk with
            | none => simp only [Option.bind_some, z] at h; cases h
            | some d =>
              simp only [Option.bind_some, z] at h; cases h
              obtain ⟨v', e1, e2⟩ := getK_ts kk r z
              obtain ⟨b, rfl, hb⟩ := keyT_v r2 k
              exact .inr ⟨_, v', rfl, .inr ⟨_, kk, b, f, rfl, hb, e1.symm⟩, q v' (.p e2)⟩
    · rename_i z
      cases r1 with
      | p r1 => cases r1 with
        | str =>
          cases r2 <;> try (cases h; done)
          simp only at h
          split at h
          · rename_i ok
            cases e : atI z.cps.toList _ with
            | none => rw [e] at h; cases h
            | some c =>
              rw [e] at h; cases h
              exact .inl (.inr (.inr ⟨z, _, c, rfl, rfl, lenOk_le ok, e, q _ (.p (.str _))⟩))
          · cases h
    · rename_i d x1 x2 x3
      clear x1 x2 x3
      cases r2 <;> try (cases h; done)
      rename_i j
      simp only at h
      cases r1 with
      | p r1 =>
        cases r1 <;> try (simp only [itemsD, Option.bind_none, Option.map_none, reduceCtorEq] at h; done)
        · rename_i hL f r
          simp only [itemsD, Option.bind_some] at h
          cases e : atI _ j with
          | none => rw [e] at h; cases h
          | some d =>
            rw [e] at h; cases h
            obtain ⟨v', e1, e2⟩ := atI_ds r e
            exact .inl (.inr (.inl ⟨_, _, _, v', rfl, rfl, SqT.of f, e1, q _ (.p e2)⟩))
        · rename_i f r
          simp only [itemsD, Option.bind_some] at h
          cases e : atI _ j with
          | none => rw [e] at h; cases h
          | some d =>
            rw [e] at h; cases h
            obtain ⟨v', e1, e2⟩ := atI_ds r e
            exact .inl (.inr (.inl ⟨_, _, _, v', rfl, rfl, f.sq, e1, q _ (.p e2)⟩))
        · rename_i hL f r
          simp only [itemsD, Option.bind_some] at h
          cases e : atI _ j with
          | none => rw [e] at h; cases h
          | some d =>
            rw [e] at h; cases h
            obtain ⟨v', e1, e2⟩ := atI_ds r e
            exact .inl (.inl ⟨_, _, _, v', rfl, rfl, SqL.of f, e1, q _ (.p e2)⟩)
        · rename_i hL f r
          simp only [itemsD, Option.bind_some] at h
          cases e : atI _ j with
          | none => rw [e] at h; cases h
          | some d =>
            rw [e] at h; cases h
            obtain ⟨i, rfl, e1⟩ := atI_ints e
            exact .inl (.inl ⟨_, _, _, _, rfl, rfl, f, e1, q _ (.p (.int i))⟩)
  · cases h
theorem s_ix (hK : X.K = F.K) (hu : X.A.units + 66 < cLine) (hs : PlainIx eb) (ha : PE X ea (tE F Ew (evE C a))) (hb : PE X eb (tE F Ew (evE C b))) : PE X (.Subscript ea eb pos) (tE F Ew (evE C (.ix a b))) :=
  (pe_ix (ix_any hu) ha hb hs).imp fun σ H Q ⟨μ, L, ρ, st, R, RE, h⟩ => by
    rw [evE] at h
    refine in_E R RE h fun x v μ1 L1 H1 st1 e1 R1 RE1 r1 h1 => ?_
    refine in_E R1 RE1 h1 fun y u μ2 L2 H2 st2 e2 R2 RE2 r2 h2 => ?_
    cases q : ixW st2 x y with
    | none => simp only [q] at h2; exact h2.elim
    | some w =>
      simp only [q] at h2
      rw [hK]
      exact ixW_ok R2 (e2.wv R1 r1) r2 q fun v r => Post.here R2 h2 v r

/-! ### slices -/
theorem o_none : PO X none (tO F Ew (evO C .none)) := po_none.imp fun σ H Q ⟨μ, L, ρ, st, R, RE, h⟩ => by
  rw [evO] at h
  exact Post.here R h
theorem o_some (ha : PE X ea (tE F Ew (evE C a))) : PO X (some ea) (tO F Ew (evO C (.some a))) := (po_some ha).imp fun σ H Q ⟨μ, L, ρ, st, R, RE, h⟩ => by
  rw [evO] at h
  refine in_E R RE h fun x v μ1 L1 H1 st1 e1 R1 RE1 r1 h1 => ?_
  cases r1 with
  | r m => exact h1.elim
  | p r =>
    cases r <;> first
      | exact h1.elim
      | exact ⟨_, rfl, Post.here R1 h1⟩
noncomputable def rSl (K : PySem.W.Frag) : V → Option Int → Option Int → Hp → VK → Prop := fun x lo hi H Q => (rSlA K x lo hi H Q ∨ rSlL K x lo hi H Q) ∨ rSlS x lo hi H Q
theorem sl_any : SlR X (rSl X.K) := (sl_tupA.or sl_list).or sl_str
theorem cutV_rep {vs : List V} {ds : List D} (lo hi : Option Int) (r : RepDs F L H vs ds) : RepDs F L H (cutV vs lo hi) (cutL ds lo hi) := by
  unfold cutV cutL
  rw [r.length]
  exact (r.drop _).take _
theorem cut_whole {α : Type} (xs : List α) (lo hi : Option Int) (h : HT.sIx xs.length 0 lo = 0 ∧ HT.sIx xs.length xs.length hi = xs.length) : cutL xs lo hi = xs := by
  unfold cutL
  rw [h.1, h.2]
  simp
theorem s_sli {lo hi : Opt} {elo ehi : Option Expr} {p2 : Pos} (hK : X.K = F.K) (ha : PE X ea (tE F Ew (evE C a))) (hl : PO X elo (tO F Ew (evO C lo))) (hh : PO X ehi (tO F Ew (evO C hi))) : PE X (.Subscript ea (.Slice elo ehi none p2) pos) (tE F Ew (evE C (.sli a lo hi))) :=
  (pe_slice sl_any ha hl hh).imp fun σ H Q ⟨μ, L, ρ, st, R, RE, h⟩ => by
    rw [evE] at h
    refine in_E R RE h fun x v μ1 L1 H1 st1 e1 R1 RE1 r1 h1 => ?_
    refine in_O R1 RE1 h1 fun l μ2 L2 H2 st2 e2 R2 RE2 h2 => ?_
    refine in_O R2 RE2 h2 fun u μ3 L3 H3 st3 e3 R3 RE3 h3 => ?_
    rw [hK]
    have r3 := e3.wv R2 (e2.wv R1 r1)
    cases q : vw st3 x with
    | none => simp only [q] at h3; exact h3.elim
    | some d =>
      simp only [q] at h3
      have sh := sh_of R3 r3 q
      cases d <;> try (exact h3.elim)
      · rename_i z
        rw [sh.str]
        simp only [sliD] at h3
        split at h3
        · rename_i ok
          exact .inr ⟨z, rfl, lenOk_le ok, fin_str R3 h3⟩
        · exact h3.elim
      · obtain ⟨a, xs, rfl, f, hL, r⟩ := sh.tup
        refine .inl (.inl ⟨a, xs, rfl, SqT.of f, fun w => ?_, fun _ p hp => fin_tup R3 h3 hp (cutV_rep l u r)⟩)
        have w' := w
        rw [r.length] at w'
        simp only [sliD, cut_whole _ _ _ w', resD] at h3
        exact Post.here R3 h3 _ (.p (.tup hL f r))
      · obtain ⟨a, xs, rfl, f, r⟩ := sh.lstI
        exact .inl (.inr ⟨a, xs, rfl, SqL.of f, fun p hp => fin_lst R3 h3 hp (cutV_rep l u r)⟩)
      · rename_i ns
        cases sh with
        | d r =>
          cases r with
          | scr t f rr =>
            have tints : ∀ ns : List Int, RepDs F L3 H3 (ns.map V.int) (ns.map D.int) := fun ns => by
              induction ns with
              | nil => exact .nil
              | cons n r ih => exact .cons (.int n) ih
            exact .inl (.inr ⟨_, ns.map V.int, rfl, f, fun p hp => fin_lst R3 h3 hp (cutV_rep l u (tints ns))⟩)

/-! ### fields -/
theorem fld_rep (f : Str) : ∀ {vs : List (Str × V)} {ws : List (Str × W)} {w : W}, T.RepE F μ L H vs ws → ws.lookup f = some w → ∃ v, vs.lookup f = some v ∧ RepW F μ L H v w
  | _, _, _, .nil, e => by simp at e
  | _, _, _, .cons (k := j) (v := v) (vs := vs) (w := w) (ws := ws) r t, e => by
    by_cases z : f = j
    · subst z
      simp at e; subst e
      exact ⟨v, by simp, r⟩
    · have zz : (f == j) = false := by simp [z]
      simp only [List.lookup_cons, zz] at e ⊢
      exact fld_rep f t e
theorem s_fld (c : Nat) {f : Str} (hK : X.K = F.K) (hb : attributeBase ea f X.env (eval ea X.env) = eval ea X.env) (hc : Cls F.K (F.Cl c)) (hn : NoAttr F.K (F.Cl c) f) (ha : PE X ea (tE F Ew (evE C a))) : PE X (.Attribute ea f pos) (tE F Ew (evE C (.fld c a f))) :=
  (pe_fld ha hb).imp fun σ H Q ⟨μ, L, ρ, st, R, RE, h⟩ => by
    rw [evE] at h
    refine in_E R RE h fun x v μ1 L1 H1 st1 e1 R1 RE1 r1 h1 => ?_
    rw [hK]
    cases x with
    | p d => exact h1.elim
    | r n =>
      cases q : st1[n]? with
      | none => simp only [fldW, q] at h1; exact h1.elim
      | some o =>
        cases o with
        | ins c' fs =>
          simp only [fldW, q] at h1
          split at h1
          · rename_i w e
            split at e
            · rename_i ec
              subst ec
              obtain ⟨a, rfl, _, ⟨dx, vs, g1, g2⟩, _⟩ := R1.thg r1 q rfl
              obtain ⟨v, l, rv⟩ := fld_rep f g2 e
              exact ⟨a, _, dx, vs, v, rfl, g1, hc, hn, l, Post.here R1 h1 v rv⟩
            · cases e
          · exact h1.elim
        | _ => simp only [fldW, q] at h1; exact h1.elim

/-! ### what becomes a value -/
mutual
theorem frzN_ok : ∀ (k : Nat) (w : W) {L : Addr → Prop} {st : Sto} (R : Rel F μ L H st) {v : V} {d : D} {st' : Sto}, RepW F μ L H v w → frzN k w st = some (d, st') → ∃ L', Ext μ L H st μ L' H st' ∧ Rel F μ L' H st' ∧ RepD F L' H v d
  | 0, .p e, L, st, R, v, d, st', r, h => by
    rw [frzN] at h
    cases h
    cases r with | p r => exact ⟨L, .refl, R, r⟩
  | _ + 1, .p e, L, st, R, v, d, st', r, h => by
    rw [frzN] at h
    cases h
    cases r with | p r => exact ⟨L, .refl, R, r⟩
  | 0, .r n, L, st, R, v, d, st', r, h => by rw [frzN] at h; cases h
  | k + 1, .r n, L, st, R, v, d, st', r, h => by
    rw [frzN] at h
    cases q : st[n]? with
    | none => simp only [q] at h; cases h
    | some o =>
      simp only [q] at h
      cases o <;> try (cases h; done)
      rename_i ws
      simp only at h
      cases q2 : frzNs k ws st with
      | none => simp only [q2] at h; cases h
      | some x =>
        obtain ⟨ds, st1⟩ := x
        simp only [q2] at h
        cases q3 : st1[n]? with
        | none => simp only [q3] at h; cases h
        | some o1 =>
          simp only [q3] at h
          cases o1 <;> try (cases h; done)
          simp only at h
          split at h
          · cases h
            obtain ⟨a, rfl, ha, ⟨vs, g1, g2⟩, _⟩ := R.thg r q rfl
            obtain ⟨L1, e1, R1, r1⟩ := frzNs_ok k ws R g2 q2
            have rr : RepW F μ L1 H (.ref a) (.r n) := by cases r with | r m => exact .r m
            obtain ⟨a', hr, ha', _, m'⟩ := R1.thg rr q3 rfl
            cases hr
            refine ⟨_, e1.trans (Ext.freeze R1 q3 rfl ha'), Rel.freeze R1 q3 rfl ha', .lst (.inr rfl) g1 (r1.kp ((Ext.freeze R1 q3 rfl ha').kp R1))⟩
          · cases h
theorem frzNs_ok : ∀ (k : Nat) (ws : List W) {L : Addr → Prop} {st : Sto} (R : Rel F μ L H st) {vs : List V} {ds : List D} {st' : Sto}, RepWs F μ L H vs ws → frzNs k ws st = some (ds, st') → ∃ L', Ext μ L H st μ L' H st' ∧ Rel F μ L' H st' ∧ RepDs F L' H vs ds
  | k, [], L, st, R, vs, ds, st', r, h => by
    rw [frzNs] at h
    cases h
    cases r
    exact ⟨L, .refl, R, .nil⟩
  | k, w :: ws, L, st, R, vs, ds, st', r, h => by
    rw [frzNs] at h
    cases q1 : frzN k w st with
    | none => simp only [q1] at h; cases h
    | some x =>
      obtain ⟨d, st1⟩ := x
      simp only [q1] at h
      cases q2 : frzNs k ws st1 with
      | none => simp only [q2] at h; cases h
      | some x =>
        obtain ⟨ds', st2⟩ := x
        simp only [q2] at h
        cases h
        cases r with
        | cons r t =>
          obtain ⟨L1, e1, R1, r1⟩ := frzN_ok k w R r q1
          obtain ⟨L2, e2, R2, r2⟩ := frzNs_ok k ws R1 (e1.wvs R t) q2
          exact ⟨L2, e1.trans e2, R2, .cons (r1.kp (e2.kp R1)) r2⟩
end
theorem frz_ok (R : Rel F μ L H st) {v : V} {x : W} {w : W} {st' : Sto} (r : RepW F μ L H v x) (h : frzW st x = some (w, st')) :
    ∃ L', Ext μ L H st μ L' H st' ∧ Rel F μ L' H st' ∧ RepW F μ L' H v w := by
  cases x with
  | p d => cases h; exact ⟨L, .refl, R, r⟩
  | r n =>
    rw [frzW] at h
    cases q : st[n]? with
    | none => rw [q] at h; cases h
    | some o =>
      rw [q] at h
      cases z : frzO o with
      | none =>
        simp only [z] at h
        obtain ⟨⟨d, s2⟩, h1, h2⟩ := Option.map_eq_some_iff.mp h
        cases h2
        obtain ⟨L', e1, R1, r1⟩ := frzN_ok 4 (.r n) R r h1
        exact ⟨L', e1, R1, .p r1⟩
      | some d =>
        simp only [z] at h
        cases h
        have al : o.alive = true := by cases o <;> first | rfl | cases z
        obtain ⟨a, rfl, ha, g, _⟩ := R.thg r q (alive_there al)
        refine ⟨_, Ext.freeze R q al ha, Rel.freeze R q al ha, .p ?_⟩
        have kp := (Ext.freeze R q al ha).kp R
        cases o with
        | dead => cases z
        | ldk _ => cases z
        | ldt _ => cases z
        | ins c fs => cases z
        | lst ws =>
          obtain ⟨vs, g1, g2⟩ := g
          rw [frzO] at z
          cases e : unW ws with
          | none => rw [e] at z; cases z
          | some ds => rw [e] at z; cases z; exact .lst (.inr rfl) g1 ((unW_reps g2 e).kp kp)
        | tup ws =>
          obtain ⟨vs, g1, g2⟩ := g
          rw [frzO] at z
          cases e : unW ws with
          | none => rw [e] at z; cases z
          | some ds => rw [e] at z; cases z; exact .tup (.inr rfl) g1 ((unW_reps g2 e).kp kp)
        | dic ws =>
          obtain ⟨vs, g1, g2⟩ := g
          rw [frzO] at z
          cases e : unK ws with
          | none => rw [e] at z; cases z
          | some ds => rw [e] at z; cases z; exact .dic (.inr rfl) (.inl g1) ((unK_reps g2 e).kp kp)
        | dit ws =>
          obtain ⟨vs, g1, g2⟩ := g
          rw [frzO] at z
          cases e : unK ws with
          | none => rw [e] at z; cases z
          | some ds => rw [e] at z; cases z; exact .dit (.inr rfl) (.inl g1) ((unT_reps g2 e).kp kp)
theorem s_frz (ha : PE X ea (tE F Ew (evE C a))) : PE X ea (tE F Ew (evE C (.frz a))) :=
  ha.imp fun σ H Q ⟨μ, L, ρ, st, R, RE, h⟩ => by
    rw [evE] at h
    refine in_E R RE h fun x v μ1 L1 H1 st1 e1 R1 RE1 r1 h1 => ?_
    cases q : frzW st1 x with
    | none => simp only [q] at h1; exact h1.elim
    | some y =>
      obtain ⟨w, st'⟩ := y
      simp only [q] at h1
      obtain ⟨L', e', R', r'⟩ := frz_ok R1 r1 q
      exact h1 _ _ _ e' R' v r'
end
end T

set_option maxRecDepth 100000
set_option maxHeartbeats 4000000
/-! T: calls -/
namespace T
open PySem L2
/-- what a def of the text promises: what it comes to -/
noncomputable def spF (F : Fx) (C : Call) (f : Nat) (ar : Nat) : Sp := fun vs H Q E => ∃ μ L st ws, vs.length = ar ∧ Rel F μ L H st ∧ RepWs F μ L H vs ws ∧ Post F E μ L H st (C f ws st) fun w μ' L' H' _ => ∀ v, RepW F μ' L' H' v w → Q v H'
section
variable {F : Fx} {Ew : XK} {X : Cx} {C : Call} {a b c : Ex} {ea eb ec : Expr} {pos : Pos} {μ μ' : List Addr} {L L' : Addr → Prop} {H H' : Hp} {st st' : Sto} {G : VK}
theorem flat_alive : ∀ {o : O}, o.flat = true → o.alive = true
  | .dead, h => h
  | .lst _, _ => rfl
  | .tup _, _ => rfl
  | .dic _, _ => rfl
  | .dit _, _ => rfl
  | .ins _ _, _ => rfl
  | .ldk _, h => by cases h
  | .ldt _, h => by cases h
theorem repw_flat {v : V} {w : W} (hf : w.isP = true) (r : RepW F μ L H v w) : RepW F μ' L H v w := by
  cases r with
  | p r => exact .p r
  | r m => cases hf
theorem repws_flat : ∀ {vs : List V} {ws : List W}, ws.all W.isP = true → RepWs F μ L H vs ws → RepWs F μ' L H vs ws
  | _, _, _, .nil => .nil
  | _, _, h, .cons r t => by
    simp only [List.all_cons, Bool.and_eq_true] at h
    exact .cons (repw_flat h.1 r) (repws_flat h.2 t)
theorem repe_flat {κ : Type} : ∀ {vs : List (κ × V)} {ws : List (κ × W)}, (ws.all fun x => x.2.isP) = true → T.RepE F μ L H vs ws → T.RepE F μ' L H vs ws
  | _, _, _, .nil => .nil
  | _, _, h, .cons r t => by
    simp only [List.all_cons, Bool.and_eq_true] at h
    exact .cons (repw_flat h.1 r) (repe_flat h.2 t)
/-- a thing in which nothing of the store lies stands so in any store -/
theorem repo_flat {a : Addr} {o : O} (hf : o.flat = true) (r : RepO F μ L H a o) : RepO F μ' L H a o := by
  cases o with
  | dead => exact r
  | lst ws => obtain ⟨vs, e, r⟩ := r; exact ⟨vs, e, repws_flat hf r⟩
  | tup ws => obtain ⟨vs, e, r⟩ := r; exact ⟨vs, e, repws_flat hf r⟩
  | dic ws => obtain ⟨vs, e, r⟩ := r; exact ⟨vs, e, repe_flat hf r⟩
  | dit ws => obtain ⟨vs, e, r⟩ := r; exact ⟨vs, e, repe_flat hf r⟩
  | ins c fs => obtain ⟨dx, vs, e, r⟩ := r; exact ⟨dx, vs, e, repe_flat hf r⟩
  | ldk _ => cases hf
  | ldt _ => cases hf
/-- the arguments, renumbered -/
theorem pick_rep {μA : List Addr} : ∀ (k : Nat) {vs : List V} {ws us : List W} {ns : List Nat}, pick.go k ws = some (us, ns) → (∀ (i n : Nat), ns[i]? = some n → μA[k + i]? = μ[n]?) → RepWs F μ L H vs ws → RepWs F μA L H vs us
  | _, _, [], us, ns, h, _, .nil => by rw [pick.go] at h; cases h; exact .nil
  | k, _, .p d :: r, us, ns, h, hm, .cons r1 t => by
    rw [pick.go] at h
    cases q : pick.go k r with
    | none => rw [q] at h; cases h
    | some x =>
      rw [q] at h; cases h
      exact .cons (repw_flat rfl r1) (pick_rep k q hm t)
  | k, _, .r n :: r, us, ns, h, hm, .cons r1 t => by
    rw [pick.go] at h
    cases q : pick.go (k + 1) r with
    | none => rw [q] at h; cases h
    | some x =>
      rw [q] at h; cases h
      refine .cons ?_ (pick_rep (k + 1) q (fun i m e => by
        have := hm (i + 1) m (by simpa using e)
        rw [← this]
        congr 1
        omega) t)
      cases r1 with
      | r m => exact .r (by have := hm 0 n rfl; rw [Nat.add_zero] at this; rw [this]; exact m)
theorem objs_get : ∀ {ns : List Nat} {os : List O}, objs st ns = some os → os.length = ns.length ∧ ∀ (i n : Nat), ns[i]? = some n → ∃ o, os[i]? = some o ∧ st[n]? = some o ∧ o.flat = true
  | [], _, h => by rw [objs] at h; cases h; exact ⟨rfl, fun i n e => by simp at e⟩
  | n :: r, _, h => by
    rw [objs] at h
    cases q1 : st[n]? with
    | none => simp only [q1] at h; cases h
    | some o =>
      cases q2 : objs st r with
      | none => simp only [q1, q2] at h; cases h
      | some os =>
        simp only [q1, q2] at h
        split at h
        · rename_i hf
          cases h
          obtain ⟨hl, hg⟩ := objs_get q2
          refine ⟨congrArg (· + 1) hl, fun i m e => ?_⟩
          cases i with
          | zero => cases e; exact ⟨o, rfl, q1, hf⟩
          | succ i => obtain ⟨o', x, y, z⟩ := hg i m (by simpa using e); exact ⟨o', by simpa using x, y, z⟩
        · cases h
theorem back_get : ∀ {ns : List Nat} {s' : Sto} {st st' : Sto}, ns.Nodup → (∀ n, n ∈ ns → n < st.length) → back st ns s' = some st' →
    st'.length = st.length ∧ (∀ (n : Nat), n ∉ ns → st'[n]? = st[n]?) ∧ ∀ (i n : Nat), ns[i]? = some n → ∃ o, s'[i]? = some o ∧ o.flat = true ∧ st'[n]? = some o
  | [], _, st, st', _, _, h => by
    rw [back] at h; cases h
    exact ⟨rfl, fun _ _ => rfl, fun i n e => by simp at e⟩
  | n :: r, [], st, st', _, _, h => by rw [back] at h; cases h
  | n :: r, o :: os, st, st', hn, hlt, h => by
    rw [back] at h
    split at h
    · rename_i hf
      obtain ⟨h1, h2⟩ := List.nodup_cons.mp hn
      obtain ⟨a1, a2, a3⟩ := back_get h2 (fun m hm => by rw [List.length_set]; exact hlt m (List.mem_cons_of_mem _ hm)) h
      refine ⟨by rw [a1, List.length_set], fun m hm => ?_, fun i m e => ?_⟩
      · have m1 : m ∉ r := fun z => hm (List.mem_cons_of_mem _ z)
        have m2 : n ≠ m := fun z => hm (by rw [z]; exact List.mem_cons_self)
        rw [a2 m m1, List.getElem?_set_ne m2]
      · cases i with
        | zero =>
          cases e
          refine ⟨o, rfl, hf, ?_⟩
          rw [a2 n h1, List.getElem?_set_self (hlt n List.mem_cons_self)]
        | succ i =>
          obtain ⟨o', x, y, z⟩ := a3 i m (by simpa using e)
          exact ⟨o', by simpa using x, y, z⟩
    · cases h
theorem map_at (R : Rel F μ L H st) : ∀ (ns : List Nat), (∀ n, n ∈ ns → n < st.length) → ∃ μA : List Addr, μA.length = ns.length ∧ ∀ (i n : Nat), ns[i]? = some n → μA[i]? = μ[n]?
  | [], _ => ⟨[], rfl, fun i n e => by simp at e⟩
  | n :: r, h => by
    obtain ⟨μA, hl, hm⟩ := map_at R r fun m hm => h m (List.mem_cons_of_mem _ hm)
    have hn : n < μ.length := by rw [R.len]; exact h n List.mem_cons_self
    refine ⟨μ[n] :: μA, congrArg (· + 1) hl, fun i m e => ?_⟩
    cases i with
    | zero => cases e; simp [List.getElem?_eq_getElem hn]
    | succ i => simpa using hm i m (by simpa using e)
/-- the arguments' things as a store -/
theorem calA_in (R : Rel F μ L H st) {ns : List Nat} {os : List O} {μA : List Addr} (hn : ns.Nodup) (ho : objs st ns = some os) (hl : μA.length = ns.length) (hm : ∀ (i n : Nat), ns[i]? = some n → μA[i]? = μ[n]?) :
    Rel F μA L H os ∧ ∀ a, At μA os a → ∃ (i n : Nat), ns[i]? = some n ∧ μA[i]? = some a ∧ At μ st a := by
  obtain ⟨g1, g2⟩ := objs_get ho
  have lk : ∀ (i : Nat) (o : O), os[i]? = some o → ∃ n, ns[i]? = some n ∧ st[n]? = some o ∧ o.flat = true := fun i o e => by
    have hi : i < ns.length := by rw [← g1]; exact (List.getElem?_eq_some_iff.mp e).1
    obtain ⟨o', x, y, z⟩ := g2 i ns[i] (List.getElem?_eq_getElem hi)
    rw [e] at x; cases x
    exact ⟨_, List.getElem?_eq_getElem hi, y, z⟩
  refine ⟨⟨by rw [hl, g1], fun i o a e m al => ?_, fun i j a hi hj ei ej => ?_, R.told⟩, fun a ⟨i, ⟨o, e, al⟩, m⟩ => ?_⟩
  · obtain ⟨n, x, y, z⟩ := lk i o e
    rw [hm i n x] at m
    obtain ⟨p, q⟩ := R.obj n o a y m al
    exact ⟨p, repo_flat z q⟩
  · obtain ⟨o1, e1, al1⟩ := hi
    obtain ⟨o2, e2, al2⟩ := hj
    obtain ⟨n1, x1, y1, _⟩ := lk i o1 e1
    obtain ⟨n2, x2, y2, _⟩ := lk j o2 e2
    rw [hm i n1 x1] at ei
    rw [hm j n2 x2] at ej
    have := R.inj n1 n2 a ⟨o1, y1, al1⟩ ⟨o2, y2, al2⟩ ei ej
    subst this
    exact (List.getElem?_inj (List.getElem?_eq_some_iff.mp x1).1 hn).mp (x1.trans x2.symm)
  · obtain ⟨n, x, y, z⟩ := lk i o e
    exact ⟨i, n, x, m, n, ⟨o, y, al⟩, by rw [← hm i n x]; exact m⟩
/-- .. and back -/
theorem calA_out (R : Rel F μ L H st) {ns : List Nat} {os s' : Sto} {μA : List Addr} (hn : ns.Nodup) (ho : objs st ns = some os) (hl : μA.length = ns.length) (hm : ∀ (i n : Nat), ns[i]? = some n → μA[i]? = μ[n]?)
    (hb : back st ns s' = some st') (e : Ext μA L H os μ' L' H' s') (R' : Rel F μ' L' H' s') :
    Ext μ L H st μ L' H' st' ∧ Rel F μ L' H' st' ∧ ∀ a, At μ' s' a → (∃ j, ns.length ≤ j ∧ Live s' j ∧ μ'[j]? = some a) → H a = none := by
  obtain ⟨RA, atA⟩ := calA_in R hn ho hl hm
  obtain ⟨g1, g2⟩ := objs_get ho
  have lt : ∀ n, n ∈ ns → n < st.length := fun n hn' => by
    obtain ⟨i, hi, e⟩ := List.getElem_of_mem hn'
    obtain ⟨o, _, y, _⟩ := g2 i n (by rw [List.getElem?_eq_getElem hi, e])
    exact (List.getElem?_eq_some_iff.mp y).1
  obtain ⟨b1, b2, b3⟩ := back_get hn lt hb
  -- what lives behind lived ahead
  have liv : ∀ (n : Nat), Live st' n → Live st n := fun n ⟨o, x, al⟩ => by
    by_cases hm' : n ∈ ns
    · obtain ⟨i, hi, e⟩ := List.getElem_of_mem hm'
      obtain ⟨o', _, y, z⟩ := g2 i n (by rw [List.getElem?_eq_getElem hi, e])
      exact ⟨o', y, flat_alive z⟩
    · rw [b2 n hm'] at x; exact ⟨o, x, al⟩
  have livT : ∀ (n : Nat), LivT st' n → LivT st n := fun n ⟨o, x, al⟩ => by
    by_cases hm' : n ∈ ns
    · obtain ⟨i, hi, e⟩ := List.getElem_of_mem hm'
      obtain ⟨o', _, y, z⟩ := g2 i n (by rw [List.getElem?_eq_getElem hi, e])
      exact ⟨o', y, alive_there (flat_alive z)⟩
    · rw [b2 n hm'] at x; exact ⟨o, x, al⟩
  have E : Ext μ L H st μ L' H' st' := ⟨fun a o h z => e.keep a o h fun q => z (by obtain ⟨_, _, _, _, w⟩ := atA a q; exact w), e.tups, e.up, fun a h => by
      rcases e.new a h with q | q | q
      · exact .inl q
      · exact .inr (.inl q)
      · obtain ⟨_, _, _, _, w⟩ := atA a q; exact .inr (.inr w), fun _ _ h => h, fun a ⟨n, hn', x⟩ => .inr ⟨n, liv n hn', x⟩, fun a ⟨n, hn', x⟩ => .inr ⟨n, livT n hn', x⟩⟩
  have nodL : ∀ (n : Nat) (o : O) (a : Addr), st[n]? = some o → μ[n]? = some a → o.there = true → n ∉ ns → ¬ At μA os a := fun n o a x y al hno q => by
    obtain ⟨i, m, p1, p2, m', hm', y'⟩ := atA a q
    rw [hm i m p1] at p2
    obtain ⟨o', _, z, w⟩ := g2 i m p1
    have := R.inj n m a ⟨o, x, al⟩ ⟨o', z, alive_there (flat_alive w)⟩ y p2
    subst this
    exact hno (List.mem_of_getElem? p1)
  refine ⟨E, ⟨by rw [R.len, b1], fun n o a x y al => ?_, fun n m a hn' hm' x y => R.inj n m a (livT n hn') (livT m hm') x y, R'.told⟩, fun a _ ⟨j, hj, lj, mj⟩ => ?_⟩
  · by_cases hno : n ∈ ns
    · obtain ⟨i, hi, en⟩ := List.getElem_of_mem hno
      have ei : ns[i]? = some n := by rw [List.getElem?_eq_getElem hi, en]
      obtain ⟨o', x1, x2, x3⟩ := b3 i n ei
      rw [x] at x3; cases x3
      have mi : μ'[i]? = some a := e.pre i a (by rw [hm i n ei]; exact y)
      obtain ⟨p, q⟩ := R'.obj i o a x1 mi al
      exact ⟨p, repo_flat x2 q⟩
    · rw [b2 n hno] at x
      obtain ⟨p, q⟩ := R.obj n o a x y al
      have nA := nodL n o a x y al hno
      refine ⟨fun z => ?_, q.mono (E.kp R) (fun _ _ h => h) fun u hu => e.keep a u hu nA⟩
      obtain ⟨u, hu⟩ := q.there
      rcases e.new a z with w | w | w
      · exact p w
      · rw [hu] at w; cases w
      · exact nA w
  · rcases e.live a ⟨j, lj, mj⟩ with q | q
    · exact q
    · exfalso
      obtain ⟨i, n, p1, p2, _⟩ := atA a q
      obtain ⟨o', x1, x2, _⟩ := b3 i n p1
      have := R'.inj i j a ⟨o', x1, alive_there (flat_alive x2)⟩ lj.t (e.pre i a p2) mj
      have hi := (List.getElem?_eq_some_iff.mp p1).1
      omega
/-- one thing more -/
theorem more {μc : List Addr} {stc : Sto} {a : Addr} {o : O} (E : Ext μ L H st μc L' H' stc) (RR : Rel F μc L' H' stc) (old : ∀ n, LivT stc n → μc[n]? ≠ some a) (na : H a = none) (nL : ¬ L' a) (ro : RepO F (μc ++ [a]) L' H' a o) :
    Ext μ L H st (μc ++ [a]) L' H' (stc ++ [o]) ∧ Rel F (μc ++ [a]) L' H' (stc ++ [o]) := by
  have up : ∀ (k : Nat) (c : Addr), μc[k]? = some c → (μc ++ [a])[k]? = some c := fun k c hc => by
    have := (List.getElem?_eq_some_iff.mp hc).1
    rw [List.getElem?_append_left this]; exact hc
  refine ⟨⟨E.keep, E.tups, E.up, E.new, fun n b hb => up _ _ (E.pre n b hb), fun b hb => ?_, fun b hb => ?_⟩, ⟨by simp [RR.len], fun n w b x y al => ?_, fun n m b hn' hm' x y => ?_, RR.told⟩⟩
  · rcases at_push RR.len hb with z | ⟨rfl, _⟩
    · exact E.live b z
    · exact .inl na
  · rcases at_pushT RR.len hb with z | ⟨rfl, _⟩
    · exact E.livT b z
    · exact .inl na
  · by_cases hlt : n < stc.length
    · rw [List.getElem?_append_left hlt] at x
      rw [List.getElem?_append_left (by rw [RR.len]; exact hlt)] at y
      obtain ⟨p, q⟩ := RR.obj n w b x y al
      exact ⟨p, q.mono Kp.refl up fun _ hu => hu⟩
    · have hn' : n = stc.length := by
        have := (List.getElem?_eq_some_iff.mp x).1
        simp at this
        omega
      subst hn'
      rw [List.getElem?_append_right (Nat.le_refl _)] at x
      rw [← RR.len, List.getElem?_append_right (Nat.le_refl _)] at y
      simp at x y
      subst x y
      exact ⟨nL, ro⟩
  · have aux : ∀ k, LivT (stc ++ [o]) k → (μc ++ [a])[k]? = some b → (LivT stc k ∧ μc[k]? = some b) ∨ (k = stc.length ∧ b = a) := by
      intro k hk ek
      obtain ⟨w, x1, al⟩ := hk
      by_cases hlt : k < stc.length
      · rw [List.getElem?_append_left hlt] at x1
        rw [List.getElem?_append_left (by rw [RR.len]; exact hlt)] at ek
        exact .inl ⟨⟨w, x1, al⟩, ek⟩
      · have hk' : k = stc.length := by
          have := (List.getElem?_eq_some_iff.mp x1).1
          simp at this
          omega
        subst hk'
        rw [← RR.len, List.getElem?_append_right (Nat.le_refl _)] at ek
        simp at ek
        exact .inr ⟨rfl, ek.symm⟩
    rcases aux n hn' x with ⟨l1, e1⟩ | ⟨rfl, rfl⟩
    · rcases aux m hm' y with ⟨l2, e2⟩ | ⟨_, rfl⟩
      · exact RR.inj n m b l1 l2 e1 e2
      · exact (old n l1 e1).elim
    · rcases aux m hm' y with ⟨l2, e2⟩ | ⟨rfl, _⟩
      · exact (old m l2 e2).elim
      · rfl
/-- where the bringing home stands: d are the things that are at home -/
structure Imp (F : Fx) (μ : List Addr) (L : Addr → Prop) (H : Hp) (st : Sto) (μ' : List Addr) (L' : Addr → Prop) (H' : Hp) (s' : Sto) (m : Nat) (μc : List Addr) (stc : Sto) (d : List Nat) : Prop where
  E : Ext μ L H st μc L' H' stc
  R : Rel F μc L' H' stc
  fr : ∀ (k : Nat) (a : Addr), m ≤ k → k ∉ d → Live s' k → μ'[k]? = some a → ∀ n, LivT stc n → μc[n]? ≠ some a
theorem Imp.add {μ' μc : List Addr} {s' stc : Sto} {m n : Nat} {d : List Nat} {a : Addr} {o : O} (R' : Rel F μ' L' H' s') (I : Imp F μ L H st μ' L' H' s' m μc stc d) (hm : m ≤ n) (hd : n ∉ d) (ln : Live s' n) (mn : μ'[n]? = some a) (na : H a = none) (nL : ¬ L' a) (ro : RepO F (μc ++ [a]) L' H' a o) :
    Imp F μ L H st μ' L' H' s' m (μc ++ [a]) (stc ++ [o]) (n :: d) := by
  obtain ⟨E, R⟩ := more I.E I.R (I.fr n a hm hd ln mn) na nL ro
  refine ⟨E, R, fun k b hk hkd lk mk j lj ej => ?_⟩
  have hkn : k ≠ n := fun z => hkd (by rw [z]; exact List.mem_cons_self)
  have hb : b ≠ a := fun z => hkn (R'.inj k n a lk.t ln.t (by rw [mk, z]) mn)
  obtain ⟨w, x1, al⟩ := lj
  by_cases hlt : j < stc.length
  · rw [List.getElem?_append_left hlt] at x1
    rw [List.getElem?_append_left (by rw [I.R.len]; exact hlt)] at ej
    exact I.fr k b hk (fun z => hkd (List.mem_cons_of_mem _ z)) lk mk j ⟨w, x1, al⟩ ej
  · have hk' : j = stc.length := by
      have := (List.getElem?_eq_some_iff.mp x1).1
      simp at this
      omega
    subst hk'
    rw [← I.R.len, List.getElem?_append_right (Nat.le_refl _)] at ej
    simp at ej
    exact hb ej.symm
noncomputable def ImpTo (F : Fx) (μ : List Addr) (L : Addr → Prop) (H : Hp) (st : Sto) (μ' : List Addr) (L' : Addr → Prop) (H' : Hp) (s' : Sto) (m : Nat) (μc : List Addr) (d u : List Nat) (stc' : Sto) (u' : List Nat) (P : List Addr → Prop) : Prop :=
  ∃ μc' d', Imp F μ L H st μ' L' H' s' m μc' stc' d' ∧ (∀ k, k ∈ d' → k ∈ d ∨ (k ∉ u ∧ k ∈ u')) ∧ (∀ k, k ∈ u → k ∈ u') ∧ (∀ (n : Nat) (a : Addr), μc[n]? = some a → μc'[n]? = some a) ∧ P μc'
section
variable {μ' : List Addr} {s' : Sto} {m : Nat}
theorem imp_end {μc : List Addr} {stc : Sto} {d u u' : List Nat} {n : Nat} {a : Addr} {o : O} (R' : Rel F μ' L' H' s') (hN : ∀ (k : Nat) (a : Addr), m ≤ k → Live s' k → μ'[k]? = some a → H a = none) {μ0 : List Addr} {d0 : List Nat}
    (I : Imp F μ L H st μ' L' H' s' m μc stc d) (hm : m ≤ n) (hnu : n ∉ u) (hd0 : ∀ k, k ∈ d0 → k ∈ u) (h1 : ∀ k, k ∈ d → k ∈ d0 ∨ (k ∉ n :: u ∧ k ∈ u')) (h2 : ∀ k, k ∈ n :: u → k ∈ u') (h3 : ∀ (j : Nat) (b : Addr), μ0[j]? = some b → μc[j]? = some b)
    (ln : Live s' n) (mn : μ'[n]? = some a) (nL : ¬ L' a) (ro : RepO F (μc ++ [a]) L' H' a o) : ImpTo F μ L H st μ' L' H' s' m μ0 d0 u (stc ++ [o]) u' fun μc' => RepW F μc' L' H' (.ref a) (.r stc.length) := by
  have hnd : n ∉ d := fun z => by
    rcases h1 n z with q | ⟨q, _⟩
    · exact hnu (hd0 n q)
    · exact q List.mem_cons_self
  refine ⟨μc ++ [a], n :: d, I.add R' hm hnd ln mn (hN n a hm ln mn) nL ro, fun k hk => ?_, fun k hk => h2 k (List.mem_cons_of_mem _ hk), fun j b e => ?_, .r (by rw [← I.R.len, List.getElem?_append_right (Nat.le_refl _)]; simp)⟩
  · rcases List.mem_cons.mp hk with rfl | hk
    · exact .inr ⟨hnu, h2 k List.mem_cons_self⟩
    · rcases h1 k hk with q | ⟨q1, q2⟩
      · exact .inl q
      · exact .inr ⟨fun z => q1 (List.mem_cons_of_mem _ z), q2⟩
  · have e := h3 j b e
    have := (List.getElem?_eq_some_iff.mp e).1
    rw [List.getElem?_append_left this]; exact e
mutual
theorem imp_ok (R' : Rel F μ' L' H' s') (hN : ∀ (k : Nat) (a : Addr), m ≤ k → Live s' k → μ'[k]? = some a → H a = none) : ∀ (k : Nat) (w : W) {v : V} {w' : W} {stc stc' : Sto} {u u' d : List Nat} {μc : List Addr}, RepW F μ' L' H' v w → imp s' m k w stc u = some (w', stc', u') →
    Imp F μ L H st μ' L' H' s' m μc stc d → (∀ k, k ∈ d → k ∈ u) → ImpTo F μ L H st μ' L' H' s' m μc d u stc' u' fun μc' => RepW F μc' L' H' v w'
  | _, .p x, v, w', stc, stc', u, u', d, μc, r, e, I, hd => by
    rw [imp] at e
    cases e
    exact ⟨μc, d, I, fun k hk => .inl hk, fun k hk => hk, fun _ _ h => h, repw_flat rfl r⟩
  | 0, .r n, v, w', stc, stc', u, u', d, μc, r, e, I, hd => by rw [imp] at e; cases e
  | k + 1, .r n, v, w', stc, stc', u, u', d, μc, r, e, I, hd => by
    rw [imp] at e
    split at e
    · cases e
    · rename_i z
      simp only [Bool.or_eq_true, decide_eq_true_eq, List.contains_iff_mem, not_or] at z
      obtain ⟨hm, hnu⟩ := z
      have hm := Nat.le_of_not_lt hm
      have hd2 : ∀ k, k ∈ d → k ∈ n :: u := fun k hk => List.mem_cons_of_mem _ (hd k hk)
      cases q : s'[n]? with
      | none => rw [q] at e; cases e
      | some o =>
        rw [q] at e
        cases o with
        | lst ws =>
          obtain ⟨a, rfl, ma, ⟨vs, g1, g2⟩, nL⟩ := R'.thg r q rfl
          simp only at e
          split at e
          · rename_i ws' st1 u1 e1
            cases e
            obtain ⟨μ1, d1, I1, h1, h2, h3, rr⟩ := imps_ok R' hN k ws g2 e1 I hd2
            exact imp_end R' hN I1 hm hnu hd h1 h2 h3 ⟨_, q, rfl⟩ ma nL ⟨vs, g1, rr.mono Kp.refl fun j b hb => by
              have := (List.getElem?_eq_some_iff.mp hb).1
              rw [List.getElem?_append_left this]; exact hb⟩
          · cases e
        | tup ws =>
          obtain ⟨a, rfl, ma, ⟨vs, g1, g2⟩, nL⟩ := R'.thg r q rfl
          simp only at e
          split at e
          · rename_i ws' st1 u1 e1
            cases e
            obtain ⟨μ1, d1, I1, h1, h2, h3, rr⟩ := imps_ok R' hN k ws g2 e1 I hd2
            exact imp_end R' hN I1 hm hnu hd h1 h2 h3 ⟨_, q, rfl⟩ ma nL ⟨vs, g1, rr.mono Kp.refl fun j b hb => by
              have := (List.getElem?_eq_some_iff.mp hb).1
              rw [List.getElem?_append_left this]; exact hb⟩
          · cases e
        | dead => simp [O.flat] at e
        | ldk _ => simp [O.flat] at e
        | ldt _ => simp [O.flat] at e
        | dic kvs =>
          simp only at e
          split at e
          · rename_i hf
            cases e
            obtain ⟨a, rfl, ma, ro, nL⟩ := R'.thg r q rfl
            exact imp_end R' hN I hm hnu hd (fun k hk => .inl hk) (fun k hk => hk) (fun _ _ h => h) ⟨_, q, rfl⟩ ma nL (repo_flat hf ro)
          · cases e
        | dit kvs =>
          simp only at e
          split at e
          · rename_i hf
            cases e
            obtain ⟨a, rfl, ma, ro, nL⟩ := R'.thg r q rfl
            exact imp_end R' hN I hm hnu hd (fun k hk => .inl hk) (fun k hk => hk) (fun _ _ h => h) ⟨_, q, rfl⟩ ma nL (repo_flat hf ro)
          · cases e
        | ins c fs =>
          simp only at e
          split at e
          · rename_i hf
            cases e
            obtain ⟨a, rfl, ma, ro, nL⟩ := R'.thg r q rfl
            exact imp_end R' hN I hm hnu hd (fun k hk => .inl hk) (fun k hk => hk) (fun _ _ h => h) ⟨_, q, rfl⟩ ma nL (repo_flat hf ro)
          · cases e
termination_by k => (k, 0)
theorem imps_ok (R' : Rel F μ' L' H' s') (hN : ∀ (k : Nat) (a : Addr), m ≤ k → Live s' k → μ'[k]? = some a → H a = none) : ∀ (k : Nat) (ws : List W) {vs : List V} {ws' : List W} {stc stc' : Sto} {u u' d : List Nat} {μc : List Addr}, RepWs F μ' L' H' vs ws → imps s' m k ws stc u = some (ws', stc', u') →
    Imp F μ L H st μ' L' H' s' m μc stc d → (∀ k, k ∈ d → k ∈ u) → ImpTo F μ L H st μ' L' H' s' m μc d u stc' u' fun μc' => RepWs F μc' L' H' vs ws'
  | k, [], vs, ws', stc, stc', u, u', d, μc, r, e, I, hd => by
    rw [imps] at e
    cases e
    cases r
    exact ⟨μc, d, I, fun k hk => .inl hk, fun k hk => hk, fun _ _ h => h, .nil⟩
  | k, w :: ws, vs, ws', stc, stc', u, u', d, μc, rs, e, I, hd => by
    rw [imps] at e
    cases rs
    rename_i r t
    split at e
    · rename_i w1 st1 u1 e1
      split at e
      · rename_i ws2 st2 u2 e2
        cases e
        obtain ⟨μ1, d1, I1, h1, h2, h3, rr⟩ := imp_ok R' hN k w r e1 I hd
        have hd1 : ∀ k, k ∈ d1 → k ∈ u1 := fun k hk => (h1 k hk).elim (fun z => h2 k (hd k z)) fun z => z.2
        obtain ⟨μ2, d2, I2, k1, k2, k3, tt⟩ := imps_ok R' hN k ws t e2 I1 hd1
        refine ⟨μ2, d2, I2, fun k hk => ?_, fun k hk => k2 k (h2 k hk), fun n a h => k3 n a (h3 n a h), .cons (rr.mono Kp.refl k3) tt⟩
        rcases k1 k hk with z | ⟨z1, z2⟩
        · rcases h1 k z with y | ⟨y1, y2⟩
          · exact .inl y
          · exact .inr ⟨y1, k2 k y2⟩
        · exact .inr ⟨fun y => z1 (h2 k y), z2⟩
      · cases e
    · cases e
termination_by k ws => (k, ws.length + 1)
end
end
theorem calA_ok (R : Rel F μ L H st) {vs : List V} {ws : List W} {f ar : Nat} {Q : VK} (r : RepWs F μ L H vs ws) (har : vs.length = ar) (h : PostW F Ew μ L H st (calA C f ws st) Q) : spF F C f ar vs H Q Ew := by
  unfold calA at h
  cases q1 : pick st ws with
  | none => simp only [q1] at h; exact h.elim
  | some x =>
    obtain ⟨us, ns⟩ := x
    simp only [q1] at h
    split at h
    · rename_i hn
      cases q2 : objs st ns with
      | none => simp only [q2] at h; exact h.elim
      | some os =>
        simp only [q2] at h
        obtain ⟨g1, g2⟩ := objs_get q2
        have lt : ∀ n, n ∈ ns → n < st.length := fun n hn' => by
          obtain ⟨i, hi, e⟩ := List.getElem_of_mem hn'
          obtain ⟨o, _, y, _⟩ := g2 i n (by rw [List.getElem?_eq_getElem hi, e])
          exact (List.getElem?_eq_some_iff.mp y).1
        obtain ⟨μA, hl, hm⟩ := map_at R ns lt
        obtain ⟨RA, _⟩ := calA_in R hn q2 hl hm
        refine ⟨μA, L, os, us, har, RA, pick_rep 0 q1 (fun i n e => by rw [Nat.zero_add]; exact hm i n e) r, ?_⟩
        cases q3 : C f us os with
        | err => simp only [q3] at h; exact h.elim
        | exc c s' =>
          simp only [q3] at h
          intro μ' L' H' e R'
          cases q4 : back st ns s' with
          | none => simp only [q4] at h; exact h.elim
          | some st' =>
            simp only [q4] at h
            obtain ⟨E, RR, _⟩ := calA_out R hn q2 hl hm q4 e R'
            exact h μ L' H' E RR
        | ok w s' =>
          simp only [q3] at h
          intro μ' L' H' e R' v rv
          cases q4 : back st ns s' with
          | none => simp only [q4] at h; exact h.elim
          | some st' =>
            simp only [q4] at h
            obtain ⟨E, RR, fr⟩ := calA_out R hn q2 hl hm q4 e R'
            cases q5 : imp s' ns.length 6 w st' [] with
            | none => simp only [q5] at h; exact h.elim
            | some x =>
              obtain ⟨w', st'', u'⟩ := x
              simp only [q5] at h
              have hN : ∀ (k : Nat) (a : Addr), ns.length ≤ k → Live s' k → μ'[k]? = some a → H a = none := fun k a hk lk mk => fr a ⟨k, lk, mk⟩ ⟨k, hk, lk, mk⟩
              have old : ∀ (a : Addr), H a = none → ∀ (n : Nat), LivT st' n → μ[n]? = some a → False := fun a na n ln mn => by
                have zz : ∃ u, H a = some u := by
                  obtain ⟨o1, x1, al1⟩ := ln
                  obtain ⟨b1, b2, b3⟩ := back_get hn lt q4
                  by_cases hno : n ∈ ns
                  · obtain ⟨i, hi, en⟩ := List.getElem_of_mem hno
                    obtain ⟨o', _, y, z'⟩ := g2 i n (by rw [List.getElem?_eq_getElem hi, en])
                    exact R.atT ⟨o', y, alive_there (flat_alive z')⟩ mn
                  · rw [b2 n hno] at x1
                    exact R.atT ⟨o1, x1, al1⟩ mn
                obtain ⟨u, hu⟩ := zz
                rw [na] at hu; cases hu
              have I0 : Imp F μ L H st μ' L' H' s' ns.length μ st' [] := ⟨E, RR, fun k a hk _ lk mk n ln mn => old a (hN k a hk lk mk) n ln mn⟩
              obtain ⟨μ2, d2, I2, _, _, _, rr⟩ := imp_ok R' hN 6 w rv q5 I0 fun k hk => by cases hk
              exact h μ2 L' H' I2.E I2.R v rr
    · exact h.elim
theorem calM_ok (m : Bool) (R : Rel F μ L H st) {vs : List V} {ws : List W} {f ar : Nat} {Q : VK} (r : RepWs F μ L H vs ws) (har : vs.length = ar) (h : PostW F Ew μ L H st (calM m C f ws st) Q) : spF F C f ar vs H Q Ew := by
  cases m with
  | false => exact calA_ok R r har h
  | true => exact ⟨μ, L, st, ws, har, R, r, h⟩
end
end T

set_option maxRecDepth 100000
set_option maxHeartbeats 4000000
/-! T: the syntax's small print; calls of defs, methods, classes -/
namespace T
open PySem L2

/-! ### small print -/
/-- an expression that stands for itself: no star, no slice, no set, no comprehension but a list's -/
noncomputable def plainX : Expr → Bool
  | .Starred _ _ => false
  | .Slice _ _ _ _ => false
  | .Set _ _ _ => false
  | .SetComp _ _ _ _ => false
  | .DictComp _ _ _ _ _ => false
  | _ => true
noncomputable def notLc : Expr → Bool
  | .ListComp _ _ _ _ => false
  | _ => true
/-- its test is its value's truth -/
noncomputable def plainT : Expr → Bool
  | .UnaryOp .Not _ _ => false
  | .BoolOp _ _ _ => false
  | .IfExp _ _ _ _ => false
  | .Compare _ _ _ _ => false
  | _ => true
/-- no call of a name without arguments: what stands ahead of a dot -/
noncomputable def plainB : Expr → Bool
  | .Call (.Name _ _) [] [] _ => false
  | _ => true
section
variable {env : PySem.Env}
theorem star_plain {e : Expr} {es : List Expr} (h : plainX e = true) : starEach (e :: es) env = (false, eval e env) :: starEach es env := by
  cases e <;> first | rfl | cases h
theorem noStar : ∀ {es : List Expr} {pos : Pos}, es.all plainX = true → (backTo pos (starEach es env)).any (·.1) = false
  | [], _, _ => rfl
  | e :: es, pos, h => by
    rw [List.all_cons, Bool.and_eq_true] at h
    rw [star_plain h.1]
    have := noStar (es := es) (pos := pos) h.2
    simp only [backTo, List.map_cons, List.any_cons, Bool.false_or] at this ⊢
    exact this
theorem allStar : ∀ {es : List Expr} {pos : Pos}, es.all plainX = true → (backTo pos (starEach es env)).all (fun x => !x.1) = true
  | [], _, _ => rfl
  | e :: es, pos, h => by
    rw [List.all_cons, Bool.and_eq_true] at h
    rw [star_plain h.1]
    have := allStar (es := es) (pos := pos) h.2
    simp only [backTo, List.map_cons, List.all_cons, Bool.not_false, Bool.true_and] at this ⊢
    exact this
theorem mark_plain {e : Expr} (op : CmpOp) (h : plainX e = true) : behindInMarks op e = false := by
  cases e <;> first | rfl | cases h
theorem last_plain {e1 e2 : Expr} (o1 o2 : CmpOp) (h : plainX e2 = true) : lastMarks [o1, o2] [e1, e2] = false := mark_plain o2 h
theorem ix_plain {e : Expr} (h : plainX e = true) : PlainIx e := by
  intro o i
  cases e <;> first | rfl | cases h
theorem fold_plain {e : Expr} (h : plainX e = true) (x : Value) : foldedSetIterable e env x = pure x := by
  cases e <;> first | rfl | cases h
theorem true_plain {e : Expr} (h : plainT e = true) : ∀ whole, isTrue e env whole = (do let v ← whole; standAt e.pos; holding [v] (truthy v)) := by
  intro whole
  cases e <;> first
    | rfl
    | (cases h; done)
    | (rename_i op a b
       cases op <;> first
         | rfl
         | cases h)
theorem swap_plain {e : Expr} (h1 : plainX e = true) (h2 : notLc e = true) (t : Option Expr) (l : Nat) : swapsWith e t l env = pure false := by
  cases e <;> first | rfl | (cases h1; done) | (cases h2; done)
theorem base_plain {e : Expr} (h : plainB e = true) (f : Str) (w : Sem Value) : attributeBase e f env w = w := by
  cases e <;> try rfl
  rename_i func args kws pos
  cases func <;> try rfl
  cases args <;> try rfl
  cases kws <;> first | rfl | cases h
theorem meth_plain {o : Expr} {m : Str} {apos pos : Pos} {es : List Expr} (h1 : plainB o = true) (h2 : es.all plainX = true) (h3 : es.length < 29) (h4 : (apos.endLine == pos.line) = true) :
    eval (.Call (.Attribute o m apos) es [] pos) env = (do
      let ov ← eval o env
      standAt apos.atName
      let (f, first) ← holding [ov] (getMethod ov m (do return (← importBound o env).getD true))
      callWith pos f first (backTo pos (starEach es env)) (backToKw pos (keywordEach [] env))) := by
  show (do
    let ov ← attributeBase o m env (eval o env)
    standAt apos.atName
    methodCall o m apos pos env ov (es.length + 0) (backTo pos (starEach es env)) (backToKw pos (keywordEach [] env))) = _
  rw [base_plain h1]
  have hf : methodCallForm (es.length + 0) (backTo pos (starEach es env)) (backToKw pos (keywordEach [] env)) = true := by
    unfold methodCallForm
    rw [allStar h2]
    show (true && true && decide (es.length + 0 + 0 < 30)) = true
    simp only [Bool.true_and, decide_eq_true_eq]
    omega
  have hp : ∀ o, methodCallPos true o env apos pos = pure pos := fun o => by
    unfold methodCallPos
    rw [h4]
    rfl
  unfold methodCall
  rw [hf]
  simp only [hp, calleeOf, if_true]
  rfl
end
noncomputable def Exs.len : Exs → Nat
  | .nil => 0
  | .cons _ es => es.len + 1
section
variable {F : Fx} {Ew : XK} {X : Cx} {C : Call} {a b c : Ex} {ea eb ec : Expr} {pos : Pos} {μ μ' : List Addr} {L L' : Addr → Prop} {H H' : Hp} {st st' : Sto} {G : VK}
theorem evEs_len : ∀ {es : Exs} {ρ : Nv} {st st' : Sto} {ws : List W}, evEs C es ρ st = .ok ws st' → ws.length = es.len
  | .nil, ρ, st, st', ws, h => by rw [evEs] at h; cases h; rfl
  | .cons e es, ρ, st, st', ws, h => by
    rw [evEs] at h
    cases q1 : evE C e ρ st with
    | err => rw [q1] at h; cases h
    | exc c s => rw [q1] at h; cases h
    | ok x s1 =>
      rw [q1, bind_ok] at h
      cases q2 : evEs C es ρ s1 with
      | err => rw [q2] at h; cases h
      | exc c s => rw [q2] at h; cases h
      | ok xs s2 =>
        rw [q2, bind_ok] at h
        cases h
        exact congrArg (· + 1) (evEs_len q2)
theorem in_Es {es : Exs} {σ : L2.St} {ρ : Nv} {β : Type} {f : List W → Sto → Res β} {Q : β → List Addr → (Addr → Prop) → Hp → Sto → Prop} {G : List V → Hp → Prop} (R : Rel F μ L H st) (RE : RelE F μ L H σ ρ) (h : Post F Ew μ L H st ((evEs C es ρ st).bind f) Q)
    (k : ∀ ws vs μ1 L1 H1 st1, ws.length = es.len → Ext μ L H st μ1 L1 H1 st1 → Rel F μ1 L1 H1 st1 → RelE F μ1 L1 H1 σ ρ → RepWs F μ1 L1 H1 vs ws → Post F Ew μ1 L1 H1 st1 (f ws st1) Q → G vs H1) : tA F Ew (evEs C es) σ H G := by
  refine ⟨μ, L, ρ, st, R, RE, ?_⟩
  have hb := h.bind
  cases q : evEs C es ρ st with
  | err => rw [q] at hb; exact hb
  | exc c s => rw [q] at hb; exact hb
  | ok ws s1 =>
    rw [q] at hb
    intro μ1 L1 H1 e R1 vs r
    exact k ws vs μ1 L1 H1 s1 (evEs_len q) e R1 (e.env R RE) r (hb μ1 L1 H1 e R1)
/-- a def as it may be called here: k its level -/
structure FnAt (F : Fx) (C : Call) (X : Cx) (k : Nat) (fid : Nat) (f : Addr) (fd : FuncData) (ps : List Str) : Prop where
  ok : FnOk X.prog X.w X.K X.mg X.base (CX X.prog X.w) k f fd ps (spF F C fid ps.length)
  bd : Binds X.K fd ps []
theorem s_cal (m : Bool) {fid k : Nat} {f : Addr} {fd : FuncData} {ps : List Str} {x : Str} {p : Pos} {es : Exs} {ees : List Expr} (A : FnAt F C X k fid f fd ps) (kp : PySem.W.keepIn X.K (.ref f) = true) (hr : Room k X.A) (hx : Passes (CX X.prog X.w) X Ew)
    (hg : Gl X x) (hm : X.mg x = some (.ref f)) (hd : (x == ("__debug__" : Str)) = false) (hl : es.len = ps.length) (ha : PA X ees (tA F Ew (evEs C es))) (hp : ees.all plainX = true) (he : ees.isEmpty = false) :
    PE X (.Call (.Name x p) ees [] pos) (tE F Ew (evE C (.cal m fid es))) := by
  have key : ∀ σ H Q, tE F Ew (evE C (.cal m fid es)) σ H Q → tA F Ew (evEs C es) σ H fun vs H1 => spF F C fid ps.length (vs ++ []) H1 Q Ew := by
    rintro σ H Q ⟨μ, L, ρ, st, R, RE, h⟩
    rw [evE] at h
    refine in_Es R RE h fun ws vs μ1 L1 H1 st1 hw e1 R1 RE1 r1 h1 => ?_
    rw [List.append_nil]
    exact calM_ok m R1 r1 (by rw [repws_len r1, hw, hl]) h1
  cases ees with
  | nil => cases he
  | cons e ees =>
    rw [List.all_cons, Bool.and_eq_true] at hp
    exact (pe_call A.ok hr hg hm kp A.bd .nil hx ha hd (star_plain hp.1) (noStar hp.2)).imp key
theorem s_cal0 (m : Bool) {fid k : Nat} {f : Addr} {fd : FuncData} {ps : List Str} {x : Str} {p : Pos} (A : FnAt F C X k fid f fd ps) (kp : PySem.W.keepIn X.K (.ref f) = true) (hr : Room k X.A) (hx : Passes (CX X.prog X.w) X Ew)
    (hg : Gl X x) (hm : X.mg x = some (.ref f)) (hd : (x == ("__debug__" : Str)) = false) (hl : ps.length = 0) :
    PE X (.Call (.Name x p) [] [] pos) (tE F Ew (evE C (.cal m fid .nil))) :=
  (pe_call0 A.ok hr hg hm kp A.bd .nil hx hd).imp fun σ H Q ⟨μ, L, ρ, st, R, RE, h⟩ => by
    rw [evE, evEs] at h
    exact calM_ok m R .nil (by rw [hl]; rfl) h

/-! ### methods -/
theorem isIns_ok (R : Rel F μ L H st) {v : V} {x : W} {c : Nat} {m : Str} (r : RepW F μ L H v x) (h : isIns st c m x = true) : ∃ a dx fs, v = .ref a ∧ H a = some (.ins (F.Cl c) dx fs) ∧ fs.lookup m = none := by
  cases x with
  | p d => cases h
  | r n =>
    rw [isIns] at h
    cases q : st[n]? with
    | none => rw [q] at h; cases h
    | some o =>
      rw [q] at h
      cases o with
      | ins c' fs =>
        simp only [Bool.and_eq_true, decide_eq_true_eq] at h
        obtain ⟨rfl, h2⟩ := h
        obtain ⟨a, rfl, _, ⟨dx, vs, g1, g2⟩, _⟩ := R.thg r q rfl
        refine ⟨a, dx, vs, rfl, g1, ?_⟩
        have no : ∀ {vs : List (Str × V)} {fs : List (Str × W)}, T.RepE F μ L H vs fs → (fs.lookup m).isNone = true → vs.lookup m = none := by
          intro vs fs r
          induction r with
          | nil => intro _; rfl
          | cons r t ih =>
            rename_i k v vs w ws
            intro h
            by_cases z : m = k
            · subst z; simp at h
            · have zz : (m == k) = false := by simp [z]
              simp only [List.lookup_cons, zz] at h ⊢
              exact ih h
        exact no g2 h2
      | _ => cases h
theorem s_mth (cid : Nat) {fid k : Nat} {f : Addr} {fd : FuncData} {ps : List Str} {m : Str} {apos : Pos} {es : Exs} {ees : List Expr} {o : Ex} {eo : Expr} (A : FnAt F C X k fid f fd ps) (hK : X.K = F.K) (hr : Room k X.A) (hx : Passes (CX X.prog X.w) X Ew)
    (hc : Cls F.K (F.Cl cid)) (hm : Meth F.K (F.Cl cid) m f) (hl : es.len + 1 = ps.length) (ho : PE X eo (tE F Ew (evE C o))) (ha : PA X ees (tA F Ew (evEs C es))) (hp : ees.all plainX = true) (he : ees.isEmpty = false)
    (hb : plainB eo = true) (h3 : ees.length < 29) (h4 : (apos.endLine == pos.line) = true) :
    PE X (.Call (.Attribute eo m apos) ees [] pos) (tE F Ew (evE C (.mth cid m fid o es))) := by
  cases ees with
  | nil => cases he
  | cons e ees =>
    have hp' := hp
    rw [List.all_cons, Bool.and_eq_true] at hp'
    refine (pe_meth ho (by rw [hK]; exact hc) (by rw [hK]; exact hm) A.ok hr A.bd .nil hx ha (star_plain hp'.1) (noStar hp'.2) (meth_plain hb hp h3 h4)).imp ?_
    rintro σ H Q ⟨μ, L, ρ, st, R, RE, h⟩
    rw [evE] at h
    refine in_E R RE h fun x v μ1 L1 H1 st1 e1 R1 RE1 r1 h1 => ?_
    split at h1
    · rename_i hi
      obtain ⟨a, dx, fs, rfl, g1, g2⟩ := isIns_ok R1 r1 hi
      refine ⟨a, dx, fs, rfl, g1, g2, in_Es R1 RE1 h1 fun ws vs μ2 L2 H2 st2 hw e2 R2 RE2 r2 h2 => ?_⟩
      rw [List.append_nil]
      exact ⟨μ2, L2, st2, _, by rw [List.length_cons, repws_len r2, hw, hl], R2, .cons (e2.wv R1 r1) r2, h2⟩
    · exact h1.elim
theorem s_mth0 (cid : Nat) {fid k : Nat} {f : Addr} {fd : FuncData} {ps : List Str} {m : Str} {apos : Pos} {o : Ex} {eo : Expr} (A : FnAt F C X k fid f fd ps) (hK : X.K = F.K) (hr : Room k X.A) (hx : Passes (CX X.prog X.w) X Ew)
    (hc : Cls F.K (F.Cl cid)) (hm : Meth F.K (F.Cl cid) m f) (hl : ps.length = 1) (ho : PE X eo (tE F Ew (evE C o))) (hb : plainB eo = true) (h4 : (apos.endLine == pos.line) = true) :
    PE X (.Call (.Attribute eo m apos) [] [] pos) (tE F Ew (evE C (.mth cid m fid o .nil))) := by
  refine (pe_meth0 ho (by rw [hK]; exact hc) (by rw [hK]; exact hm) A.ok hr A.bd .nil hx (meth_plain hb rfl (by decide) h4)).imp ?_
  rintro σ H Q ⟨μ, L, ρ, st, R, RE, h⟩
  rw [evE] at h
  refine in_E R RE h fun x v μ1 L1 H1 st1 e1 R1 RE1 r1 h1 => ?_
  split at h1
  · rename_i hi
    obtain ⟨a, dx, fs, rfl, g1, g2⟩ := isIns_ok R1 r1 hi
    rw [evEs] at h1
    exact ⟨a, dx, fs, rfl, g1, g2, μ1, L1, st1, _, by rw [hl]; rfl, R1, .cons r1 .nil, h1⟩
  · exact h1.elim

/-! ### C(..) -/
theorem makW_ok (R : Rel F μ L H st) {vs : List V} {ws : List W} {cid fid ar : Nat} {Q : VK} (r : RepWs F μ L H vs ws) (har : vs.length + 1 = ar) (h : PostW F Ew μ L H st (makW C cid fid ws st) Q) {x dx : Addr} (hx : H x = none) (hd : H dx = none) (ne : dx ≠ x) :
    spF F C fid ar (.ref x :: vs) (upd (upd H dx (.own x)) x (.ins (F.Cl cid) dx [])) (fun v H2 => v = .non ∧ Q (.ref x) H2) Ew := by
  have R1 := Rel.aside R (u := .own x) hd
  have e1 := Ext.aside (μ := μ) (L := L) (st := st) (u := .own x) hd
  have hx1 : upd H dx (.own x) x = none := by rw [upd_ne (Ne.symm ne)]; exact hx
  have e2 := Ext.thing (o := .ins cid []) (u := .ins (F.Cl cid) dx []) R1 hx1
  have R2 := Rel.thing (o := .ins cid []) (u := .ins (F.Cl cid) dx []) R1 hx1 (R1.fresh hx1) fun _ => ⟨dx, [], upd_same, .nil⟩
  have e12 := e1.trans e2
  have hlen : (μ ++ [x])[st.length]? = some x := by rw [← R.len, List.getElem?_append_right (Nat.le_refl _)]; simp
  refine ⟨_, _, _, .r st.length :: ws, by rw [List.length_cons, har], R2, .cons (.r hlen) (e12.wvs R r), ?_⟩
  unfold makW at h
  cases q : C fid (.r st.length :: ws) (st ++ [.ins cid []]) with
  | err => simp only [q] at h; exact h.elim
  | exc c s =>
    simp only [q] at h
    exact fun μ' L' H' e R' => h μ' L' H' (e12.trans e) R'
  | ok w s =>
    simp only [q] at h
    intro μ' L' H' e R' v rv
    cases w with
    | r n => exact h.elim
    | p d =>
      cases d <;> try (exact h.elim)
      cases rv with | p rv => cases rv; exact ⟨rfl, h μ' L' H' (e12.trans e) R' _ (.r (e.pre _ _ hlen))⟩
theorem s_mak (cid : Nat) {fid k : Nat} {f : Addr} {fd : FuncData} {ps : List Str} {x : Str} {p : Pos} {es : Exs} {ees : List Expr} (A : FnAt F C X k fid f fd ps) (M : Mk X.K (F.Cl cid) f) (hr : Room (k + 1) X.A) (hx : Passes (CX X.prog X.w) X Ew)
    (hg : Gl X x) (hm : X.mg x = some (.ref (F.Cl cid))) (hd : (x == ("__debug__" : Str)) = false) (hl : es.len + 1 = ps.length) (ha : PA X ees (tA F Ew (evEs C es))) (hp : ees.all plainX = true) (he : ees.isEmpty = false) :
    PE X (.Call (.Name x p) ees [] pos) (tE F Ew (evE C (.mak cid fid es))) := by
  cases ees with
  | nil => cases he
  | cons e ees =>
    rw [List.all_cons, Bool.and_eq_true] at hp
    refine (pe_make M A.ok hr hg hm A.bd .nil hx ha hd (star_plain hp.1) (noStar hp.2)).imp ?_
    rintro σ H Q ⟨μ, L, ρ, st, R, RE, h⟩
    rw [evE] at h
    refine in_Es R RE h fun ws vs μ1 L1 H1 st1 hw e1 R1 RE1 r1 h1 => ?_
    intro x dx nx nd ne
    rw [List.append_nil]
    exact makW_ok R1 r1 (by rw [repws_len r1, hw, hl]) h1 nx nd ne
theorem s_mak0 (cid : Nat) {fid k : Nat} {f : Addr} {fd : FuncData} {ps : List Str} {x : Str} {p : Pos} (A : FnAt F C X k fid f fd ps) (M : Mk X.K (F.Cl cid) f) (hr : Room (k + 1) X.A) (hx : Passes (CX X.prog X.w) X Ew)
    (hg : Gl X x) (hm : X.mg x = some (.ref (F.Cl cid))) (hd : (x == ("__debug__" : Str)) = false) (hl : ps.length = 1) :
    PE X (.Call (.Name x p) [] [] pos) (tE F Ew (evE C (.mak cid fid .nil))) := by
  refine (pe_make0 M A.ok hr hg hm A.bd .nil hx hd).imp ?_
  rintro σ H Q ⟨μ, L, ρ, st, R, RE, h⟩
  rw [evE, evEs] at h
  intro x dx nx nd ne
  exact makW_ok R .nil (by rw [hl]; rfl) h nx nd ne
end
end T

set_option maxRecDepth 100000
set_option maxHeartbeats 4000000
/-! T: builtin functions -/
namespace T
open PySem L2
section
variable {F : Fx} {Ew : XK} {X : Cx} {C : Call} {a b c : Ex} {ea eb ec : Expr} {pos : Pos} {μ μ' : List Addr} {L L' : Addr → Prop} {H H' : Hp} {st st' : Sto} {G : VK}
inductive Shs (F : Fx) (L : Addr → Prop) (H : Hp) : List V → List D → Prop where
  | nil : Shs F L H [] []
  | cons {v : V} {vs : List V} {d : D} {ds : List D} : Sh F L H v d → Shs F L H vs ds → Shs F L H (v :: vs) (d :: ds)
theorem shs_of (R : Rel F μ L H st) : ∀ {vs : List V} {ws : List W} {ds : List D}, RepWs F μ L H vs ws → vws st ws = some ds → Shs F L H vs ds
  | _, _, _, .nil, e => by rw [vws] at e; cases e; exact .nil
  | _, _, _, .cons (w := w) (ws := ws) r t, e => by
    rw [vws] at e
    cases q1 : vw st w with
    | none => simp only [q1] at e; cases e
    | some d =>
      cases q2 : vws st ws with
      | none => simp only [q1, q2] at e; cases e
      | some ds => simp only [q1, q2] at e; cases e; exact .cons (sh_of R r q1) (shs_of R t q2)
theorem allB_v : ∀ {vs : List V} {ds : List D} {bs : List Bool}, RepDs F L H vs ds → allB ds = some bs → vs = bs.map V.bl
  | _, _, _, .nil, e => by rw [allB] at e; cases e; rfl
  | _, _, _, .cons (d := d) (ds := ds) r t, e => by
    cases r <;> try (simp only [allB, reduceCtorEq] at e; done)
    rw [allB] at e
    cases q : allB ds with
    | none => rw [q] at e; cases e
    | some bs => rw [q] at e; cases e; rw [allB_v t q]; rfl
theorem allI_v : ∀ {vs : List V} {ds : List D} {bs : List Int}, RepDs F L H vs ds → allI ds = some bs → vs = bs.map V.int
  | _, _, _, .nil, e => by rw [allI] at e; cases e; rfl
  | _, _, _, .cons (d := d) (ds := ds) r t, e => by
    cases r <;> try (simp only [allI, reduceCtorEq] at e; done)
    rw [allI] at e
    cases q : allI ds with
    | none => rw [q] at e; cases e
    | some bs => rw [q] at e; cases e; rw [allI_v t q]; rfl
/-- the items of a list or tuple that is shown -/
theorem items_sq {v : V} {d : D} {ds : List D} (h : Sh F L H v d) (e : itemsD d = some ds) : ∃ a xs, v = .ref a ∧ (SqL F.K H a xs ∨ SqT F.K H a xs) ∧ RepDs F L H xs ds ∧ xs.length = ds.length := by
  have tints : ∀ ns : List Int, RepDs F L H (ns.map V.int) (ns.map D.int) := fun ns => by
    induction ns with
    | nil => exact .nil
    | cons n r ih => exact .cons (.int n) ih
  cases h with
  | d r =>
    cases r <;> try (simp only [itemsD, reduceCtorEq] at e; done)
    · cases e; rename_i hL f r; exact ⟨_, _, rfl, .inr (SqT.of f), r, r.length⟩
    · cases e; rename_i f r; exact ⟨_, _, rfl, .inr f.sq, r, r.length⟩
    · cases e; rename_i hL f r; exact ⟨_, _, rfl, .inl (SqL.of f), r, r.length⟩
    · cases e; rename_i ns hL f r; exact ⟨_, _, rfl, .inl f, tints ns, by simp⟩
  | lst f r => cases e; exact ⟨_, _, rfl, .inl (SqL.of f), r, r.length⟩
  | dic f r => cases e
  | dit f r => cases e
theorem Shs.one {vs : List V} {d : D} (h : Shs F L H vs [d]) : ∃ v, vs = [v] ∧ Sh F L H v d := by
  cases h with | cons r t => cases t; exact ⟨_, rfl, r⟩
theorem Shs.two {vs : List V} {d e : D} (h : Shs F L H vs [d, e]) : ∃ v u, vs = [v, u] ∧ Sh F L H v d ∧ Sh F L H u e := by
  cases h with | cons r t => cases t with | cons r' t => cases t; exact ⟨_, _, rfl, r, r'⟩
theorem Sh.lstS {v : V} {ds : List D} (h : Sh F L H v (.lst ds)) : ∃ a xs, v = .ref a ∧ SqL F.K H a xs ∧ RepDs F L H xs ds := by
  obtain ⟨a, xs, e, f, r⟩ := h.lstI
  exact ⟨a, xs, e, SqL.of f, r⟩
theorem bfnW_alt {b : Bfn} {ws : List W} (hb : b ≠ .lstM) (hb2 : b ≠ .srtM) (h : PostW F Ew μ L H st (bfnW b ws st) G) : (∃ ds d, vws st ws = some ds ∧ bfnD b ds = some d ∧ PostD F Ew μ L H st d G) ∨ ∃ n o d, ws = [.r n] ∧ st[n]? = some o ∧ isiO b o = some d ∧ PostD F Ew μ L H st d G := by
  have e : bfnW b ws st = match vws st ws with
    | some ds => resD st (bfnD b ds)
    | none => resD st (bfnO b ws st) := by
    cases b <;> first | rfl | exact absurd rfl hb | exact absurd rfl hb2
  rw [e] at h
  cases q : vws st ws with
  | none =>
    simp only [q] at h
    cases q2 : bfnO b ws st with
    | none => rw [q2] at h; exact h.elim
    | some d =>
      rw [q2] at h
      unfold bfnO at q2
      split at q2
      · rename_i n
        obtain ⟨o, e1, e2⟩ := Option.bind_eq_some_iff.mp q2
        exact .inr ⟨n, o, d, rfl, e1, e2, h⟩
      · cases q2
  | some ds =>
    simp only [q] at h
    cases q2 : bfnD b ds with
    | none => rw [q2] at h; exact h.elim
    | some d => rw [q2] at h; exact .inl ⟨ds, d, rfl, q2, h⟩
theorem bfnW_val {b : Bfn} {ws : List W} (hb : b ≠ .lstM) (hb2 : b ≠ .srtM) (hO : ∀ o, isiO b o = none) (h : PostW F Ew μ L H st (bfnW b ws st) G) : ∃ ds d, vws st ws = some ds ∧ bfnD b ds = some d ∧ PostD F Ew μ L H st d G := by
  rcases bfnW_alt hb hb2 h with q | ⟨n, o, d, _, _, q, _⟩
  · exact q
  · rw [hO] at q; cases q

/-! ### len -/
theorem call_lenRd : CallR X (.builtin "len") (fun xs H Q => ∃ a kvs, xs = [V.ref a] ∧ Rd H a (.dK kvs) ∧ Q (.int kvs.length) H) := by
  intro pins s σ H xs us Q I rx h
  obtain ⟨a, kvs, rfl, g, q⟩ := h
  rw [rx.ref1]
  exact d_len I g fun t s' I' => ⟨.int kvs.length, H, I', ⟨_, rfl⟩, q⟩
noncomputable def rLen (K : PySem.W.Frag) : List V → Hp → VK → Prop := fun xs H Q => (∃ x n, xs = [x] ∧ LenV K x H n ∧ Q (.int n) H) ∨ ∃ a kvs, xs = [V.ref a] ∧ Rd H a (.dK kvs) ∧ Q (.int kvs.length) H
theorem call_lenT : CallR X (.builtin "len") (rLen X.K) := call_len.or call_lenRd
theorem repks_len : ∀ {vs : List (Key × V)} {ds : List (Key × D)}, RepKs F L H vs ds → vs.length = ds.length
  | _, _, .nil => rfl
  | _, _, .cons _ t => congrArg (· + 1) (repks_len t)
theorem len_ok (R : Rel F μ L H st) {vs : List V} {ws : List W} (r : RepWs F μ L H vs ws) (h : PostW F Ew μ L H st (bfnW .len ws st) G) : rLen F.K vs H G := by
  rcases bfnW_alt (by decide) (by decide) h with ⟨ds, d, q1, q2, q⟩ | ⟨n, o, d, rfl, q1, q2, q⟩
  rotate_left
  · cases r with
    | cons r t =>
      cases t
      cases o <;> try (cases q2; done)
      · obtain ⟨a, rfl, _, ⟨vs, g1, g2⟩, _⟩ := R.thg r q1 rfl
        cases q2
        rw [← repws_len g2] at q
        exact .inl ⟨_, vs.length, rfl, .inl ⟨vs, SqL.of g1, rfl⟩, fin_int R q⟩
      · obtain ⟨a, rfl, _, ⟨vs, g1, g2⟩, _⟩ := R.thg r q1 rfl
        cases q2
        rw [← repws_len g2] at q
        exact .inl ⟨_, vs.length, rfl, .inr ⟨vs, SqT.of g1, rfl⟩, fin_int R q⟩
  have ss := shs_of R r q1
  obtain ⟨d', rfl, k2⟩ : ∃ d', ds = [d'] ∧ (lenD d').map (fun n => D.int (n : Nat)) = some d := by
    cases ds with
    | nil => cases q2
    | cons x r => cases r with
      | nil => exact ⟨x, rfl, q2⟩
      | cons y r => cases q2
  obtain ⟨v, rfl, s⟩ := ss.one
  clear q2 ss
  have seq : ∀ xs, itemsD d' = some xs → lenD d' = some xs.length → rLen F.K [v] H G := fun xs e el => by
    rw [el] at k2; cases k2
    obtain ⟨a, ys, rfl, sq, _, hl⟩ := items_sq s e
    rw [← hl] at q
    exact .inl ⟨_, ys.length, rfl, sq.elim (fun z => .inl ⟨ys, z, rfl⟩) (fun z => .inr ⟨ys, z, rfl⟩), fin_int R q⟩
  cases d' <;> try (simp only [lenD, itemsD, Option.map_none, reduceCtorEq] at k2; done)
  · rename_i z
    rw [s.str]
    simp only [lenD] at k2
    split at k2
    · rename_i ok
      cases k2
      exact .inl ⟨_, z.length, rfl, ⟨lenOk_le ok, rfl⟩, fin_int R q⟩
    · cases k2
  · exact seq _ rfl rfl
  · exact seq _ rfl rfl
  · exact seq _ rfl rfl
  · rename_i ns
    exact seq (ns.map D.int) rfl rfl
  · cases k2
    obtain ⟨a, xs, rfl, f, r⟩ := s.dicI
    rw [← repks_len r] at q
    exact .inr ⟨a, xs, rfl, f, fin_int R q⟩

/-! ### isinstance -/
noncomputable def isiT : Bfn → Option String
  | .isiInt => some "int"
  | .isiBool => some "bool"
  | .isiStr => some "str"
  | .isiTup => some "tuple"
  | .isiLst => some "list"
  | _ => none
theorem tyx_of {v : V} {d : D} {T : String} {b : Bool} {f : Bfn} (h : Sh F L H v d) (e1 : isiT f = some T) (e2 : isiD f d = some b) : ∃ t : String, TyX F.K H v (.type t) ∧ kitB t T = some b := by
  have rdL : ∀ {a : Addr} {xs : List V}, SqL F.K H a xs → TyX F.K H (.ref a) (.type "list") := fun {a xs} h => by
    rcases h with (h | ⟨o, h⟩) | ⟨o, its, n, h, c, _⟩
    · exact .base (.lst h)
    · exact .base (.frz h)
    · exact .kList h c
  have main : ∀ t : String, TyX F.K H v (.type t) → (∀ g : Bfn, g = f → ∀ U, isiT g = some U → ∀ k, isiD g d = some k → kitB t U = some k) → ∃ t : String, TyX F.K H v (.type t) ∧ kitB t T = some b := fun t ty k => ⟨t, ty, k f rfl T e1 b e2⟩
  cases h with
  | d r =>
    cases r with
    | non => exact main "NoneType" (.base .non) fun g _ U h1 k h2 => by cases g <;> cases h1 <;> cases h2 <;> decide +kernel
    | bl _ => exact main "bool" (.base (.bl _)) fun g _ U h1 k h2 => by cases g <;> cases h1 <;> cases h2 <;> decide +kernel
    | int _ => exact main "int" (.base (.int _)) fun g _ U h1 k h2 => by cases g <;> cases h1 <;> cases h2 <;> decide +kernel
    | str _ => exact main "str" (.base (.str _)) fun g _ U h1 k h2 => by cases g <;> cases h1 <;> cases h2 <;> decide +kernel
    | tup _ f _ => exact main "tuple" (.base (.tup f)) fun g _ U h1 k h2 => by cases g <;> cases h1 <;> cases h2 <;> decide +kernel
    | ctup f _ => obtain ⟨o, _, _, f1, f2, _⟩ := f; exact main "tuple" (.kTuple f1 f2) fun g _ U h1 k h2 => by cases g <;> cases h1 <;> cases h2 <;> decide +kernel
    | lst _ f _ => exact main "list" (rdL (SqL.of f)) fun g _ U h1 k h2 => by cases g <;> cases h1 <;> cases h2 <;> decide +kernel
    | scr _ f _ => exact main "list" (rdL f) fun g _ U h1 k h2 => by cases g <;> cases h1 <;> cases h2 <;> decide +kernel
    | dic _ f _ =>
      exact main "dict" (f.elim (fun f => .base (.dK f)) fun ⟨o, f⟩ => .fDict f) fun g _ U h1 k h2 => by cases g <;> cases h1 <;> cases h2 <;> decide +kernel
    | dit hl g _ => cases f <;> cases e2
    | exn _ _ _ _ _ => cases f <;> cases e2
  | lst f _ => exact main "list" (rdL (SqL.of f)) fun g _ U h1 k h2 => by cases g <;> cases h1 <;> cases h2 <;> decide +kernel
  | dic f _ => exact main "dict" (f.elim (fun f => .base (.dK f)) fun ⟨o, f⟩ => .fDict f) fun g _ U h1 k h2 => by cases g <;> cases h1 <;> cases h2 <;> decide +kernel
  | dit g _ => cases f <;> cases e2
noncomputable def rIsiK1 (K : PySem.W.Frag) (T : String) : List V → Hp → VK → Prop := fun vs H Q => ∃ v, vs = [v] ∧ rIsi K [v, .ty T] H Q
theorem isi_ok (R : Rel F μ L H st) {vs : List V} {ws : List W} {f : Bfn} {T : String} (hf : isiT f = some T) (r : RepWs F μ L H vs ws) (h : PostW F Ew μ L H st (bfnW f ws st) G) : rIsiK1 F.K T vs H G := by
  rcases bfnW_alt (by intro z; subst z; cases hf) (by intro z; subst z; cases hf) h with ⟨ds, d, q1, q2, q⟩ | ⟨n, o, d, rfl, q1, q2, q⟩
  rotate_left
  · cases r with
    | cons r t =>
      cases t
      cases o <;> try (cases f <;> first | (cases hf; done) | (cases q2; done))
      · obtain ⟨a, rfl, _, ⟨vs, g1, g2⟩, _⟩ := R.thg r q1 rfl
        have ty : TyX F.K H (.ref a) (.type "list") := .base (.lst g1)
        cases f <;> first
          | (cases hf; done)
          | (cases hf; cases q2; exact ⟨_, rfl, _, .ty _, .type _, .type _, _, rfl, .ty _, ty, kit_ty (by decide +kernel), fin_bl R q⟩)
      · obtain ⟨a, rfl, _, ⟨vs, g1, g2⟩, _⟩ := R.thg r q1 rfl
        have ty : TyX F.K H (.ref a) (.type "tuple") := .base (.tup g1)
        cases f <;> first
          | (cases hf; done)
          | (cases hf; cases q2; exact ⟨_, rfl, _, .ty _, .type _, .type _, _, rfl, .ty _, ty, kit_ty (by decide +kernel), fin_bl R q⟩)
  have ss := shs_of R r q1
  obtain ⟨d', rfl, k2⟩ : ∃ d', ds = [d'] ∧ (isiD f d').map D.bl = some d := by
    cases ds with
    | nil => cases f <;> first | (cases hf; done) | cases q2
    | cons x r => cases r with
      | nil => exact ⟨x, rfl, by cases f <;> first | (cases hf; done) | exact q2⟩
      | cons y r => cases f <;> first | (cases hf; done) | cases q2
  obtain ⟨v, rfl, s⟩ := ss.one
  cases z : isiD f d' with
  | none => rw [z] at k2; cases k2
  | some b =>
    rw [z] at k2
    cases k2
    obtain ⟨t, ty, k⟩ := tyx_of s hf z
    exact ⟨v, rfl, v, .ty T, .type t, .type T, b, rfl, .ty T, ty, kit_ty k, fin_bl R q⟩

/-! ### all, any, sum, max, min -/
theorem bools_ok (R : Rel F μ L H st) {vs : List V} {ws : List W} {f : Bfn} {g : List Bool → Bool} (hf : f ≠ .lstM) (hf2 : f ≠ .srtM) (hO : ∀ o, isiO f o = none) (hg : ∀ ds d, bfnD f ds = some d → ∃ es bs, ds = [.lst es] ∧ allB es = some bs ∧ d = .bl (g bs))
    (r : RepWs F μ L H vs ws) (h : PostW F Ew μ L H st (bfnW f ws st) G) : ∃ (a : Addr) (bs : List Bool), vs = [V.ref a] ∧ SqL F.K H a (bs.map V.bl) ∧ G (.bl (g bs)) H := by
  obtain ⟨ds, d, q1, q2, q⟩ := bfnW_val hf hf2 hO h
  have ss := shs_of R r q1
  obtain ⟨es, bs, rfl, z, rfl⟩ := hg ds d q2
  obtain ⟨v, rfl, s⟩ := ss.one
  obtain ⟨a, xs, rfl, sq, r⟩ := s.lstS
  rw [allB_v r z] at sq
  exact ⟨a, bs, rfl, sq, fin_bl R q⟩
theorem nums_ok (R : Rel F μ L H st) {vs : List V} {ws : List W} {f : Bfn} {g : List Int → Option Int} (hf : f ≠ .lstM) (hf2 : f ≠ .srtM) (hO : ∀ o, isiO f o = none) (hg : ∀ ds d, bfnD f ds = some d → ∃ es ns k, ds = [.lst es] ∧ allI es = some ns ∧ g ns = some k ∧ d = .int k)
    (r : RepWs F μ L H vs ws) (h : PostW F Ew μ L H st (bfnW f ws st) G) : ∃ (a : Addr) (ns : List Int) (k : Int), vs = [V.ref a] ∧ SqL F.K H a (ns.map V.int) ∧ g ns = some k ∧ G (.int k) H := by
  obtain ⟨ds, d, q1, q2, q⟩ := bfnW_val hf hf2 hO h
  have ss := shs_of R r q1
  obtain ⟨es, ns, k, rfl, z, y, rfl⟩ := hg ds d q2
  obtain ⟨v, rfl, s⟩ := ss.one
  obtain ⟨a, xs, rfl, sq, r⟩ := s.lstS
  rw [allI_v r z] at sq
  exact ⟨a, ns, k, rfl, sq, y, fin_int R q⟩
theorem one_lst {f : Bfn} {ds : List D} {d : D} {g : List D → Option D} (h1 : ∀ es, bfnD f [.lst es] = g es) (h2 : ∀ x, (∀ es, x ≠ .lst es) → bfnD f [x] = none) (h3 : bfnD f [] = none) (h4 : ∀ x y r, bfnD f (x :: y :: r) = none) (h : bfnD f ds = some d) : ∃ es, ds = [.lst es] ∧ g es = some d := by
  cases ds with
  | nil => rw [h3] at h; cases h
  | cons x r =>
    cases r with
    | cons y r => rw [h4] at h; cases h
    | nil =>
      by_cases z : ∃ es, x = .lst es
      · obtain ⟨es, rfl⟩ := z
        exact ⟨es, rfl, by rw [← h1]; exact h⟩
      · rw [h2 x fun es e => z ⟨es, e⟩] at h; cases h
theorem all_ok (R : Rel F μ L H st) {vs : List V} {ws : List W} (r : RepWs F μ L H vs ws) (h : PostW F Ew μ L H st (bfnW .all ws st) G) : rAll F.K vs H G :=
  bools_ok R (g := fun bs => bs.all id) (by decide) (by decide) (by intro o; cases o <;> rfl) (fun ds d e => by
    obtain ⟨es, rfl, e⟩ := one_lst (f := .all) (fun es => rfl) (fun x hx => by cases x <;> first | rfl | exact absurd rfl (hx _)) rfl (fun x y r => by cases x <;> rfl) e
    obtain ⟨bs, e1, e2⟩ := Option.map_eq_some_iff.mp e
    exact ⟨es, bs, rfl, e1, e2.symm⟩) r h
theorem any_ok (R : Rel F μ L H st) {vs : List V} {ws : List W} (r : RepWs F μ L H vs ws) (h : PostW F Ew μ L H st (bfnW .any ws st) G) : rAny F.K vs H G :=
  bools_ok R (g := fun bs => bs.any id) (by decide) (by decide) (by intro o; cases o <;> rfl) (fun ds d e => by
    obtain ⟨es, rfl, e⟩ := one_lst (f := .any) (fun es => rfl) (fun x hx => by cases x <;> first | rfl | exact absurd rfl (hx _)) rfl (fun x y r => by cases x <;> rfl) e
    obtain ⟨bs, e1, e2⟩ := Option.map_eq_some_iff.mp e
    exact ⟨es, bs, rfl, e1, e2.symm⟩) r h
theorem sum_ok (R : Rel F μ L H st) {vs : List V} {ws : List W} (r : RepWs F μ L H vs ws) (h : PostW F Ew μ L H st (bfnW .sum ws st) G) : rSum F.K vs H G := by
  obtain ⟨a, ns, k, e1, sq, e2, q⟩ := nums_ok R (f := .sum) (g := fun ns => some ns.sum) (by decide) (by decide) (by intro o; cases o <;> rfl) (fun ds d e => by
    obtain ⟨es, rfl, e⟩ := one_lst (f := .sum) (fun es => rfl) (fun x hx => by cases x <;> first | rfl | exact absurd rfl (hx _)) rfl (fun x y r => by cases x <;> rfl) e
    obtain ⟨bs, e1, e2⟩ := Option.map_eq_some_iff.mp e
    exact ⟨es, bs, _, rfl, e1, rfl, e2.symm⟩) r h
  cases e2
  exact ⟨a, ns, e1, sq, q⟩
noncomputable def maxO : List Int → Option Int
  | [] => none
  | x :: r => some (maxL x r)
noncomputable def minO : List Int → Option Int
  | [] => none
  | x :: r => some (minL x r)
theorem maxL_spec : ∀ (r : List Int) (x : Int), (maxL x r = x ∨ maxL x r ∈ r) ∧ x ≤ maxL x r ∧ ∀ y, y ∈ r → y ≤ maxL x r
  | [], x => ⟨.inl rfl, Int.le_refl _, fun y h => by cases h⟩
  | z :: r, x => by
    rw [maxL]
    obtain ⟨h1, h2, h3⟩ := maxL_spec r (if z > x then z else x)
    refine ⟨?_, ?_, ?_⟩
    · rcases h1 with h1 | h1
      · split at h1
        · rw [if_pos (by assumption)]; exact .inr (by rw [h1]; exact List.mem_cons_self)
        · rw [if_neg (by assumption)]; exact .inl h1
      · exact .inr (List.mem_cons_of_mem _ h1)
    · refine Int.le_trans ?_ h2
      split <;> omega
    · intro y hy
      rcases List.mem_cons.mp hy with rfl | hy
      · refine Int.le_trans ?_ h2
        split <;> omega
      · exact h3 y hy
theorem minL_spec : ∀ (r : List Int) (x : Int), (minL x r = x ∨ minL x r ∈ r) ∧ minL x r ≤ x ∧ ∀ y, y ∈ r → minL x r ≤ y
  | [], x => ⟨.inl rfl, Int.le_refl _, fun y h => by cases h⟩
  | z :: r, x => by
    rw [minL]
    obtain ⟨h1, h2, h3⟩ := minL_spec r (if z < x then z else x)
    refine ⟨?_, ?_, ?_⟩
    · rcases h1 with h1 | h1
      · split at h1
        · rw [if_pos (by assumption)]; exact .inr (by rw [h1]; exact List.mem_cons_self)
        · rw [if_neg (by assumption)]; exact .inl h1
      · exact .inr (List.mem_cons_of_mem _ h1)
    · refine Int.le_trans h2 ?_
      split <;> omega
    · intro y hy
      rcases List.mem_cons.mp hy with rfl | hy
      · refine Int.le_trans h2 ?_
        split <;> omega
      · exact h3 y hy
theorem max1_ok (R : Rel F μ L H st) {vs : List V} {ws : List W} (r : RepWs F μ L H vs ws) (h : PostW F Ew μ L H st (bfnW .max1 ws st) G) : rMax F.K vs H G := by
  obtain ⟨a, ns, k, e1, sq, e2, q⟩ := nums_ok R (f := .max1) (g := maxO) (by decide) (by decide) (by intro o; cases o <;> rfl) (fun ds d e => by
    obtain ⟨es, rfl, e⟩ := one_lst (f := .max1) (fun es => rfl) (fun x hx => by cases x <;> first | rfl | exact absurd rfl (hx _)) rfl (fun x y r => by cases x <;> rfl) e
    obtain ⟨bs, e1, e2⟩ := Option.bind_eq_some_iff.mp e
    cases bs with
    | nil => cases e2
    | cons x r => cases e2; exact ⟨es, x :: r, _, rfl, e1, rfl, rfl⟩) r h
  cases ns with
  | nil => cases e2
  | cons x r =>
    cases e2
    obtain ⟨p1, p2, p3⟩ := maxL_spec r x
    refine ⟨a, x :: r, e1, sq, by simp, fun m hm hle => ?_⟩
    have : m = maxL x r := by
      refine Int.le_antisymm ?_ (hle _ ?_)
      · rcases List.mem_cons.mp hm with rfl | hm
        · exact p2
        · exact p3 m hm
      · rcases p1 with p1 | p1
        · rw [p1]; exact List.mem_cons_self
        · exact List.mem_cons_of_mem _ p1
    rw [this]; exact q
theorem min1_ok (R : Rel F μ L H st) {vs : List V} {ws : List W} (r : RepWs F μ L H vs ws) (h : PostW F Ew μ L H st (bfnW .min1 ws st) G) : rMin F.K vs H G := by
  obtain ⟨a, ns, k, e1, sq, e2, q⟩ := nums_ok R (f := .min1) (g := minO) (by decide) (by decide) (by intro o; cases o <;> rfl) (fun ds d e => by
    obtain ⟨es, rfl, e⟩ := one_lst (f := .min1) (fun es => rfl) (fun x hx => by cases x <;> first | rfl | exact absurd rfl (hx _)) rfl (fun x y r => by cases x <;> rfl) e
    obtain ⟨bs, e1, e2⟩ := Option.bind_eq_some_iff.mp e
    cases bs with
    | nil => cases e2
    | cons x r => cases e2; exact ⟨es, x :: r, _, rfl, e1, rfl, rfl⟩) r h
  cases ns with
  | nil => cases e2
  | cons x r =>
    cases e2
    obtain ⟨p1, p2, p3⟩ := minL_spec r x
    refine ⟨a, x :: r, e1, sq, by simp, fun m hm hle => ?_⟩
    have : m = minL x r := by
      refine Int.le_antisymm (hle _ ?_) ?_
      · rcases p1 with p1 | p1
        · rw [p1]; exact List.mem_cons_self
        · exact List.mem_cons_of_mem _ p1
      · rcases List.mem_cons.mp hm with rfl | hm
        · exact p2
        · exact p3 m hm
    rw [this]; exact q

/-! ### of numbers -/
theorem num1_ok (R : Rel F μ L H st) {vs : List V} {ws : List W} {f : Bfn} (hf : f ≠ .lstM) (hf2 : f ≠ .srtM) (hO : ∀ o, isiO f o = none) (r : RepWs F μ L H vs ws) (h : PostW F Ew μ L H st (bfnW f ws st) G) : ∃ ds d, Shs F L H vs ds ∧ bfnD f ds = some d ∧ PostD F Ew μ L H st d G := by
  obtain ⟨ds, d, q1, q2, q⟩ := bfnW_val hf hf2 hO h
  exact ⟨ds, d, shs_of R r q1, q2, q⟩
noncomputable def rMax2 : List V → Hp → VK → Prop := fun xs H Q => ∃ i j, xs = [.int i, .int j] ∧ Q (.int (if j > i then j else i)) H
noncomputable def rMin2 : List V → Hp → VK → Prop := fun xs H Q => ∃ i j, xs = [.int i, .int j] ∧ Q (.int (if j < i then j else i)) H
theorem max2_ok (R : Rel F μ L H st) {vs : List V} {ws : List W} (r : RepWs F μ L H vs ws) (h : PostW F Ew μ L H st (bfnW .max2 ws st) G) : rMax2 vs H G := by
  obtain ⟨ds, d, ss, e, q⟩ := num1_ok R (by decide) (by decide) (by intro o; cases o <;> rfl) r h
  match ds, e, ss with
  | [.int i, .int j], e, ss =>
    cases e
    obtain ⟨v, u, rfl, s1, s2⟩ := ss.two
    rw [s1.int, s2.int]
    exact ⟨i, j, rfl, fin_int R q⟩
theorem min2_ok (R : Rel F μ L H st) {vs : List V} {ws : List W} (r : RepWs F μ L H vs ws) (h : PostW F Ew μ L H st (bfnW .min2 ws st) G) : rMin2 vs H G := by
  obtain ⟨ds, d, ss, e, q⟩ := num1_ok R (by decide) (by decide) (by intro o; cases o <;> rfl) r h
  match ds, e, ss with
  | [.int i, .int j], e, ss =>
    cases e
    obtain ⟨v, u, rfl, s1, s2⟩ := ss.two
    rw [s1.int, s2.int]
    exact ⟨i, j, rfl, fin_int R q⟩
noncomputable def rInt1 : List V → Hp → VK → Prop := fun xs H Q => (∃ i, xs = [.int i] ∧ Q (.int i) H) ∨ ∃ k, xs = [.bl k] ∧ Q (.int (if k then 1 else 0)) H
theorem int1_ok (R : Rel F μ L H st) {vs : List V} {ws : List W} (r : RepWs F μ L H vs ws) (h : PostW F Ew μ L H st (bfnW .int ws st) G) : rInt1 vs H G := by
  obtain ⟨ds, d, ss, e, q⟩ := num1_ok R (by decide) (by decide) (by intro o; cases o <;> rfl) r h
  match ds, e, ss with
  | [.int i], e, ss =>
    cases e
    obtain ⟨v, rfl, s1⟩ := ss.one
    rw [s1.int]
    exact .inl ⟨i, rfl, fin_int R q⟩
  | [.bl b], e, ss =>
    cases e
    obtain ⟨v, rfl, s1⟩ := ss.one
    rw [s1.bl]
    exact .inr ⟨b, rfl, fin_int R q⟩
noncomputable def rBool1 : List V → Hp → VK → Prop := fun xs H Q => (∃ i, xs = [.int i] ∧ Q (.bl (i != 0)) H) ∨ ∃ k, xs = [.bl k] ∧ Q (.bl k) H
theorem bool1_ok (R : Rel F μ L H st) {vs : List V} {ws : List W} (r : RepWs F μ L H vs ws) (h : PostW F Ew μ L H st (bfnW .bool ws st) G) : rBool1 vs H G := by
  obtain ⟨ds, d, ss, e, q⟩ := num1_ok R (by decide) (by decide) (by intro o; cases o <;> rfl) r h
  match ds, e, ss with
  | [.int i], e, ss =>
    cases e
    obtain ⟨v, rfl, s1⟩ := ss.one
    rw [s1.int]
    exact .inl ⟨i, rfl, fin_bl R q⟩
  | [.bl b], e, ss =>
    cases e
    obtain ⟨v, rfl, s1⟩ := ss.one
    rw [s1.bl]
    exact .inr ⟨b, rfl, fin_bl R q⟩
theorem abs_ok (R : Rel F μ L H st) {vs : List V} {ws : List W} (r : RepWs F μ L H vs ws) (h : PostW F Ew μ L H st (bfnW .abs ws st) G) : (fun (xs : List V) (H : Hp) (Q : VK) => ∃ i, xs = [.int i] ∧ Q (.int (if i < 0 then -i else i)) H) vs H G := by
  obtain ⟨ds, d, ss, e, q⟩ := num1_ok R (by decide) (by decide) (by intro o; cases o <;> rfl) r h
  match ds, e, ss with
  | [.int i], e, ss =>
    cases e
    obtain ⟨v, rfl, s1⟩ := ss.one
    rw [s1.int]
    exact ⟨i, rfl, fin_int R q⟩
theorem strI_ok (R : Rel F μ L H st) {vs : List V} {ws : List W} (r : RepWs F μ L H vs ws) (h : PostW F Ew μ L H st (bfnW .strI ws st) G) : (fun (xs : List V) (H : Hp) (Q : VK) => ∃ i : Int, xs = [.int i] ∧ i.natAbs.log2 < 1920 ∧ Q (.str (toString i)) H) vs H G := by
  obtain ⟨ds, d, ss, e, q⟩ := num1_ok R (by decide) (by decide) (by intro o; cases o <;> rfl) r h
  match ds, e, ss with
  | [.int i], e, ss =>
    have e' : (if i.natAbs.log2 < 1920 then some (D.str (Str.ofString (toString i))) else none) = some d := e
    split at e'
    · rename_i z
      cases e'
      obtain ⟨v, rfl, s1⟩ := ss.one
      rw [s1.int]
      exact ⟨i, rfl, z, fin_str R q⟩
    · cases e'
noncomputable def rList1 (K : PySem.W.Frag) : List V → Hp → VK → Prop := fun xs H Q => ∃ p ys, xs = [.ref p] ∧ (SqL K H p ys ∨ SqT K H p ys) ∧ ∀ l, H l = none → Q (.ref l) (upd H l (.lst ys))
theorem lstP_ok (R : Rel F μ L H st) {vs : List V} {ws : List W} (r : RepWs F μ L H vs ws) (h : PostW F Ew μ L H st (bfnW .lstP ws st) G) : rList1 F.K vs H G := by
  obtain ⟨ds, d, ss, e, q⟩ := num1_ok R (by decide) (by decide) (by intro o; cases o <;> rfl) r h
  match ds, e, ss with
  | [x], e, ss =>
    obtain ⟨v, rfl, s1⟩ := ss.one
    obtain ⟨es, e1, e2⟩ := Option.map_eq_some_iff.mp (show (itemsD x).map D.lst = some d from e)
    subst e2
    obtain ⟨a, xs, rfl, sq, rr, _⟩ := items_sq s1 e1
    exact ⟨a, xs, rfl, sq, fun p hp => fin_lst R q hp rr⟩
theorem itemsW_rep (R : Rel F μ L H st) {v : V} {w : W} {xs : List W} (r : RepW F μ L H v w) (h : itemsW st w = some xs) : ∃ a ys, v = .ref a ∧ (SqL F.K H a ys ∨ SqT F.K H a ys) ∧ RepWs F μ L H ys xs := by
  cases w with
  | p d =>
    cases r with
    | p r =>
      obtain ⟨ds, e1, e2⟩ := Option.map_eq_some_iff.mp (show (itemsD d).map (·.map W.p) = some xs from h)
      subst e2
      obtain ⟨a, ys, rfl, sq, rr, _⟩ := items_sq (Sh.d r) e1
      exact ⟨a, ys, rfl, sq, reps_map rr⟩
  | r n =>
    rw [itemsW] at h
    cases q : st[n]? with
    | none => rw [q] at h; cases h
    | some o =>
      rw [q] at h
      cases o with
      | lst ws =>
        cases h
        obtain ⟨a, rfl, _, ⟨vs, g1, g2⟩, _⟩ := R.thg r q rfl
        exact ⟨a, vs, rfl, .inl (SqL.of g1), g2⟩
      | _ => cases h
theorem lstM_ok (R : Rel F μ L H st) {vs : List V} {ws : List W} (r : RepWs F μ L H vs ws) (h : PostW F Ew μ L H st (bfnW .lstM ws st) G) : rList1 F.K vs H G := by
  cases r with
  | nil => exact h.elim
  | cons r rs =>
   cases rs with
   | cons _ _ => exact h.elim
   | nil =>
    rename_i w
    unfold bfnW at h
    simp only at h
    cases q : itemsW st w with
    | none => simp only [q] at h; exact h.elim
    | some xs =>
      simp only [q] at h
      obtain ⟨a, ys, rfl, sq, rr⟩ := itemsW_rep R r q
      exact ⟨a, ys, rfl, sq, fun p hp => fin_lstM R h hp rr⟩
noncomputable def rTup1 (K : PySem.W.Frag) : List V → Hp → VK → Prop := fun xs H Q => ∃ p ys, xs = [.ref p] ∧ ((SqL K H p ys ∧ ∀ l, H l = none → Q (.ref l) (upd H l (.tup ys))) ∨ (SqT K H p ys ∧ Q (.ref p) H))
theorem tupl_ok (R : Rel F μ L H st) {vs : List V} {ws : List W} (r : RepWs F μ L H vs ws) (h : PostW F Ew μ L H st (bfnW .tupl ws st) G) : rTup1 F.K vs H G := by
  obtain ⟨ds, d, ss, e, q⟩ := num1_ok R (by decide) (by decide) (by intro o; cases o <;> rfl) r h
  match ds, e, ss with
  | [], e, _ => cases e
  | x :: y :: r, e, _ => cases x <;> cases e
  | [x], e, ss =>
    obtain ⟨v, rfl, s1⟩ := ss.one
    cases x with
    | tup xs =>
      cases e
      obtain ⟨a, ys, rfl, f, hL, rr⟩ := s1.tup
      exact ⟨a, ys, rfl, .inr ⟨SqT.of f, Post.here R q _ (.p (.tup hL f rr))⟩⟩
    | lst xs =>
      cases e
      obtain ⟨a, ys, rfl, f, rr⟩ := s1.lstS
      exact ⟨a, ys, rfl, .inl ⟨f, fun p hp => fin_tup R q hp rr⟩⟩
    | scr ns =>
      cases e
      cases s1 with
      | d s1 => cases s1 with
        | scr _ f _ =>
          have tints : ∀ ns : List Int, RepDs F L H (ns.map V.int) (ns.map D.int) := fun ns => by
            induction ns with
            | nil => exact .nil
            | cons n r ih => exact .cons (.int n) ih
          exact ⟨_, _, rfl, .inl ⟨f, fun p hp => fin_tup R q hp (tints ns)⟩⟩
    | _ => cases e
end
end T

set_option maxRecDepth 100000
set_option maxHeartbeats 4000000
/-! T: sorted and min of tuples -/
namespace T
open PySem L2
section
variable {X : Cx}
noncomputable def rSortD (K : PySem.W.Frag) : List V → Hp → VK → Prop := fun vs H Q => ∃ (a : Addr) (xs : List V) (es : List PyData), vs = [.ref a] ∧ SqL K H a xs ∧ DpAll K H xs es ∧ ordOk es = true ∧
  ∀ p, H p = none → Q (.ref p) (upd H p (.lst (((xs.zip es).mergeSort (PySem.W.dataLe false Prod.snd)).map Prod.fst)))
noncomputable def rMinD (K : PySem.W.Frag) : List V → Hp → VK → Prop := fun vs H Q => ∃ (a : Addr) (x : V) (xs : List V) (e : PyData) (es : List PyData), vs = [.ref a] ∧ SqL K H a (x :: xs) ∧ DpAll K H (x :: xs) (e :: es) ∧ ordOk (e :: es) = true ∧
  Q ((xs.zip es).foldl (fun a y => if PySem.W.dataLt y.2 a.2 then y else a) (x, e)).1 H
theorem dpall_len {K : PySem.W.Frag} {H : Hp} : ∀ {xs : List V} {es : List PyData}, DpAll K H xs es → xs.length = es.length
  | _, _, .nil => rfl
  | _, _, .cons _ t => congrArg (· + 1) (dpall_len t)
theorem each_vals : ∀ {xs : List V} {us : List Value} {es : List PyData}, Vals xs us → xs.length = es.length → PySem.W.EachIs (fun v (b : V × PyData) => RelV b.1 v) us (xs.zip es)
  | _, _, [], .nil, _ => .nil
  | _, _, _ :: _, .nil, h => by cases h
  | _, _, [], .cons _ _, h => by cases h
  | _, _, _ :: _, .cons r t, h => .cons r (each_vals t (Nat.succ.inj h))
theorem vals_each : ∀ {us : List Value} {bs : List (V × PyData)}, PySem.W.EachIs (fun v (b : V × PyData) => RelV b.1 v) us bs → Vals (bs.map Prod.fst) us
  | _, _, .nil => .nil
  | _, _, .cons r t => .cons r (vals_each t)
theorem ordOk_alike {es : List PyData} (h : ordOk es = true) : PySem.W.AllAlike es := fun d hd e he => by
  unfold ordOk at h
  simp only [Bool.and_eq_true] at h
  exact List.all_eq_true.mp (List.all_eq_true.mp h.1.1.1 d hd) e he
theorem ordOk_tup {es : List PyData} (h : ordOk es = true) : ∀ d ∈ es, ∃ x r, d = .tuple (x :: r) := fun d hd => by
  unfold ordOk at h
  simp only [Bool.and_eq_true] at h
  have := List.all_eq_true.mp h.1.1.2 d hd
  split at this
  · exact ⟨_, _, rfl⟩
  · cases this
theorem ordOk_deep {es : List PyData} (h : ordOk es = true) : PyData.depthAll es ≤ 60 := by
  unfold ordOk at h
  simp only [Bool.and_eq_true, decide_eq_true_eq] at h
  exact h.1.2
theorem ordOk_len {es : List PyData} (h : ordOk es = true) : es.length ≤ 16777216 := by
  unfold ordOk at h
  simp only [Bool.and_eq_true, decide_eq_true_eq] at h
  exact h.2
theorem depth_mem : ∀ {es : List PyData} {d : PyData}, d ∈ es → d.depth ≤ PyData.depthAll es
  | e :: es, d, h => by
    rw [PyData.depthAll]
    rcases List.mem_cons.mp h with rfl | h
    · exact Nat.le_max_left _ _
    · exact Nat.le_trans (depth_mem h) (Nat.le_max_right _ _)
theorem zip_snd {α β : Type} {xs : List α} {ys : List β} (h : xs.length = ys.length) : (xs.zip ys).map Prod.snd = ys := List.map_snd_zip (by omega)
theorem cr_sortedD (hu : X.A.units + 66 < cLine) : CallR X (.builtin "sorted") (rSortD X.K) := by
  intro pins s σ H vs us Q I r h
  obtain ⟨a, xs, es, rfl, hs, hx, ok, q⟩ := h
  obtain ⟨its, rv, hl, hz⟩ := I.list hs
  obtain ⟨u, rfl, ru⟩ := vals1 r
  obtain rfl : u = Value.ref a := ru
  obtain ⟨as, rd⟩ := Dp.readsAll I es xs its hx rv
  have ln := dpall_len hx
  have zs : (xs.zip es).map Prod.snd = es := zip_snd ln
  have lz : (xs.zip es).length = es.length := by rw [List.length_zip]; omega
  refine PySem.W.sorted_data (vs := its) (bs := xs.zip es) (enc := Prod.snd) (R := fun v (b : V × PyData) => RelV b.1 v) hl.isList (each_vals rv ln) (PySem.W.readsAll_each (as := as) Prod.snd (by rw [zs]; exact rd)) (by rw [zs]; exact ordOk_alike ok) (by rw [zs]; exact .inl (ordOk_tup ok))
    (by rw [lz, sizeLine_eq]; exact ordOk_len ok) (fun b hb => ?_) fun out ho eo => ?_
  · have := ordOk_deep ok
    have hm : b.2 ∈ es := by rw [← zs]; exact List.mem_map_of_mem hb
    have := depth_mem hm
    omega
  · obtain ⟨n, hn⟩ := PyProof.Rows.sortedAll_at s.heap its out.toArray
    have hv := vals_each eo
    refine ⟨.ref (s.heap.objs.size + 1), upd H (s.heap.objs.size + 1) (.lst (((xs.zip es).mergeSort (PySem.W.dataLe false Prod.snd)).map Prod.fst)), I.laid (t' := s.toks) (fun _ _ => PyProof.Rows.sortedAll_old) (Nat.le_succ _) ⟨?_, out, n, hv, hn⟩, rfl, q _ (I.hok.fresh (Nat.le_succ _))⟩
    rw [List.length_map, List.length_mergeSort, lz, sizeLine_eq]
    exact ordOk_len ok
theorem cr_minD (hc : X.calm = true) (hu : X.A.units + 66 < cLine) : CallR X (.builtin "min") (rMinD X.K) := by
  intro pins s σ H vs us Q I r h
  obtain ⟨a, x, xs, e, es, rfl, hs, hx, ok, q⟩ := h
  obtain ⟨its, rv, hl, hz⟩ := I.list hs
  obtain ⟨u, rfl, ru⟩ := vals1 r
  obtain rfl : u = Value.ref a := ru
  obtain ⟨as, rd⟩ := Dp.readsAll I (e :: es) (x :: xs) its hx rv
  have ln := dpall_len hx
  have ll : its.length = es.length + 1 := by rw [← rv.length]; exact ln
  have ok' : PySem.W.AlikeAll (e :: es) := ⟨ordOk_alike ok, fun d hd g => by
    obtain ⟨y, r, q⟩ := ordOk_tup ok d hd
    rw [g] at q
    cases q⟩
  have hd := ordOk_deep ok
  have rd' : ReadsAll s.heap its.toArray.toList (e :: es) as := rd
  refine PySem.call_min_walkH (PySem.W.iter_listW (A := X.A.in1) (I.ok.hd hc) hl.isList fun s₂ e' W st hfp hw hk => ?_)
  have hn : its.toArray.size = es.length + 1 := by rw [List.size_toArray]; exact ll
  refine ⟨_, _, _, _, _, _, _, s.heap, _, rfl, W, st, hfp, by omega, hw, hk, PySem.W.cmpIn_lt (A := X.A.in1) rd' ok' (by show X.A.units + 1 + _ < _; omega), fun v s' hP m => ?_⟩
  obtain ⟨h', tk, rfl, hk'⟩ := PySem.W.moved_old e' rfl m
  have e1 : its.toArray.size - 1 = es.length := by omega
  have lx : xs.length = es.length := Nat.succ.inj ln
  have lz : (xs.zip es).length = es.length := by rw [List.length_zip]; omega
  obtain ⟨f1, f2⟩ := PySem.W.argBest_fold (fun (a b : V × PyData) => PySem.W.dataLt a.2 b.2) (V.non, PyData.none) (x, e) (xs.zip es) es.length (by omega)
  have sn : ∀ i, i ≤ es.length → (((x, e) :: xs.zip es).getD i (V.non, PyData.none)).2 = (e :: es).getD i .none := fun i hi => by
    have : ((x, e) :: xs.zip es).map Prod.snd = e :: es := by rw [List.map_cons, zip_snd lx]
    rw [List.getD_eq_getElem?_getD, List.getD_eq_getElem?_getD, ← this, List.getElem?_map]
    cases q : ((x, e) :: xs.zip es)[i]? with
    | none => rfl
    | some y => rfl
  have ab : ∀ k, k ≤ es.length → argBest (fun i j => PySem.W.dataLt ((e :: es).getD i .none) ((e :: es).getD j .none)) k = argBest (fun i j => PySem.W.dataLt (((x, e) :: xs.zip es).getD i (V.non, PyData.none)).2 (((x, e) :: xs.zip es).getD j (V.non, PyData.none)).2) k := by
    intro k
    induction k with
    | zero => intro _; rfl
    | succ k ih =>
      intro hk
      have hl := (PySem.W.argBest_fold (fun (a b : V × PyData) => PySem.W.dataLt a.2 b.2) (V.non, PyData.none) (x, e) (xs.zip es) k (by omega)).1
      show (if PySem.W.dataLt ((e :: es).getD (k + 1) .none) ((e :: es).getD (argBest _ k) .none) = true then k + 1 else argBest _ k) = if PySem.W.dataLt (((x, e) :: xs.zip es).getD (k + 1) (V.non, PyData.none)).2 (((x, e) :: xs.zip es).getD (argBest _ k) (V.non, PyData.none)).2 = true then k + 1 else argBest _ k
      rw [ih (by omega), sn (k + 1) hk, sn _ (Nat.le_trans hl (by omega))]
  rw [e1, ab _ (Nat.le_refl _)] at hP
  rw [List.take_of_length_le (by omega)] at f2
  rw [← f2] at q
  have lt : ((x, e) :: xs.zip es).length = its.length := by rw [List.length_cons]; omega
  have gx : ∀ i, i ≤ es.length → ∃ y, (x :: xs)[i]? = some y ∧ (((x, e) :: xs.zip es).getD i (V.non, PyData.none)).1 = y := fun i hi => by
    have : ((x, e) :: xs.zip es).map Prod.fst = x :: xs := by rw [List.map_cons, List.map_fst_zip (by omega)]
    rw [← this, List.getElem?_map]
    have hi' : i < ((x, e) :: xs.zip es).length := by omega
    refine ⟨_, by rw [List.getElem?_eq_getElem hi']; rfl, ?_⟩
    rw [List.getD_eq_getElem?_getD, List.getElem?_eq_getElem hi']; rfl
  obtain ⟨y, y1, y2⟩ := gx _ f1
  rw [y2] at q
  obtain ⟨u, u1, u2⟩ := rv.get y1
  have hP' : its.toArray[argBest (fun i j => PySem.W.dataLt (((x, e) :: xs.zip es).getD i (V.non, PyData.none)).2 (((x, e) :: xs.zip es).getD j (V.non, PyData.none)).2) es.length]? = some v := hP
  rw [List.getElem?_toArray, u1] at hP'
  cases hP'
  exact ⟨y, H, I.kept hk', u2, q⟩
end
section
variable {F : Fx} {Ew : XK} {μ : List Addr} {L : Addr → Prop} {H : Hp} {st : Sto} {G : VK}
theorem reps_each : ∀ {Z : List (V × D × PyData)}, (∀ z ∈ Z, RepD F L H z.1 z.2.1) → RepDs F L H (Z.map (·.1)) (Z.map (·.2.1))
  | [], _ => .nil
  | z :: Z, h => .cons (h z (List.mem_cons_self ..)) (reps_each fun y hy => h y (List.mem_cons_of_mem _ hy))
theorem three : ∀ {xs : List V} {ds : List D} {es : List PyData}, RepDs F L H xs ds → ds.length = es.length → ∃ Z : List (V × D × PyData), (Z.map fun z => (z.1, z.2.2)) = xs.zip es ∧ (Z.map fun z => (z.2.1, z.2.2)) = ds.zip es ∧ ∀ z ∈ Z, RepD F L H z.1 z.2.1
  | _, _, [], .nil, _ => ⟨[], rfl, rfl, fun z h => by cases h⟩
  | _, _, _ :: _, .nil, h => by cases h
  | _, _, [], .cons _ _, h => by cases h
  | _, _, e :: es, .cons (v := v) (d := d) r t, h => by
    obtain ⟨Z, h1, h2, h3⟩ := three t (Nat.succ.inj h)
    exact ⟨(v, d, e) :: Z, by rw [List.map_cons, h1]; rfl, by rw [List.map_cons, h2]; rfl, fun z hz => by
      rcases List.mem_cons.mp hz with rfl | hz
      · exact r
      · exact h3 z hz⟩
theorem toPys_len : ∀ {ds : List D} {es : List PyData}, toPys ds = some es → ds.length = es.length
  | [], _, h => by rw [toPys] at h; cases h; rfl
  | d :: ds, es, h => by
    rw [toPys] at h
    cases q1 : toPy d with
    | none => rw [q1] at h; cases h
    | some e =>
      cases q2 : toPys ds with
      | none => rw [q1, q2] at h; cases h
      | some es' => rw [q1, q2] at h; cases h; rw [List.length_cons, List.length_cons, toPys_len q2]
theorem srt_reps {xs : List V} {ds : List D} {es : List PyData} (r : RepDs F L H xs ds) (h : ds.length = es.length) :
    RepDs F L H (((xs.zip es).mergeSort (PySem.W.dataLe false Prod.snd)).map Prod.fst) (((ds.zip es).mergeSort (PySem.W.dataLe false Prod.snd)).map Prod.fst) := by
  obtain ⟨Z, h1, h2, h3⟩ := three r h
  have e1 : ((Z.mergeSort (PySem.W.dataLe false fun z => z.2.2)).map fun z => (z.1, z.2.2)) = (xs.zip es).mergeSort (PySem.W.dataLe false Prod.snd) := by
    rw [← h1]; exact PySem.W.sort_maps _ fun _ _ _ _ => rfl
  have e2 : ((Z.mergeSort (PySem.W.dataLe false fun z => z.2.2)).map fun z => (z.2.1, z.2.2)) = (ds.zip es).mergeSort (PySem.W.dataLe false Prod.snd) := by
    rw [← h2]; exact PySem.W.sort_maps _ fun _ _ _ _ => rfl
  rw [← e1, ← e2, List.map_map, List.map_map]
  exact reps_each (Z := Z.mergeSort (PySem.W.dataLe false fun z => z.2.2)) fun z hz => h3 z (List.mem_mergeSort.mp hz)
theorem min_reps : ∀ {xs : List V} {ds : List D} {es : List PyData} {x : V} {d : D} {e : PyData}, RepD F L H x d → RepDs F L H xs ds → ds.length = es.length →
    RepD F L H ((xs.zip es).foldl (fun a y => if PySem.W.dataLt y.2 a.2 then y else a) (x, e)).1 ((ds.zip es).foldl (fun a y => if PySem.W.dataLt y.2 a.2 then y else a) (d, e)).1
  | _, _, [], _, _, _, r, .nil, _ => r
  | _, _, _ :: _, _, _, _, _, .nil, h => by cases h
  | _, _, [], _, _, _, _, .cons _ _, h => by cases h
  | _, _, e' :: es, x, d, e, r, .cons (v := v) (d := d') r' t, h => by
    rw [List.zip_cons_cons, List.zip_cons_cons, List.foldl_cons, List.foldl_cons]
    by_cases q : PySem.W.dataLt e' e = true
    · simp only [if_pos q]
      exact min_reps r' t (Nat.succ.inj h)
    · simp only [if_neg q]
      exact min_reps r t (Nat.succ.inj h)
theorem srtD_ok (R : Rel F μ L H st) {vs : List V} {ws : List W} (r : RepWs F μ L H vs ws) (h : PostW F Ew μ L H st (bfnW .srtD ws st) G) : rSortD F.K vs H G := by
  obtain ⟨ds, d, q1, q2, q⟩ := bfnW_val (b := .srtD) (by decide) (by decide) (by intro o; cases o <;> rfl) h
  have ss := shs_of R r q1
  obtain ⟨ds0, rfl, z⟩ := one_lst (f := .srtD) (fun es => rfl) (fun x hx => by cases x <;> first | rfl | exact absurd rfl (hx _)) rfl (fun x y r => by cases x <;> rfl) q2
  obtain ⟨out, z2, rfl⟩ := Option.map_eq_some_iff.mp (show (srtDs ds0).map D.lst = some d from z)
  have z : srtDs ds0 = some out := z2
  obtain ⟨v, rfl, s⟩ := ss.one
  obtain ⟨a, xs, rfl, sq, rr⟩ := s.lstS
  unfold srtDs at z
  cases q3 : toPys ds0 with
  | none => rw [q3] at z; cases z
  | some es =>
    rw [q3] at z
    simp only at z
    split at z
    · rename_i ok
      cases z
      exact ⟨a, xs, es, rfl, sq, dps_of rr q3, ok, fun p hp => fin_lst R q hp (srt_reps rr (toPys_len q3))⟩
    · cases z
theorem minD_ok (R : Rel F μ L H st) {vs : List V} {ws : List W} (r : RepWs F μ L H vs ws) (h : PostW F Ew μ L H st (bfnW .minD ws st) G) : rMinD F.K vs H G := by
  obtain ⟨ds, d, q1, q2, q⟩ := bfnW_val (b := .minD) (by decide) (by decide) (by intro o; cases o <;> rfl) h
  have ss := shs_of R r q1
  obtain ⟨ds0, rfl, z⟩ := one_lst (f := .minD) (fun es => rfl) (fun x hx => by cases x <;> first | rfl | exact absurd rfl (hx _)) rfl (fun x y r => by cases x <;> rfl) q2
  obtain ⟨v, rfl, s⟩ := ss.one
  obtain ⟨a, xs, rfl, sq, rr⟩ := s.lstS
  have z : minDs ds0 = some d := z
  cases ds0 with
  | nil => cases z
  | cons d0 ds0 =>
    unfold minDs at z
    cases q3 : toPys (d0 :: ds0) with
    | none => simp only [q3] at z; cases z
    | some es =>
      simp only [q3] at z
      cases es with
      | nil => cases z
      | cons e es =>
        simp only at z
        split at z
        · rename_i ok
          cases z
          have dp := dps_of rr q3
          cases rr with
          | cons r0 t0 =>
            exact ⟨a, _, _, e, es, rfl, sq, dp, ok, Post.here R q _ (.p (min_reps r0 t0 (Nat.succ.inj (toPys_len q3))))⟩
        · cases z
end
end T

set_option maxRecDepth 100000
set_option maxHeartbeats 4000000
/-! T: list.extend by a tuple -/
namespace T
open PySem L2
open PySem.AutoSeq1
theorem ext_tup (l : Addr) (items : Array Value) (n : Nat) (b : Addr) (o : Obj) (items2 : Array Value) (n2 : Nat) (oc : o.cls = .type "tuple") (od : o.data = .seq items2 n2)
    (hs0 : ¬(!items.isEmpty && Builtin.List.listTooLong (items.size + items2.size)) = true) (hs1 : items.size ≤ sizeLine) (hs2 : items.size + items2.size ≤ sizeLine + 1) :
    Meets (Builtin.«list.extend» ⟨[.ref l, .ref b], []⟩) (fun _ R s => s.heap.get? l = some { cls := .type "list", dict := none, data := .seq items n, slots := #[] } ∧ s.heap.get? b = some o ∧ R (.ok (.ret Value.none)) { s with heap := s.heap.update l (Obj.mapSeq fun x => x ++ items2), toks := s.toks }) := by
  obtain ⟨cls, dict, data, slots⟩ := o
  simp only at oc od
  subst oc od
  exact .of_wp fun prog w A R s h => by
    obtain ⟨hp, g, d, tk, os⟩ := s; obtain ⟨hl, hb, h⟩ := h; have f1 := idx_int; have f2 := sub_tuple_tuple; have f3 := sub_list_list; have f4 := sub_tuple_list; have f5 := sub_list_tuple;
    have hz' : (items ++ items2).size ≤ sizeLine + 1 := by rw [Array.size_append]; exact hs2
    wp_walk using (wpAny_updateSeq hl rfl (hz := hs1) (_hz' := hz')), wpAny_loadPart' hl, wpAny_loadPart' hb; exact ⟨_, rfl, h⟩
noncomputable def rExtT : V → List V → Hp → VK → Prop := fun x vs H Q => ∃ l b xs zs, x = .ref l ∧ vs = [.ref b] ∧ H l = some (.lst xs) ∧ H b = some (.tup zs) ∧ xs.length + zs.length ≤ sizeLine ∧ Q .non (upd H l (.lst (xs ++ zs)))
theorem mt_extT {X : Cx} : MtM X "list.extend" rExtT := by
  intro pins s σ H x vs v us Q I rx rv h
  obtain ⟨l, b, xs, zs, rfl, rfl, hH, hB, hz, q⟩ := h
  cases rx
  obtain ⟨u, rfl, ru⟩ := rv.one
  cases ru
  obtain ⟨z, its, n, r, hl, e⟩ := I.lstM hH
  obtain ⟨its2, r2, ⟨o, e2, oc, n2, od⟩, z2⟩ := I.tuple (.of hB)
  have hl2 := r2.length
  have hsz : its.toArray.size + its2.toArray.size ≤ sizeLine := by rw [List.size_toArray, List.size_toArray]; omega
  have hlong : ¬ (!its.toArray.isEmpty && Builtin.List.listTooLong (its.toArray.size + its2.toArray.size)) = true := by
    rw [notLongL hsz, Bool.and_false]
    exact Bool.false_ne_true
  refine call_meets F.slot_list_extend ⟨_, e, rfl⟩ F.entry_list_extend (F.args_list_extend_2 _ _)
    (ext_tup l its.toArray n b o its2.toArray n2 oc od hlong (by rw [List.size_toArray]; omega) (by omega)) ⟨e, e2, ?_⟩
  refine ⟨.non, _, I.lset (its' := its ++ its2) hH e (by simp) (r.append r2) ?_, rfl, q⟩
  rw [List.length_append]
  omega
noncomputable def rExtX : V → List V → Hp → VK → Prop := fun x vs H Q => rExtend x vs H Q ∨ rExtT x vs H Q
theorem mt_extX {X : Cx} : MtM X "list.extend" rExtX := by
  intro pins s σ H x vs v us Q I rx rv h
  exact h.elim (mt_extend pins s σ H x vs v us Q I rx rv) (mt_extT pins s σ H x vs v us Q I rx rv)
end T
namespace SrtO
open PySem PyProof.Rows Srt
section
variable {prog : Program} {w : World} {A : Around} {E : Value → Shared → Prop} {s : Shared}
theorem collect_tupT {l : Addr} {vs : List Value} {Q : List Value → Shared → Prop} (hl : IsTup s.heap l vs.toArray)
    (h : Q vs { s with heap := (s.heap.push (seqObj "list" #[] 0)).update s.heap.objs.size (Obj.mapSeq (· ++ vs.toArray)) }) (hsz : vs.length ≤ sizeLine) :
    wpAny (model prog w) A (collect (.ref l)) Q E s := by
  obtain ⟨o, ho, hc, n, hd⟩ := id hl
  unfold collect
  refine wpAny_bind (wpAny_runValue (codeAny_builtin entry_proto_collect' ?_))
  show wpAny _ _ (do again (.builtin "list.__iadd__" ⟨[← newList [], .ref l], []⟩)) _ _ s
  refine wpAny_bind (wpAny_newList (wpAny_pure ⟨Code.quiet_builtin _ (by decide +kernel), codeAny_builtin entry_list_iadd' ?_⟩))
  show wpAny _ _ (Builtin.List.listExtendWith (.ref s.heap.objs.size) (.ref l) (.ref s.heap.objs.size)) _ _ { s with heap := s.heap.push (seqObj "list" #[] 0) }
  unfold Builtin.List.listExtendWith
  have ho' : (s.heap.push (seqObj "list" #[] 0)).get? l = some o := Heap.get?_push_of_some _ ho
  refine wpAny_bind (wpAny_typeOf (T := "tuple") ⟨o, ho', hc⟩ ?_)
  have ht : (Value.type "tuple" == Value.type "tuple") = true := by rfl
  rw [if_pos (by rw [ht]; simp)]
  refine wpAny_bind (listItems_at ho' hd ?_)
  refine wpAny_bind (listItems_at (xs := #[]) (n := 0) (Heap.get?_push_size _ rfl) rfl ?_)
  rw [if_neg (by simp)]
  refine wpAny_bind (listUpdate_at (xs := #[]) (n := 0) (Heap.get?_push_size _ rfl) rfl ?_ (Nat.zero_le _) (by show (#[] ++ vs.toArray).size ≤ sizeLine + 1; simp only [Array.size_append, List.size_toArray, List.length_nil]; omega))
  refine wpAny_pure ?_
  show wpAny (model prog w) A (do
      let o ← load s.heap.objs.size
      match o.data with
      | .seq xs _ => pure xs.toList
      | _ => unsupported "internal:collect") Q E { s with heap := (s.heap.push (seqObj "list" #[] 0)).update s.heap.objs.size (Obj.mapSeq (· ++ vs.toArray)) }
  refine wpAny_bind (wpAny_load (get?_update_seq (Heap.get?_push_size _ rfl) _) ?_)
  show wpAny _ _ (pure ((#[] : Array Value) ++ vs.toArray).toList) Q E _
  rw [show ((#[] : Array Value) ++ vs.toArray).toList = vs by simp]
  exact wpAny_pure h
theorem sorted_ordT {l : Addr} {vs : List Value} {ltv : Value → Value → Bool} {Q : Value → Shared → Prop} (O : Swo ltv) (hl : IsTup s.heap l vs.toArray) (hz : vs.length ≤ sizeLine)
    (hS : 2 ≤ vs.length → ∀ (h₁ : Heap) (a : Addr), h₁.get? a = some (seqObj "list" vs.toArray 0) → (∀ b o, s.heap.get? b = some o → b ≠ a ∧ h₁.get? b = some o) → SortableO prog w A.in1.in1 { s with heap := h₁ } a vs ltv)
    (h : ∀ out : List Value, Srtd ltv out → Stb ltv out vs → Q (.ref (s.heap.objs.size + 1)) { s with heap := sortedAll s.heap vs out.toArray }) :
    wpAny (model prog w) A (call (.builtin "sorted") [.ref l]) Q E s := by
  refine Calls.call_function_entry kind_sorted plain_sorted entry_sorted (args_sorted1 _) ?_
  unfold Builtin.«sorted»
  refine wpAny_bind (m := checkCount "sorted" 1 1 _) (wpAny_pure ?_)
  refine wpAny_bind (collect_tupT hl ?_ hz)
  refine wpAny_bind (wpAny_newList ?_ hz)
  have hsz : ((s.heap.push (seqObj "list" #[] 0)).update s.heap.objs.size (Obj.mapSeq (· ++ vs.toArray))).objs.size = s.heap.objs.size + 1 := by
    rw [Heap.size_update, size_push']
  have hoL : (((s.heap.push (seqObj "list" #[] 0)).update s.heap.objs.size (Obj.mapSeq (· ++ vs.toArray))).push (seqObj "list" vs.toArray 0)).get? (s.heap.objs.size + 1) = some (seqObj "list" vs.toArray 0) := by
    rw [← hsz]; exact Heap.get?_push_size _ rfl
  have keep : ∀ b o, s.heap.get? b = some o → b ≠ s.heap.objs.size + 1 ∧ (((s.heap.push (seqObj "list" #[] 0)).update s.heap.objs.size (Obj.mapSeq (· ++ vs.toArray))).push (seqObj "list" vs.toArray 0)).get? b = some o := fun b o q => by
    have hlt : b < s.heap.objs.size := Heap.lt_size q
    refine ⟨Nat.ne_of_lt (Nat.lt_succ_of_lt hlt), Heap.get?_push_of_some _ ?_⟩
    rw [Heap.get?_update_ne _ _ _ _ (Nat.ne_of_lt hlt)]
    exact Heap.get?_push_of_some _ q
  show wpAny _ _ _ _ _ { s with heap := ((s.heap.push (seqObj "list" #[] 0)).update s.heap.objs.size (Obj.mapSeq (· ++ vs.toArray))).push (seqObj "list" vs.toArray 0) }
  rw [hsz]
  refine wpAny_bind (wpAny_holding (wpAny_call_entry slot_list_sort ⟨_, hoL, rfl⟩ entry_list_sort (list_sort_ord O hoL hz (fun h2 => hS h2 _ _ hoL keep) fun out hs hb => ⟨_, rfl, ?_⟩) (args_list_sort _)))
  exact wpAny_pure ⟨_, rfl, h out hs hb⟩
end
end SrtO
namespace T
open PySem L2
noncomputable def rSortedIT (K : PySem.W.Frag) : List V → Hp → VK → Prop := fun vs H Q => ∃ (a : Addr) (ns : List Int), vs = [V.ref a] ∧ SqT K H a (ns.map V.int) ∧
  ∀ (ns' : List Int) (p : Addr), ns'.Perm ns → ns'.Pairwise (· ≤ ·) → H p = none → Q (.ref p) (upd H p (.lst (ns'.map V.int)))
theorem cr_sortedIT {X : Cx} : CallR X (.builtin "sorted") (rSortedIT X.K) := by
  intro pins s σ H vs us Q I r h
  obtain ⟨a, ns, rfl, hs, q⟩ := h
  obtain ⟨its, rv, hl, hz⟩ := I.tuple hs
  rw [Vals.ref1 r]
  have hi := rv.ints
  refine SrtO.sorted_ordT SrtO.swo_int hl (by rw [← rv.length]; exact hz) (fun h2 h₁ a' _ _ => SrtO.ints_sortable hi h2) fun out h1 h2 => ?_
  obtain ⟨k1, k2, k3⟩ := SrtO.ints_out hi h1 h2
  obtain ⟨ep, he'⟩ := PyProof.Rows.sortedAll_at s.heap its out.toArray
  have hlen : ((out.map SrtO.iv).map V.int).length ≤ sizeLine := by
    rw [List.length_map, k2.length_eq]
    rw [List.length_map] at hz
    exact hz
  exact ⟨.ref _, upd H (s.heap.objs.size + 1) (.lst ((out.map SrtO.iv).map V.int)), I.laid (t' := s.toks) (fun _ _ => PyProof.Rows.sortedAll_old) (Nat.le_succ _) ⟨hlen, out, ep, vals_of_ints k1, he'⟩, rfl, q _ _ k2 k3 (I.hok.fresh (Nat.le_succ _))⟩
/-! list(d), d a dict with tuples as keys -/
section
variable {F : Fx} {Ew : XK} {μ : List Addr} {L : Addr → Prop} {H : Hp} {st : Sto} {G : VK}
theorem kys_reps : ∀ ks : List Key, RepDs F L H (ks.map kV) (ks.map kD)
  | [] => .nil
  | .inl i :: r => .cons (.int i) (kys_reps r)
  | .inr x :: r => .cons (.str x) (kys_reps r)
theorem keys_reps : ∀ {kvs : List (List Key × V)} {ds : List (List Key × D)} {bs : List Addr}, RepTs F L H kvs ds → IsKeys H kvs bs → RepDs F L H (bs.map V.ref) (ds.map fun kv => D.tup (kv.1.map kD))
  | _, _, [], .nil, _ => .nil
  | _, _, _ :: _, .nil, h => by cases h
  | _, _, _, .cons r t, .cons h1 h2 => .cons (.tup (.inr rfl) h1 (kys_reps _)) (keys_reps t h2)
theorem lstT_ok (R : Rel F μ L H st) {vs : List V} {ws : List W} (r : RepWs F μ L H vs ws) (h : PostW F Ew μ L H st (bfnW .lstT ws st) G) : ∃ d kvs, vs = [V.ref d] ∧ Rd H d (.dT kvs) ∧ ∀ p bs, H p = none → IsKeys H kvs bs → G (.ref p) (upd H p (.lst (bs.map V.ref))) := by
  obtain ⟨ds, d, q1, q2, q⟩ := bfnW_val (b := .lstT) (by decide) (by decide) (by intro o; cases o <;> rfl) h
  have ss := shs_of R r q1
  cases ds with
  | nil => cases q2
  | cons x t =>
    cases t with
    | cons y t => cases x <;> cases q2
    | nil =>
      obtain ⟨v, rfl, s⟩ := ss.one
      cases x <;> try (cases q2; done)
      rename_i kvs
      have e : some (D.lst (kvs.map fun kv => D.tup (kv.1.map kD))) = some d := q2
      cases e
      have fin : ∀ {a : Addr} {xs : List (List Key × V)}, Rd H a (.dT xs) → RepTs F L H xs kvs → ∃ d kvs, [V.ref a] = [V.ref d] ∧ Rd H d (.dT kvs) ∧ ∀ p bs, H p = none → IsKeys H kvs bs → G (.ref p) (upd H p (.lst (bs.map V.ref))) := fun {a xs} rd rk =>
        ⟨a, xs, rfl, rd, fun p bs hp ik => fin_lst R q hp (keys_reps rk ik)⟩
      cases s with
      | dit f r2 => exact fin f r2
      | d r2 => cases r2 with | dit _ f r2 => exact fin f r2
end
end T

set_option maxRecDepth 100000
set_option maxHeartbeats 4000000
/-! T: builtin functions as terms; methods of lists -/
namespace T
open PySem L2
section
variable {F : Fx} {Ew : XK} {X : Cx} {C : Call} {a b c : Ex} {ea eb ec : Expr} {pos : Pos} {μ μ' : List Addr} {L L' : Addr → Prop} {H H' : Hp} {st st' : Sto} {G : VK}
/-- a rule by values tells what the function comes to -/
noncomputable def BfnOk (F : Fx) (b : Bfn) (r : List V → Hp → VK → Prop) : Prop :=
  ∀ {Ew : XK} {μ : List Addr} {L : Addr → Prop} {H : Hp} {st : Sto} {G : VK} {vs : List V} {ws : List W}, Rel F μ L H st → RepWs F μ L H vs ws → PostW F Ew μ L H st (bfnW b ws st) G → r vs H G
theorem s_bfnB {bf : Bfn} {r : List V → Hp → VK → Prop} {id : String} {x : Str} {p : Pos} {es : Exs} {ees : List Expr} (ok : BfnOk F bf r) (hc : CallR X (.builtin id) r) (hg : Gl X x) (hm : X.mg x = none) (hv : bootBuiltins x = some (.builtin id))
    (hn : x ≠ "__name__") (hd : (x == ("__debug__" : Str)) = false) (ha : PA X ees (tA F Ew (evEs C es))) (hp : ees.all plainX = true) (he : ees.isEmpty = false) : PE X (.Call (.Name x p) ees [] pos) (tE F Ew (evE C (.bfn bf es))) := by
  cases ees with
  | nil => cases he
  | cons e ees =>
    rw [List.all_cons, Bool.and_eq_true] at hp
    refine (pe_callB hc hg hm hv ha hn hd (star_plain hp.1) (noStar hp.2)).imp ?_
    rintro σ H Q ⟨μ, L, ρ, st, R, RE, h⟩
    rw [evE] at h
    exact in_A R RE h fun ws vs μ1 L1 H1 st1 e1 R1 RE1 r1 h1 => ok R1 r1 h1
theorem s_bfnT {bf : Bfn} {r : List V → Hp → VK → Prop} {id : String} {x : Str} {p : Pos} {es : Exs} {ees : List Expr} (ok : BfnOk F bf r) (hc : CallR X (.type id) r) (hg : Gl X x) (hm : X.mg x = none) (hv : bootBuiltins x = some (.type id))
    (hn : x ≠ "__name__") (hd : (x == ("__debug__" : Str)) = false) (ha : PA X ees (tA F Ew (evEs C es))) (hp : ees.all plainX = true) (he : ees.isEmpty = false) : PE X (.Call (.Name x p) ees [] pos) (tE F Ew (evE C (.bfn bf es))) := by
  cases ees with
  | nil => cases he
  | cons e ees =>
    rw [List.all_cons, Bool.and_eq_true] at hp
    refine (pe_callTy hc hg hm hv ha hn hd (star_plain hp.1) (noStar hp.2)).imp ?_
    rintro σ H Q ⟨μ, L, ρ, st, R, RE, h⟩
    rw [evE] at h
    exact in_A R RE h fun ws vs μ1 L1 H1 st1 e1 R1 RE1 r1 h1 => ok R1 r1 h1
/-- isinstance(e, T), T a builtin class -/
theorem s_isi {bf : Bfn} {T : String} {x y : Str} {p q : Pos} (hf : isiT bf = some T) (hK : X.K = F.K) (hg : Gl X x) (hm : X.mg x = none) (hv : bootBuiltins x = some (.builtin "isinstance")) (hn : x ≠ "__name__") (hd : (x == ("__debug__" : Str)) = false)
    (hg2 : Gl X y) (hm2 : X.mg y = none) (hv2 : bootBuiltins y = some (.type T)) (hn2 : y ≠ "__name__") (hd2 : (y == ("__debug__" : Str)) = false)
    (ha : PE X ea (tE F Ew (evE C a))) (hp : plainX ea = true) : PE X (.Call (.Name x p) [ea, .Name y q] [] pos) (tE F Ew (evE C (.bfn bf (.cons a .nil)))) := by
  have hy : PE X (.Name y q) (tC (.ty T)) := pe_bltn hg2 hm2 hv2 (rfl : RelV (.ty T) (.type T)) hn2 hd2
  refine (pe_callB call_isi hg hm hv (pa_cons ha (pa_cons hy pa_nil rfl) (star_plain hp)) hn hd (star_plain hp) rfl).imp ?_
  rintro σ H Q ⟨μ, L, ρ, st, R, RE, h⟩
  rw [evE, evEs, Res.bind_assoc] at h
  refine in_E R RE h fun x v μ1 L1 H1 st1 e1 R1 RE1 r1 h1 => ?_
  simp only [evEs, bind_ok] at h1
  obtain ⟨v', e, q⟩ := isi_ok R1 hf (.cons r1 .nil) h1
  cases e
  rw [hK]
  exact q

/-! ### list(range(n)), tuple(range(n)) -/
theorem rng_reps (lo : Int) : ∀ ns : List Nat, RepDs F L H (ns.map fun i => V.int (lo + (i : Nat))) (ns.map fun i => D.int (lo + (i : Nat)))
  | [] => .nil
  | n :: r => .cons (.int _) (rng_reps lo r)
theorem rng_repw (lo : Int) : ∀ ns : List Nat, RepWs F μ L H (ns.map fun i => V.int (lo + (i : Nat))) (ns.map fun i => W.p (.int (lo + (i : Nat))))
  | [] => .nil
  | n :: r => .cons (.p (.int _)) (rng_repw lo r)
theorem small_of {i : Int} (h : small62 i = true) : -(2 ^ 62) ≤ i ∧ i < 2 ^ 62 := by
  rw [small62, Bool.and_eq_true] at h
  exact ⟨of_decide_eq_true h.1, of_decide_eq_true h.2⟩
theorem s_rglL (m : Bool) {x y : Str} {p q pos2 : Pos} (hc : X.calm = true) (hx : x = ("list" : Str)) (hy : y = ("range" : Str)) (hg : Gl X "list") (hm : X.mg "list" = none) (hg2 : Gl X "range") (hm2 : X.mg "range" = none) (ha : PE X ea (tE F Ew (evE C a))) (hp : plainX ea = true) :
    PE X (.Call (.Name x p) [.Call (.Name y q) [ea] [] pos2] [] pos) (tE F Ew (evE C (.rgl m false a))) := by
  subst hx hy
  refine (pe_listRg hc hg hm (prg_1 hg2 hm2 ha (star_plain hp)) rfl).imp ?_
  rintro σ H Q ⟨μ, L, ρ, st, R, RE, h⟩
  rw [evE] at h
  refine in_E R RE h fun x v μ1 L1 H1 st1 e1 R1 RE1 r1 h1 => ?_
  cases r1 with
  | r m => exact h1.elim
  | p r =>
    cases r <;> try (exact h1.elim)
    rename_i j
    simp only at h1
    split at h1
    · rename_i z
      rw [Bool.and_eq_true] at z
      have z2 : j ≤ 16777216 := of_decide_eq_true z.2
      obtain ⟨z3, z4⟩ := small_of z.1
      refine ⟨j, rfl, ⟨by omega, by omega, z3, z4, by omega⟩, fun p hp => ?_⟩
      have hz : rgV 0 j = (List.range j.toNat).map fun i => V.int (0 + (i : Nat)) := by unfold rgV; rw [Int.sub_zero]
      rw [hz]
      cases m with
      | true =>
        simp only [Bool.false_eq_true, if_false, if_true] at h1
        exact fin_lstM R1 h1 hp (rng_repw 0 _)
      | false =>
        simp only [Bool.false_eq_true, if_false] at h1
        exact fin_lst R1 h1 hp (rng_reps 0 _)
    · exact h1.elim
theorem s_rglT (m : Bool) {x y : Str} {p q pos2 : Pos} (hc : X.calm = true) (hx : x = ("tuple" : Str)) (hy : y = ("range" : Str)) (hg : Gl X "tuple") (hm : X.mg "tuple" = none) (hg2 : Gl X "range") (hm2 : X.mg "range" = none) (ha : PE X ea (tE F Ew (evE C a))) (hp : plainX ea = true) :
    PE X (.Call (.Name x p) [.Call (.Name y q) [ea] [] pos2] [] pos) (tE F Ew (evE C (.rgl m true a))) := by
  subst hx hy
  refine (pe_tupRg hc hg hm (prg_1 hg2 hm2 ha (star_plain hp)) rfl).imp ?_
  rintro σ H Q ⟨μ, L, ρ, st, R, RE, h⟩
  rw [evE] at h
  refine in_E R RE h fun x v μ1 L1 H1 st1 e1 R1 RE1 r1 h1 => ?_
  cases r1 with
  | r m => exact h1.elim
  | p r =>
    cases r <;> try (exact h1.elim)
    rename_i j
    simp only at h1
    split at h1
    · rename_i z
      rw [Bool.and_eq_true] at z
      have z2 : j ≤ 16777216 := of_decide_eq_true z.2
      obtain ⟨z3, z4⟩ := small_of z.1
      refine ⟨j, rfl, ⟨by omega, by omega, z3, z4, by omega⟩, fun p hp => ?_⟩
      have hz : rgV 0 j = (List.range j.toNat).map fun i => V.int (0 + (i : Nat)) := by unfold rgV; rw [Int.sub_zero]
      rw [hz]
      simp only [if_true] at h1
      exact fin_tup R1 h1 hp (rng_reps 0 _)
    · exact h1.elim

/-! ### methods of lists -/
noncomputable def BmtOk (F : Fx) (b : Bmt) (r : V → List V → Hp → VK → Prop) : Prop :=
  ∀ {Ew : XK} {μ : List Addr} {L : Addr → Prop} {H : Hp} {st : Sto} {G : VK} {v : V} {w : W} {vs : List V} {ws : List W}, Rel F μ L H st → RepW F μ L H v w → RepWs F μ L H vs ws → PostW F Ew μ L H st (bmtW b w ws st) G → r v vs H G
theorem lstR_ty (R : Rel F μ L H st) {v : V} {w : W} (r : RepW F μ L H v w) (h : isLstR st w = true) : tyV F.K "list" v H := by
  cases w with
  | p d => cases h
  | r n =>
    rw [isLstR] at h
    cases q : st[n]? with
    | none => rw [q] at h; cases h
    | some o =>
      rw [q] at h
      cases o with
      | lst ws =>
        obtain ⟨a, rfl, _, ⟨vs, g1, g2⟩, _⟩ := R.thg r q rfl
        exact .inl ⟨rfl, vs, SqL.of g1⟩
      | _ => cases h
theorem bmt_in (R : Rel F μ L H st) {b : Bmt} {v : V} {w : W} {ws : List W} (r : RepW F μ L H v w) (h : PostW F Ew μ L H st (bmtW b w ws st) G) : ∃ n a xs ys, w = .r n ∧ v = .ref a ∧ st[n]? = some (.lst xs) ∧ μ[n]? = some a ∧ H a = some (.lst ys) ∧ RepWs F μ L H ys xs ∧ PostW F Ew μ L H st (bmtL b n xs ws st) G := by
  cases w with
  | p d => exact h.elim
  | r n =>
    rw [bmtW] at h
    cases q : st[n]? with
    | none => simp only [q] at h; exact h.elim
    | some o =>
      cases o with
      | lst xs =>
        simp only [q] at h
        obtain ⟨a, rfl, ha, ⟨vs, g1, g2⟩, _⟩ := R.thg r q rfl
        exact ⟨n, a, xs, vs, rfl, rfl, q, ha, g1, g2, h⟩
      | _ => simp only [q] at h; exact h.elim
/-- a list of the store set anew -/
theorem set_lst (R : Rel F μ L H st) {n : Nat} {a : Addr} {xs ys : List W} {us vs : List V} (q : st[n]? = some (.lst xs)) (ha : μ[n]? = some a) (r : RepWs F μ L H us ys) :
    Ext μ L H st μ L (upd H a (.lst us)) (st.set n (.lst ys)) ∧ Rel F μ L (upd H a (.lst us)) (st.set n (.lst ys)) := by
  have e := Ext.set (u := .lst us) (o' := .lst ys) R q rfl ha
  exact ⟨e, Rel.set R q rfl ha ⟨us, upd_same, e.wvs R r⟩⟩
theorem repws_app : ∀ {vs us : List V} {xs ys : List W}, RepWs F μ L H vs xs → RepWs F μ L H us ys → RepWs F μ L H (vs ++ us) (xs ++ ys)
  | _, _, _, _, .nil, s => s
  | _, _, _, _, .cons r t, s => .cons r (repws_app t s)
theorem repws_take : ∀ {vs : List V} {ds : List W} (n : Nat), RepWs F μ L H vs ds → RepWs F μ L H (vs.take n) (ds.take n)
  | _, _, 0, _ => by simp; exact .nil
  | _, _, _ + 1, .nil => by simp; exact .nil
  | _, _, n + 1, .cons r t => by simp only [List.take_succ_cons]; exact .cons r (repws_take n t)
theorem repws_drop : ∀ {vs : List V} {ds : List W} (n : Nat), RepWs F μ L H vs ds → RepWs F μ L H (vs.drop n) (ds.drop n)
  | _, _, 0, r => r
  | _, _, _ + 1, .nil => by simp; exact .nil
  | _, _, n + 1, .cons _ t => by simp only [List.drop_succ_cons]; exact repws_drop n t
theorem repws_erase : ∀ {vs : List V} {ds : List W} (n : Nat), RepWs F μ L H vs ds → RepWs F μ L H (vs.eraseIdx n) (ds.eraseIdx n)
  | _, _, _, .nil => by simp; exact .nil
  | _, _, 0, .cons r t => by simp only [List.eraseIdx_cons_zero]; exact t
  | _, _, n + 1, .cons r t => by simp only [List.eraseIdx_cons_succ]; exact .cons r (repws_erase n t)
theorem repws_last : ∀ {vs : List V} {ds : List W}, RepWs F μ L H vs ds → RepWs F μ L H vs.dropLast ds.dropLast
  | _, _, .nil => .nil
  | _, _, .cons r .nil => .nil
  | _, _, .cons r (.cons r' t) => by simp only [List.dropLast_cons₂]; exact .cons r (repws_last (.cons r' t))
theorem append_ok : BmtOk F .append rAppend := by
  intro Ew μ L H st G v w vs ws R r rs h
  obtain ⟨n, a, xs, ys, rfl, rfl, q, ha, g1, g2, h⟩ := bmt_in R r h
  cases rs with
  | nil => exact h.elim
  | cons r1 rs =>
   cases rs with
   | cons _ _ => exact h.elim
   | nil =>
    simp only [bmtL] at h
    split at h
    · rename_i z
      obtain ⟨e, R'⟩ := set_lst (vs := ys) R q ha (repws_app g2 (.cons r1 .nil))
      exact ⟨a, ys, _, rfl, rfl, g1, by rw [repws_len g2]; exact z, h _ _ _ e R' _ (.p .non)⟩
    · exact h.elim
theorem lstW_rep (R : Rel F μ L H st) {v : V} {w : W} {xs : List W} (r : RepW F μ L H v w) (h : lstW st w = some xs) : ∃ a ys, v = .ref a ∧ H a = some (.lst ys) ∧ RepWs F μ L H ys xs := by
  cases w with
  | p d =>
    cases d <;> try (cases h; done)
    cases h
    cases r with
    | p r => cases r with
      | lst hL f r => exact ⟨_, _, rfl, f, reps_map r⟩
  | r n =>
    rw [lstW] at h
    cases q : st[n]? with
    | none => rw [q] at h; cases h
    | some o =>
      rw [q] at h
      cases o with
      | lst ws =>
        cases h
        obtain ⟨a, rfl, _, ⟨vs, g1, g2⟩, _⟩ := R.thg r q rfl
        exact ⟨a, vs, rfl, g1, g2⟩
      | _ => cases h
theorem extend_ok : BmtOk F .extend rExtX := by
  intro Ew μ L H st G v w vs ws R r rs h
  obtain ⟨n, a, xs, ys, rfl, rfl, q, ha, g1, g2, h⟩ := bmt_in R r h
  cases rs with
  | nil => exact h.elim
  | cons r1 rs =>
   cases rs with
   | cons _ _ => exact h.elim
   | nil =>
    rename_i y w h
    have lst : ∀ zs, lstW st w = some zs → PostW F Ew μ L H st (if lenOk (xs.length + zs.length) then .ok (.p .non) (st.set n (.lst (xs ++ zs))) else .err) G → rExtX (.ref a) [y] H G := fun zs q1 h => by
      split at h
      · rename_i z
        obtain ⟨b, us, rfl, k1, k2⟩ := lstW_rep R r1 q1
        obtain ⟨e, R'⟩ := set_lst (vs := ys) R q ha (repws_app g2 k2)
        exact .inl ⟨a, b, ys, us, rfl, rfl, g1, k1, by rw [repws_len g2, repws_len k2]; exact lenOk_le z, h _ _ _ e R' _ (.p .non)⟩
      · exact h.elim
    have gen : ∀ w', w' = w → PostW F Ew μ L H st (match lstW st w with
        | some ys => if lenOk (xs.length + ys.length) then .ok (.p .non) (st.set n (.lst (xs ++ ys))) else .err
        | none => .err) G → rExtX (.ref a) [y] H G := fun w' _ h => by
      cases q1 : lstW st w with
      | none => simp only [q1] at h; exact h.elim
      | some zs => simp only [q1] at h; exact lst zs q1 h
    cases w with
    | r m => exact gen _ rfl h
    | p d =>
      cases d with
      | tup ds =>
        have h : PostW F Ew μ L H st (if lenOk (xs.length + ds.length) then .ok (.p .non) (st.set n (.lst (xs ++ ds.map W.p))) else .err) G := h
        split at h
        · rename_i z
          obtain ⟨b, us, rfl, k1, k2⟩ : ∃ b us, y = V.ref b ∧ H b = some (.tup us) ∧ RepWs F μ L H us (ds.map W.p) := by
            cases r1 with
            | p r => cases r with
              | tup hL f r => exact ⟨_, _, rfl, f, reps_map r⟩
          obtain ⟨e, R'⟩ := set_lst (vs := ys) R q ha (repws_app g2 k2)
          exact .inr ⟨a, b, ys, us, rfl, rfl, g1, k1, by rw [repws_len g2, repws_len k2, List.length_map]; exact lenOk_le z, h _ _ _ e R' _ (.p .non)⟩
        · exact h.elim
      | lst ds => exact gen _ rfl h
      | _ => exact h.elim
theorem popAt_ok : BmtOk F .popAt rPopAt := by
  intro Ew μ L H st G v w vs ws R r rs h
  obtain ⟨n, a, xs, ys, rfl, rfl, q, ha, g1, g2, h⟩ := bmt_in R r h
  cases rs with
  | nil => exact h.elim
  | cons r0 rs =>
   cases rs with
   | cons _ _ => first | exact h.elim | (simp only [bmtL] at h; exact h.elim)
   | nil =>
   cases r0 with
   | r _ => exact h.elim
   | p r1 =>
    rename_i d h
    cases d <;> try (exact h.elim)
    cases r1
    rename_i i h0
    clear h0
    simp only [bmtL] at h
    split at h
    · rename_i z
      obtain ⟨z1, z2⟩ := small_of z
      cases q1 : ixN xs.length i with
      | none => simp only [q1] at h; exact h.elim
      | some k =>
        simp only [q1] at h
        cases q2 : xs[k]? with
        | none => simp only [q2] at h; exact h.elim
        | some w =>
          simp only [q2] at h
          obtain ⟨v, e1, e2⟩ := get_ws g2 q2
          obtain ⟨e, R'⟩ := set_lst (vs := ys) R q ha (repws_erase k g2)
          exact ⟨a, ys, i, k, v, rfl, rfl, g1, by omega, by omega, by rw [repws_len g2]; exact (ixN_seq q1).1, e1, h _ _ _ e R' _ (e.wv R e2)⟩
    · exact h.elim
noncomputable def rInsert : V → List V → Hp → VK → Prop := fun x vs H Q => ∃ (l : Addr) (xs : List V) (i : Int) (y : V), x = .ref l ∧ vs = [.int i, y] ∧ H l = some (.lst xs) ∧ xs.length < sizeLine ∧ 0 ≤ i ∧ i < 2 ^ 63 ∧
    Q .non (upd H l (.lst (xs.take i.toNat ++ [y] ++ xs.drop i.toNat)))
theorem insert_ok : BmtOk F .insert rInsert := by
  intro Ew μ L H st G v w vs ws R r rs h
  obtain ⟨n, a, xs, ys, rfl, rfl, q, ha, g1, g2, h⟩ := bmt_in R r h
  cases rs with
  | nil => exact h.elim
  | cons r0 rs =>
  cases rs with
  | nil =>
    cases r0 with
    | r _ => exact h.elim
    | p r1 =>
      rename_i d h
      cases d <;> exact h.elim
  | cons r2 rs =>
  cases rs with
  | cons _ _ =>
    cases r0 with
    | r _ => exact h.elim
    | p r1 =>
      rename_i d h
      cases d <;> exact h.elim
  | nil =>
  cases r0 with
  | r _ => exact h.elim
  | p r1 =>
    rename_i d h
    cases d <;> try (exact h.elim)
    cases r1
    rename_i i h0
    clear h0
    simp only [bmtL] at h
    split at h
    · rename_i z
      simp only [Bool.and_eq_true, decide_eq_true_eq] at z
      obtain ⟨z1, z2⟩ := small_of z.2
      obtain ⟨e, R'⟩ := set_lst (vs := ys) R q ha (repws_app (repws_app (repws_take i.toNat g2) (.cons r2 .nil)) (repws_drop i.toNat g2))
      exact ⟨a, ys, i, _, rfl, rfl, g1, by rw [repws_len g2]; exact z.1.1.1, z.1.1.2, by omega, h _ _ _ e R' _ (.p .non)⟩
    · exact h.elim
theorem pop0_ok : BmtOk F .pop0 rPop := by
  intro Ew μ L H st G v w vs ws R r rs h
  obtain ⟨n, a, xs, ys, rfl, rfl, q, ha, g1, g2, h⟩ := bmt_in R r h
  match ws, rs, h with
  | _ :: _, _, h => exact h.elim
  | [], .nil, h =>
    simp only [bmtL] at h
    cases q2 : xs[xs.length - 1]? with
    | none => simp only [q2] at h; exact h.elim
    | some w =>
      simp only [q2] at h
      obtain ⟨v, e1, e2⟩ := get_ws g2 q2
      obtain ⟨e, R'⟩ := set_lst (vs := ys) R q ha (repws_last g2)
      exact ⟨a, ys, v, rfl, rfl, g1, by rw [repws_len g2]; exact e1, h _ _ _ e R' _ (e.wv R e2)⟩
theorem clear_ok : BmtOk F .clear rClear := by
  intro Ew μ L H st G v w vs ws R r rs h
  obtain ⟨n, a, xs, ys, rfl, rfl, q, ha, g1, g2, h⟩ := bmt_in R r h
  match ws, rs, h with
  | _ :: _, _, h => exact h.elim
  | [], .nil, h =>
    simp only [bmtL] at h
    obtain ⟨e, R'⟩ := set_lst (vs := ys) R q ha (.nil : RepWs F μ L H [] [])
    exact ⟨a, ys, rfl, rfl, g1, h _ _ _ e R' _ (.p .non)⟩
theorem s_bmt {bm : Bmt} {r : V → List V → Hp → VK → Prop} {id : String} {name : Str} {apos : Pos} {o : Ex} {eo : Expr} {es : Exs} {ees : List Expr} (ok : BmtOk F bm r) (hK : X.K = F.K) (pa : PlainAttrs "list") (slot : Slot "list" name id) (hty : typeOf (.builtin id) = pure (.type "method_descriptor")) (hm : MtR X id r)
    (ho : PE X eo (tE F Ew (evE C o))) (ha : PA X ees (tA F Ew (evEs C es))) (hb : plainB eo = true) (hp : ees.all plainX = true) (he : ees.isEmpty = false) (h3 : ees.length < 29) (h4 : (apos.endLine == pos.line) = true) :
    PE X (.Call (.Attribute eo name apos) ees [] pos) (tE F Ew (evE C (.bmt bm o es))) := by
  cases ees with
  | nil => cases he
  | cons e ees =>
    have hp' := hp
    rw [List.all_cons, Bool.and_eq_true] at hp'
    refine (pe_bm pa slot hty hm ho ha (base_plain hb _ _) ?_ h4 (star_plain hp'.1) (noStar hp'.2)).imp ?_
    · rw [allStar hp]
      show (true && true && decide ((e :: ees).length + 0 + 0 < 30)) = true
      simp only [Bool.true_and, decide_eq_true_eq]
      omega
    rintro σ H Q ⟨μ, L, ρ, st, R, RE, h⟩
    rw [evE] at h
    refine in_E R RE h fun x v μ1 L1 H1 st1 e1 R1 RE1 r1 h1 => ?_
    split at h1
    · rename_i z
      refine ⟨by rw [hK]; exact lstR_ty R1 r1 z, in_A R1 RE1 h1 fun ws vs μ2 L2 H2 st2 e2 R2 RE2 r2 h2 => ok R2 (e2.wv R1 r1) r2 h2⟩
    · exact h1.elim
theorem s_bmt0 {bm : Bmt} {r : V → List V → Hp → VK → Prop} {id : String} {name : Str} {apos : Pos} {o : Ex} {eo : Expr} (ok : BmtOk F bm r) (hK : X.K = F.K) (pa : PlainAttrs "list") (slot : Slot "list" name id) (hty : typeOf (.builtin id) = pure (.type "method_descriptor")) (hm : MtR X id r)
    (ho : PE X eo (tE F Ew (evE C o))) (hb : plainB eo = true) (h4 : (apos.endLine == pos.line) = true) :
    PE X (.Call (.Attribute eo name apos) [] [] pos) (tE F Ew (evE C (.bmt bm o .nil))) := by
  refine (pe_bm0 pa slot hty hm ho (base_plain hb _ _) h4).imp ?_
  rintro σ H Q ⟨μ, L, ρ, st, R, RE, h⟩
  rw [evE] at h
  refine in_E R RE h fun x v μ1 L1 H1 st1 e1 R1 RE1 r1 h1 => ?_
  split at h1
  · rename_i z
    rw [evEs] at h1
    exact ⟨by rw [hK]; exact lstR_ty R1 r1 z, ok R1 r1 .nil h1⟩
  · exact h1.elim
end
end T

set_option maxRecDepth 100000
set_option maxHeartbeats 4000000
/-! T: what is walked; targets; comprehensions -/
namespace T
open PySem L2
/-- J walks the values ws, from this state on -/
noncomputable def Walks (F : Fx) (μ : List Addr) (L : Addr → Prop) (H : Hp) (st : Sto) (ws : List W) (J : L2.It) : Prop :=
  ∀ (i : Nat) μ' L' H' st', Ext μ L H st μ' L' H' st' → Rel F μ' L' H' st' →
    (∀ w, ws[i]? = some w → J.go i H' ∧ ∀ x H'', J.yld i H' x H'' → ∃ L'', Ext μ' L' H' st' μ' L'' H'' st' ∧ Rel F μ' L'' H'' st' ∧ RepW F μ' L'' H'' x w) ∧
    (ws.length ≤ i → J.stop i H')
noncomputable def ItOk (F : Fx) (μ : List Addr) (L : Addr → Prop) (H : Hp) (st : Sto) : Itv → L2.It → Prop
  | .fix ws, J => Walks F μ L H st ws J
  | .dyn n, J => ∃ a, μ[n]? = some a ∧ J = Itl F.K a
noncomputable def tI (F : Fx) (Ew : XK) (m : Nv → Sto → Res Itv) : TI := fun σ H R => ∃ μ L ρ st, Rel F μ L H st ∧ RelE F μ L H σ ρ ∧ Post F Ew μ L H st (m ρ st) fun v μ' L' H' st' => ∀ J, ItOk F μ' L' H' st' v J → R J H'
section
variable {F : Fx} {Ew : XK} {X : Cx} {C : Call} {a b c : Ex} {ea eb ec tg : Expr} {pos : Pos} {μ μ' : List Addr} {L L' : Addr → Prop} {H H' : Hp} {st st' : Sto} {G : VK}
theorem _root_.L2.PI.or {X : Cx} {tg e : Expr} {t t' : TI} (h : PI X tg e t) (h' : PI X tg e t') : PI X tg e (fun σ H R => t σ H R ∨ t' σ H R) :=
  ⟨fun pins s σ H R I q => q.elim (h.run pins s σ H R I) (h'.run pins s σ H R I)⟩
theorem SqL.inj {K : PySem.W.Frag} {H : Hp} {a : Addr} {xs : List V} (h : H a = some (.lst xs)) (hk : K.lookup a = none) {ys : List V} (g : SqL K H a ys) : ys = xs := by
  rcases g with (g | ⟨o, g⟩) | ⟨o, its, n, g, _⟩
  · rw [h] at g; cases g; rfl
  · rw [h] at g; cases g
  · rw [hk] at g; cases g
theorem walks_ints {lo c : Int} {n : Nat} {J : L2.It} (hg : ∀ i H, i < n → J.go i H) (hy : ∀ i H x H', J.yld i H x H' → H' = H ∧ x = .int (lo + (i : Nat) * c)) (hs : ∀ i H, n ≤ i → J.stop i H) :
    Walks F μ L H st ((List.range n).map fun i => W.p (.int (lo + (i : Nat) * c))) J := by
  intro i μ' L' H' st' e R
  refine ⟨fun w hw => ?_, fun hi => hs i H' (by simpa using hi)⟩
  rw [List.getElem?_map] at hw
  cases q : (List.range n)[i]? with
  | none => rw [q] at hw; cases hw
  | some k =>
    rw [q] at hw
    obtain ⟨hlt, e1⟩ := List.getElem?_eq_some_iff.mp q
    have hi : i < n := by simpa using hlt
    have e2 : k = i := by simpa using e1.symm
    subst e2
    cases hw
    exact ⟨hg k H' hi, fun x H'' y => by obtain ⟨rfl, rfl⟩ := hy k H' x H'' y; exact ⟨L', .refl, R, .p (.int _)⟩⟩
theorem map_ws {vs : List V} {ds : List D} {i : Nat} {w : W} (r : RepDs F L H vs ds) (hw : (ds.map W.p)[i]? = some w) : ∃ v d, vs[i]? = some v ∧ w = .p d ∧ RepD F L H v d := by
  rw [List.getElem?_map] at hw
  cases q : ds[i]? with
  | none => rw [q] at hw; cases hw
  | some d =>
    rw [q] at hw
    cases hw
    obtain ⟨v, e1, e2⟩ := r.get q
    exact ⟨v, d, e1, rfl, e2⟩
theorem walks_list {a : Addr} {vs : List V} {ds : List D} (R0 : Rel F μ L H st) (h : ∀ H' , (∀ o, L a → H a = some o → H' a = some o) → SqL F.K H' a vs) (r : RepDs F L H vs ds) : Walks F μ L H st (ds.map W.p) (Itl F.K a) := by
  intro i μ' L' H' st' e R
  have k := e.kp R0
  have sq : SqL F.K H' a vs := h H' fun o hL ho => k.2 a o hL ho
  refine ⟨fun w hw => ?_, fun hi => ⟨vs, sq, by rw [r.length]; simpa using hi⟩⟩
  obtain ⟨v, d, e1, rfl, e2⟩ := map_ws r hw
  exact ⟨⟨vs, v, sq, e1⟩, fun x H'' ⟨eH, y⟩ => by
    subst eH
    have := y vs sq
    rw [e1] at this; cases this
    exact ⟨L', .refl, R, .p (e2.kp k)⟩⟩
theorem walks_tup {a : Addr} {vs : List V} {ds : List D} (R0 : Rel F μ L H st) (h : ∀ H' , (∀ xs, H a = some (.tup xs) → H' a = some (.tup xs)) → SqT F.K H' a vs) (r : RepDs F L H vs ds) : Walks F μ L H st (ds.map W.p) (Itt F.K a) := by
  intro i μ' L' H' st' e R
  have k := e.kp R0
  have sq : SqT F.K H' a vs := h H' fun xs ho => k.1.2 a xs ho
  refine ⟨fun w hw => ?_, fun hi => ⟨vs, sq, by rw [r.length]; simpa using hi⟩⟩
  obtain ⟨v, d, e1, rfl, e2⟩ := map_ws r hw
  exact ⟨⟨vs, v, sq, e1⟩, fun x H'' ⟨eH, y⟩ => by
    subst eH
    have := y vs sq
    rw [e1] at this; cases this
    exact ⟨L', .refl, R, .p (e2.kp k)⟩⟩
open PyProof.Rows in
/-- a list or a tuple, whichever it is -/
theorem pi_seq {tl : TE} (hl : PE X ea tl) : PI X tg ea (fun σ H R => tl σ H fun x H1 => (∃ a, x = .ref a ∧ (∃ xs, SqL X.K H1 a xs) ∧ R (Itl X.K a) H1) ∨ ∃ a, x = .ref a ∧ (∃ xs, SqT X.K H1 a xs) ∧ R (Itt X.K a) H1) := by
  refine ⟨fun pins s σ H R I h => ?_⟩
  refine thn (hl.run pins s σ H _ I h) fun v s1 ⟨x, H1, I1, r1, q1⟩ => ?_
  rcases q1 with ⟨a, e, ⟨xs, hq⟩, q⟩ | ⟨a, e, ⟨xs, hq⟩, q⟩
  · subst e
    cases r1
    obtain ⟨its, rv, p, hz⟩ := I1.list hq
    refine wpAny_pyIter_list p.isList ?_
    refine ⟨s1.heap.objs.size, [s1.heap.objs.size], _, _, H1, rfl, I1.kept (t' := s1.toks) fun b o e => Heap.get?_push_of_some _ e, turn_list a _, ⟨_, Heap.get?_push_size _ rfl, rfl, rfl⟩, fun b hb => ?_, q⟩
    have e : b = s1.heap.objs.size := by simpa using hb
    subst e
    exact I1.fpOk (Nat.le_refl _) (I1.hok.fresh (Nat.le_refl _))
  · subst e
    cases r1
    obtain ⟨its, rv, p, hz⟩ := I1.tuple hq
    refine wpAny_pyIter_tuple (show s1.heap.IsTuple a its.toArray from p) ?_
    refine ⟨s1.heap.objs.size, [s1.heap.objs.size], _, _, H1, rfl, I1.kept (t' := s1.toks) fun b o e => Heap.get?_push_of_some _ e, turn_tuple a _, ⟨_, Heap.get?_push_size _ rfl, rfl, rfl⟩, fun b hb => ?_, q⟩
    have e : b = s1.heap.objs.size := by simpa using hb
    subst e
    exact I1.fpOk (Nat.le_refl _) (I1.hok.fresh (Nat.le_refl _))
theorem i_ex (hK : X.K = F.K) (ha : PE X ea (tE F Ew (evE C a))) : PI X tg ea (tI F Ew (evI C (.ex a))) := by
  refine (pi_seq ha).imp ?_
  rintro σ H Q ⟨μ, L, ρ, st, R, RE, h⟩
  rw [evI] at h
  refine in_E R RE h fun x v μ1 L1 H1 st1 e1 R1 RE1 r1 h1 => ?_
  rw [hK]
  cases x with
  | r n =>
    simp only [iterW] at h1
    cases q : st1[n]? with
    | none => simp only [q] at h1; exact h1.elim
    | some o =>
      cases o with
      | lst ws =>
        simp only [q] at h1
        obtain ⟨a, rfl, ha, ⟨vs, g1, g2⟩, _⟩ := R1.thg r1 q rfl
        exact .inl ⟨a, rfl, ⟨vs, SqL.of g1⟩, Post.here R1 h1 _ ⟨a, ha, rfl⟩⟩
      | _ => simp only [q] at h1; exact h1.elim
  | p d =>
    simp only [iterW] at h1
    cases r1 with
    | p r =>
      cases r <;> try (exact h1.elim)
      · rename_i hL f rr
        exact .inr ⟨_, rfl, ⟨_, SqT.of f⟩, Post.here R1 h1 _ (walks_tup R1 (fun H' k => SqT.of (k _ f)) rr)⟩
      · rename_i f rr
        exact .inr ⟨_, rfl, ⟨_, f.sq⟩, Post.here R1 h1 _ (walks_tup R1 (fun H' k => f.sq) rr)⟩
      · rename_i hL f rr
        exact .inl ⟨_, rfl, ⟨_, SqL.of f⟩, Post.here R1 h1 _ (walks_list R1 (fun H' k => SqL.of (k _ hL f)) rr)⟩
      · rename_i ns hL f rr
        have tints : ∀ ns : List Int, RepDs F L1 H1 (ns.map V.int) (ns.map D.int) := fun ns => by
          induction ns with
          | nil => exact .nil
          | cons n r ih => exact .cons (.int n) ih
        rcases rr with ⟨hL, o, ho⟩ | rr
        · exact .inl ⟨_, rfl, ⟨_, f⟩, Post.here R1 h1 _ (walks_list R1 (fun H' k => .inl (.inr ⟨o, k _ hL ho⟩)) (tints ns))⟩
        · exact .inl ⟨_, rfl, ⟨_, f⟩, Post.here R1 h1 _ (walks_list R1 (fun H' k => rr H') (tints ns))⟩
theorem rng_eq (lo : Int) (n : Nat) : rngL lo n = (List.range n).map fun i => W.p (.int (lo + (i : Nat) * 1)) := by
  unfold rngL
  congr 1
  funext i
  rw [Int.mul_one]
theorem i_rng1 {x : Str} {p : Pos} (hx : x = ("range" : Str)) (hg : Gl X "range") (hm : X.mg "range" = none) (ha : PE X ea (tE F Ew (evE C a))) (hp : plainX ea = true) : PI X tg (.Call (.Name x p) [ea] [] pos) (tI F Ew (evI C (.rng1 a))) := by
  subst hx
  refine (pi_range1 hg hm (pa_cons ha pa_nil (star_plain hp)) (star_plain hp)).imp ?_
  rintro σ H Q ⟨μ, L, ρ, st, R, RE, h⟩
  rw [evI] at h
  refine in_E R RE h fun x v μ1 L1 H1 st1 e1 R1 RE1 r1 h1 => ?_
  cases r1 with
  | r m => exact h1.elim
  | p r =>
    cases r <;> try (exact h1.elim)
    rename_i j
    simp only at h1
    split at h1
    · rename_i z
      obtain ⟨z1, z2⟩ := small_of z
      refine ⟨j, rfl, z1, z2, Post.here R1 h1 _ ?_⟩
      rw [rng_eq]
      exact walks_ints (fun i H hi => hi) (fun i H x H' y => ⟨y.1, by rw [y.2, Int.mul_one]⟩) (fun i H hi => hi)
    · exact h1.elim
theorem i_rng2 {x : Str} {p : Pos} (hx : x = ("range" : Str)) (hg : Gl X "range") (hm : X.mg "range" = none) (ha : PE X ea (tE F Ew (evE C a))) (hb : PE X eb (tE F Ew (evE C b))) (hp : plainX ea = true) (hq : plainX eb = true) : PI X tg (.Call (.Name x p) [ea, eb] [] pos) (tI F Ew (evI C (.rng2 a b))) := by
  subst hx
  refine (pi_range2 hg hm (pa_cons ha (pa_cons hb pa_nil (star_plain hq)) (star_plain hp)) (by rw [star_plain hp, star_plain hq]; rfl) (star_plain hq)).imp ?_
  rintro σ H Q ⟨μ, L, ρ, st, R, RE, h⟩
  rw [evI] at h
  refine in_E R RE h fun x v μ1 L1 H1 st1 e1 R1 RE1 r1 h1 => ?_
  refine in_E R1 RE1 h1 fun y u μ2 L2 H2 st2 e2 R2 RE2 r2 h2 => ?_
  cases r1 with
  | r m => cases r2 <;> exact h2.elim
  | p r =>
    cases r2 with
    | r m => cases r <;> exact h2.elim
    | p r' =>
      cases r <;> try (exact h2.elim)
      cases r' <;> try (exact h2.elim)
      rename_i i j
      simp only at h2
      split at h2
      · rename_i z
        rw [Bool.and_eq_true] at z
        obtain ⟨z1, z2⟩ := small_of z.1
        obtain ⟨z3, z4⟩ := small_of z.2
        refine ⟨i, j, rfl, ⟨z1, z2, z3, z4⟩, Post.here R2 h2 _ ?_⟩
        rw [rng_eq]
        exact walks_ints (fun i H hi => hi) (fun i H x H' y => ⟨y.1, by rw [y.2, Int.mul_one]⟩) (fun i H hi => hi)
      · exact h2.elim
theorem size7 (i j : Int) : Builtin.Range.rangeSize i j 7 = (((j - i + 6) / 7).toNat : Nat) := by
  unfold Builtin.Range.rangeSize
  simp only [show ((7 : Int) > 0) by decide, if_true]
  split <;> omega
theorem rgc7 {i j : Int} (ha : -(2 ^ 62) ≤ i) (ha' : i < 2 ^ 62) (hb : -(2 ^ 62) ≤ j) (hb' : j < 2 ^ 62) : RgC i j 7 ((j - i + 6) / 7).toNat := by
  refine ⟨by decide, by decide, ?_, size7 i j⟩
  unfold Builtin.Range.small
  rw [size7]
  simp only [Builtin.Range.rangeFitsLong, Bool.and_eq_true, Bool.or_eq_true, decide_eq_true_eq, beq_iff_eq, show ((7 : Int) > 0) by decide, if_true]
  omega
theorem i_rng3 {x : Str} {p : Pos} (hx : x = ("range" : Str)) (hg : Gl X "range") (hm : X.mg "range" = none) (ha : PE X ea (tE F Ew (evE C a))) (hb : PE X eb (tE F Ew (evE C b))) (hc : PE X ec (tE F Ew (evE C c))) (hp : plainX ea = true) (hq : plainX eb = true) (hr : plainX ec = true) :
    PI X tg (.Call (.Name x p) [ea, eb, ec] [] pos) (tI F Ew (evI C (.rng3 a b c))) := by
  subst hx
  refine (pi_range3 hg hm (pa_cons ha (pa_cons hb (pa_cons hc pa_nil (star_plain hr)) (star_plain hq)) (star_plain hp)) (star_plain hp) (noStar (by simp [hq, hr]))).imp ?_
  rintro σ H Q ⟨μ, L, ρ, st, R, RE, h⟩
  rw [evI] at h
  refine in_E R RE h fun x v μ1 L1 H1 st1 e1 R1 RE1 r1 h1 => ?_
  refine in_E R1 RE1 h1 fun y u μ2 L2 H2 st2 e2 R2 RE2 r2 h2 => ?_
  refine in_E R2 RE2 h2 fun z t μ3 L3 H3 st3 e3 R3 RE3 r3 h3 => ?_
  cases r1 with
  | r m => cases r2 <;> cases r3 <;> exact h3.elim
  | p r =>
    cases r2 with
    | r m => cases r <;> cases r3 <;> exact h3.elim
    | p r' =>
      cases r3 with
      | r m => cases r <;> cases r' <;> exact h3.elim
      | p r'' =>
        cases r <;> try (exact h3.elim)
        cases r' <;> try (exact h3.elim)
        cases r'' <;> try (exact h3.elim)
        rename_i i j k
        simp only at h3
        split at h3
        · rename_i z
          simp only [Bool.and_eq_true, decide_eq_true_eq] at z
          obtain ⟨⟨z1, z2⟩, rfl⟩ := z
          obtain ⟨y1, y2⟩ := small_of z1
          obtain ⟨y3, y4⟩ := small_of z2
          refine ⟨i, j, -1, (i - j).toNat, rfl, RgC.neg y1 y2 y3 y4, Post.here R3 h3 _ ?_⟩
          have hz : ((List.range (i - j).toNat).map fun k => W.p (.int (i - (k : Nat)))) = (List.range (i - j).toNat).map fun k => W.p (.int (i + (k : Nat) * (-1))) := by
            congr 1
            funext k
            congr 2
            omega
          rw [hz]
          exact walks_ints (fun i H hi => hi) (fun i H x H' y => y) (fun i H hi => hi)
        · split at h3
          · rename_i z
            simp only [Bool.and_eq_true, decide_eq_true_eq] at z
            obtain ⟨⟨z1, z2⟩, rfl⟩ := z
            obtain ⟨y1, y2⟩ := small_of z1
            obtain ⟨y3, y4⟩ := small_of z2
            refine ⟨i, j, 7, ((j - i + 6) / 7).toNat, rfl, rgc7 y1 y2 y3 y4, Post.here R3 h3 _ ?_⟩
            exact walks_ints (fun i H hi => hi) (fun i H x H' y => y) (fun i H hi => hi)
          · exact h3.elim
theorem enuL_get : ∀ (k : Nat) (ds : List D) (i : Nat), (enuL k ds)[i]? = (ds[i]?).map fun d => .tup [.int ((k + i : Nat) : Int), d]
  | _, [], i => by simp [enuL]
  | k, d :: r, 0 => by simp [enuL]
  | k, d :: r, i + 1 => by
    rw [enuL, List.getElem?_cons_succ, List.getElem?_cons_succ, enuL_get (k + 1) r i]
    have : k + 1 + i = k + (i + 1) := by omega
    rw [this]
theorem enuL_len : ∀ (k : Nat) (ds : List D), (enuL k ds).length = ds.length
  | _, [] => rfl
  | k, d :: r => congrArg (· + 1) (enuL_len (k + 1) r)
theorem i_enu {x : Str} {p tpos : Pos} {elts : List Expr} {kk : Nat} (hK : X.K = F.K) (hx : x = ("enumerate" : Str)) (hg : Gl X "enumerate") (hm : X.mg "enumerate" = none) (ha : PE X ea (tE F Ew (evE C a))) (hp : plainX ea = true) :
    PI X (.Tuple elts kk tpos) (.Call (.Name x p) [ea] [] pos) (tI F Ew (evI C (.enu a))) := by
  subst hx
  refine (pi_enum hg hm (pa_cons ha pa_nil (star_plain hp)) (star_plain hp)).imp ?_
  rintro σ H Q ⟨μ, L, ρ, st, R, RE, h⟩
  rw [evI] at h
  refine in_E R RE h fun x v μ1 L1 H1 st1 e1 R1 RE1 r1 h1 => ?_
  cases r1 with
  | r m => exact h1.elim
  | p r =>
    cases r <;> try (exact h1.elim)
    rename_i a vs ds hL f rr
    rw [hK]
    refine ⟨a, vs, rfl, SqL.of f, Post.here R1 h1 _ ?_⟩
    intro i μ' L' H' st' e R'
    have k := e.kp R1
    have sq : SqL F.K H' a vs := SqL.of (k.2 a _ hL f)
    refine ⟨fun w hw => ?_, fun hi => ⟨vs, sq, by rw [rr.length]; simpa [enuL_len] using hi⟩⟩
    rw [List.getElem?_map, enuL_get] at hw
    cases q : ds[i]? with
    | none => rw [q] at hw; cases hw
    | some d =>
      rw [q] at hw
      cases hw
      obtain ⟨v, q1, q2⟩ := rr.get q
      refine ⟨⟨vs, v, sq, q1⟩, fun x H'' ⟨T, y, ex, hT, eH, hy⟩ => ?_⟩
      subst ex eH
      have := hy vs sq
      rw [q1] at this; cases this
      refine ⟨_, Ext.val R' hT, Rel.val R' hT, .p (.tup (.inr rfl) upd_same ?_)⟩
      have k2 := k.trans ((Ext.val (F := F) (u := .tup [.int (i : Nat), v]) R' hT).kp R')
      have e0 : ((0 + i : Nat) : Int) = (i : Nat) := by omega
      rw [e0]
      exact .cons (.int _) (.cons (q2.kp k2) .nil)
theorem zipL_get : ∀ (xs ys : List D) (i : Nat) (d : D), (zipL xs ys)[i]? = some d → ∃ x y, xs[i]? = some x ∧ ys[i]? = some y ∧ d = .tup [x, y]
  | [], _, i, d, h => by simp [zipL] at h
  | _ :: _, [], i, d, h => by simp [zipL] at h
  | x :: xs, y :: ys, 0, d, h => by simp [zipL] at h; exact ⟨x, y, rfl, rfl, h.symm⟩
  | x :: xs, y :: ys, i + 1, d, h => by
    rw [zipL, List.getElem?_cons_succ] at h
    obtain ⟨a, b, h1, h2, h3⟩ := zipL_get xs ys i d h
    exact ⟨a, b, by simpa using h1, by simpa using h2, h3⟩
theorem zipL_len : ∀ (xs ys : List D), (zipL xs ys).length = min xs.length ys.length
  | [], _ => by simp [zipL]
  | _ :: _, [] => by simp [zipL]
  | x :: xs, y :: ys => by rw [zipL, List.length_cons, zipL_len xs ys, List.length_cons, List.length_cons]; omega
theorem i_zip {x : Str} {p tpos : Pos} {elts : List Expr} {kk : Nat} (hK : X.K = F.K) (hx : x = ("zip" : Str)) (hg : Gl X "zip") (hm : X.mg "zip" = none) (ha : PE X ea (tE F Ew (evE C a))) (hb : PE X eb (tE F Ew (evE C b))) (hp : plainX ea = true) (hq : plainX eb = true) :
    PI X (.Tuple elts kk tpos) (.Call (.Name x p) [ea, eb] [] pos) (tI F Ew (evI C (.zip a b))) := by
  subst hx
  refine (RZ.pi_zipA hg hm (pa_cons ha (pa_cons hb pa_nil (star_plain hq)) (star_plain hp)) (star_plain hp) (noStar (by simp [hq]))).imp ?_
  rintro σ H Q ⟨μ, L, ρ, st, R, RE, h⟩
  rw [evI] at h
  refine in_E R RE h fun x v μ1 L1 H1 st1 e1 R1 RE1 r1 h1 => ?_
  refine in_E R1 RE1 h1 fun y u μ2 L2 H2 st2 e2 R2 RE2 r2 h2 => ?_
  rw [hK]
  have r1' := e2.wv R1 r1
  -- the two lists: told alike
  have go : ∀ {ka : Addr} {kb : Addr} {vs us : List V} {xs ys : List D} {J : _root_.L2.It}, RepDs F L2 H2 vs xs → RepDs F L2 H2 us ys →
      (∀ μ' L' H' st', Ext μ2 L2 H2 st2 μ' L' H' st' → Rel F μ' L' H' st' → ∀ i : Nat, (∀ v u, vs[i]? = some v → us[i]? = some u → J.go i H' ∧ ∀ t H'', J.yld i H' t H'' → ∃ T, t = V.ref T ∧ H' T = none ∧ H'' = upd H' T (.tup [v, u])) ∧ (vs.length ≤ i ∨ us.length ≤ i → J.stop i H')) →
      Walks F μ2 L2 H2 st2 ((zipL xs ys).map W.p) J := by
    intro ka kb vs us xs ys J rx ry hJ i μ' L' H' st' e R'
    have k := e.kp R2
    obtain ⟨g1, g2⟩ := hJ μ' L' H' st' e R' i
    refine ⟨fun w hw => ?_, fun hi => g2 ?_⟩
    · rw [List.getElem?_map] at hw
      cases q : (zipL xs ys)[i]? with
      | none => rw [q] at hw; cases hw
      | some d =>
        rw [q] at hw
        cases hw
        obtain ⟨x, y, qx, qy, rfl⟩ := zipL_get xs ys i d q
        obtain ⟨v, e1, s1⟩ := rx.get qx
        obtain ⟨u, e2, s2⟩ := ry.get qy
        obtain ⟨j1, j2⟩ := g1 v u e1 e2
        refine ⟨j1, fun t H'' hy => ?_⟩
        obtain ⟨T, rfl, hT, rfl⟩ := j2 t H'' hy
        refine ⟨_, Ext.val R' hT, Rel.val R' hT, .p (.tup (.inr rfl) upd_same ?_)⟩
        have k2 := k.trans ((Ext.val (F := F) (u := .tup [v, u]) R' hT).kp R')
        exact .cons (s1.kp k2) (.cons (s2.kp k2) .nil)
    · rw [List.length_map, zipL_len] at hi
      rw [rx.length, ry.length]
      omega
  cases r1' with
  | r m => exact h2.elim
  | p r =>
    cases r2 with
    | r m => cases r <;> exact h2.elim
    | p r' =>
      cases r <;> try (exact h2.elim)
      · cases r' <;> try (exact h2.elim)
        rename_i a vs xs hL f rr b us ys hL' f' rr'
        refine ⟨a, b, vs, us, rfl, .inr ⟨SqT.of f, SqT.of f', Post.here R2 h2 _ (go (ka := a) (kb := b) rr rr' fun μ' L' H' st' e R' i => ?_)⟩⟩
        have k := e.kp R2
        have s1 : SqT F.K H' a vs := SqT.of (k.1.2 a _ f)
        have s2 : SqT F.K H' b us := SqT.of (k.1.2 b _ f')
        refine ⟨fun v u e1 e2 => ⟨⟨vs, us, v, u, s1, s2, e1, e2⟩, fun t H'' ⟨T, x, y, et, hT, eH, hx, hy⟩ => ?_⟩, fun hi => ⟨vs, us, s1, s2, hi⟩⟩
        have z1 := hx vs s1
        have z2 := hy us s2
        rw [e1] at z1; rw [e2] at z2
        cases z1; cases z2
        exact ⟨T, et, hT, eH⟩
      · cases r' <;> try (exact h2.elim)
        rename_i a vs xs f rr b us ys hL' f' rr'
        refine ⟨a, b, vs, us, rfl, .inr ⟨f.sq, SqT.of f', Post.here R2 h2 _ (go (ka := a) (kb := b) rr rr' fun μ' L' H' st' e R' i => ?_)⟩⟩
        have k := e.kp R2
        have s1 : SqT F.K H' a vs := f.sq
        have s2 : SqT F.K H' b us := SqT.of (k.1.2 b _ f')
        refine ⟨fun v u e1 e2 => ⟨⟨vs, us, v, u, s1, s2, e1, e2⟩, fun t H'' ⟨T, x, y, et, hT, eH, hx, hy⟩ => ?_⟩, fun hi => ⟨vs, us, s1, s2, hi⟩⟩
        have z1 := hx vs s1
        have z2 := hy us s2
        rw [e1] at z1; rw [e2] at z2
        cases z1; cases z2
        exact ⟨T, et, hT, eH⟩
      · cases r' <;> try (exact h2.elim)
        rename_i a vs xs hL f rr b us ys hL' f' rr'
        refine ⟨a, b, vs, us, rfl, .inl ⟨SqL.of f, SqL.of f', Post.here R2 h2 _ (go (ka := a) (kb := b) rr rr' fun μ' L' H' st' e R' i => ?_)⟩⟩
        have k := e.kp R2
        have s1 : SqL F.K H' a vs := SqL.of (k.2 a _ hL f)
        have s2 : SqL F.K H' b us := SqL.of (k.2 b _ hL' f')
        refine ⟨fun v u e1 e2 => ⟨⟨vs, us, v, u, s1, s2, e1, e2⟩, fun t H'' ⟨T, x, y, et, hT, eH, hx, hy⟩ => ?_⟩, fun hi => ⟨vs, us, s1, s2, hi⟩⟩
        have z1 := hx vs s1
        have z2 := hy us s2
        rw [e1] at z1; rw [e2] at z2
        cases z1; cases z2
        exact ⟨T, et, hT, eH⟩
end
end T

set_option maxRecDepth 100000
set_option maxHeartbeats 4000000
/-! T: targets, comprehensions -/
namespace T
open PySem L2
/-- the names agree but at some places -/
noncomputable def RelB (F : Fx) (μ : List Addr) (L : Addr → Prop) (H : Hp) (σ : L2.St) (ρ : Nv) (vs : List Nat) : Prop :=
  ρ.length ≤ σ.length ∧ ∀ (i : Nat) (w : W), i ∉ vs → ρ[i]? = some (some w) → ∃ v, σ[i]? = some (some v) ∧ RepW F μ L H v w
/-- names stored one behind the other -/
noncomputable def gNames : List Nat → TGs
  | [] => gNil
  | i :: is => gCons (gName i) (gNames is)
noncomputable def gT (K : PySem.W.Frag) : Tg → TG
  | .nm i => gName i
  | .tup is => gTup K is.length (gNames is)
section
variable {F : Fx} {Ew : XK} {X : Cx} {C : Call} {a b c : Ex} {ea eb ec tg : Expr} {pos : Pos} {μ μ' : List Addr} {L L' : Addr → Prop} {H H' : Hp} {st st' : Sto} {G : VK} {σ σ' : L2.St} {ρ ρ' : Nv}
theorem RelE.toB (h : RelE F μ L H σ ρ) (vs : List Nat) : RelB F μ L H σ ρ vs := ⟨h.1, fun i w _ e => h.2 i w e⟩
theorem RelB.toE (h : RelB F μ L H σ ρ []) : RelE F μ L H σ ρ := ⟨h.1, fun i w e => h.2 i w (by simp) e⟩
theorem RelE.wipe (h : RelE F μ L H σ ρ) (vs : List Nat) : RelB F μ L H (wipe σ vs) ρ vs :=
  ⟨by rw [wipe_length]; exact h.1, fun i w hi e => by
    obtain ⟨v, e1, r⟩ := h.2 i w e
    exact ⟨v, by rw [wipe_out hi]; exact e1, r⟩⟩
theorem RelB.set {i : Nat} {v : V} {w : W} {zs : List Nat} (h : RelB F μ L H σ ρ (i :: zs)) (r : RepW F μ L H v w) : RelB F μ L H (σ.set i (some v)) (ρ.set i (some w)) zs := by
  refine ⟨by simpa using h.1, fun j u hj e => ?_⟩
  by_cases hij : i = j
  · subst hij
    have hl : i < ρ.length := by
      have := (List.getElem?_eq_some_iff.mp e).1
      simpa using this
    rw [List.getElem?_set_self hl] at e
    cases e
    exact ⟨v, List.getElem?_set_self (Nat.lt_of_lt_of_le hl h.1), r⟩
  · rw [List.getElem?_set_ne hij] at e
    obtain ⟨v', e', r'⟩ := h.2 j u (by simp [Ne.symm hij, hj]) e
    exact ⟨v', by rw [List.getElem?_set_ne hij]; exact e', r'⟩
theorem wipe_set {i : Nat} {x : Option V} : ∀ {vs : List Nat}, i ∈ vs → wipe (σ.set i x) vs = wipe σ vs
  | [], h => by cases h
  | v :: vs, h => by
    rw [wipe, wipe]
    by_cases hi : i ∈ vs
    · rw [wipe_set hi]
    · have e : i = v := by
        rcases List.mem_cons.mp h with e | e
        · exact e
        · exact absurd e hi
      subst e
      have comm : ∀ (vs : List Nat) (σ : L2.St), i ∉ vs → wipe (σ.set i x) vs = (wipe σ vs).set i x := by
        intro vs
        induction vs with
        | nil => intro σ _; rfl
        | cons u us ih =>
          intro σ hn
          have h1 : i ≠ u := fun z => hn (by rw [z]; exact List.mem_cons_self)
          have h2 : i ∉ us := fun z => hn (List.mem_cons_of_mem _ z)
          rw [wipe, wipe, ih σ h2, List.set_comm _ _ h1]
      rw [comm vs σ hi, List.set_set]
theorem names_ok {zs : List Nat} {Q : L2.St → Hp → Prop} : ∀ (is : List Nat) {xs : List V} {ws : List W} {σ : L2.St} {ρ : Nv}, RepWs F μ L H xs ws → setTs is ws ρ = some ρ' → RelB F μ L H σ ρ (is ++ zs) →
    (∀ σ2, RelB F μ L H σ2 ρ' zs → (∀ vs, (∀ i, i ∈ is → i ∈ vs) → wipe σ2 vs = wipe σ vs) → Q σ2 H) → gNames is xs σ H Q
  | [], _, [], σ, ρ, .nil, e, h, q => by
    rw [setTs] at e; cases e
    exact ⟨rfl, q σ h fun _ _ => rfl⟩
  | [], _, _ :: _, σ, ρ, .cons _ _, e, h, q => by rw [setTs] at e; cases e; all_goals (intros; contradiction)
  | i :: is, _, [], σ, ρ, .nil, e, h, q => by rw [setTs] at e; cases e; all_goals (intros; contradiction)
  | i :: is, _, w :: ws, σ, ρ, .cons r t, e, h, q => by
    rw [setTs] at e
    refine ⟨_, _, rfl, names_ok is t e (h.set r) fun σ2 h2 hw => q σ2 h2 fun vs hv => ?_⟩
    rw [hw vs fun j hj => hv j (List.mem_cons_of_mem _ hj), wipe_set (hv i List.mem_cons_self)]
theorem setTs_len : ∀ {is : List Nat} {ws : List W} {ρ ρ' : Nv}, setTs is ws ρ = some ρ' → is.length = ws.length
  | [], [], _, _, _ => rfl
  | [], _ :: _, _, _, e => by rw [setTs] at e; cases e; all_goals (intros; contradiction)
  | _ :: _, [], _, _, e => by rw [setTs] at e; cases e; all_goals (intros; contradiction)
  | _ :: is, _ :: ws, _, _, e => by rw [setTs] at e; exact congrArg (· + 1) (setTs_len e)
/-- a target is stored -/
theorem bind_ok' (K : PySem.W.Frag) (hK : K = F.K) {tg : Tg} {x : V} {w : W} {Q : L2.St → Hp → Prop} (h : RelB F μ L H σ ρ tg.slots) (r : RepW F μ L H x w) (e : bindT tg w ρ = some ρ')
    (q : ∀ σ2, RelE F μ L H σ2 ρ' → wipe σ2 tg.slots = wipe σ tg.slots → Q σ2 H) : gT K tg x σ H Q := by
  subst hK
  cases tg with
  | nm i =>
    cases e
    exact q _ (RelB.toE (h.set r)) (wipe_set (by simp [Tg.slots]))
  | tup is =>
    cases r with
    | r m => cases e
    | p r =>
      cases r <;> try (simp only [bindT, reduceCtorEq] at e; done)
      rename_i a vs ds hL f rr
      simp only [bindT] at e
      have hl := setTs_len e
      rw [List.length_map] at hl
      refine ⟨a, vs, rfl, SqT.of f, by rw [rr.length, hl], names_ok (zs := []) is (reps_map rr) e (by rw [List.append_nil]; exact h) fun σ2 h2 hw => q σ2 h2.toE (hw _ fun _ h => h)⟩
/-- where nothing may be raised, within a block: b the state at the base -/
theorem Post.ne_bind {α β : Type} {μb : List Addr} {Lb : Addr → Prop} {Hb : Hp} {stb : Sto} {r : Res α} {f : α → Sto → Res β} {Q : β → List Addr → (Addr → Prop) → Hp → Sto → Prop} (h : Post F Ew μb Lb Hb stb (r.ne.bind f) Q) :
    ∃ a s, r = .ok a s ∧ Post F Ew μb Lb Hb stb (f a s) Q := by
  cases r with
  | ok a s => exact ⟨a, s, rfl, h⟩
  | exc c s => exact h.elim
  | err => exact h.elim
theorem tE_now {m : Nv → Sto → Res W} {w : W} {s : Sto} {G : VK} (R : Rel F μ L H st) (RE : RelE F μ L H σ ρ) (e : m ρ st = .ok w s)
    (k : ∀ v μ1 L1 H1, Ext μ L H st μ1 L1 H1 s → Rel F μ1 L1 H1 s → RepW F μ1 L1 H1 v w → G v H1) : tE F Ew m σ H G :=
  ⟨μ, L, ρ, st, R, RE, by rw [e]; exact fun μ1 L1 H1 e1 R1 v r => k v μ1 L1 H1 e1 R1 r⟩
theorem tT_now {m : Nv → Sto → Res Bool} {w : Bool} {s : Sto} {G : Bool → Hp → Prop} (R : Rel F μ L H st) (RE : RelE F μ L H σ ρ) (e : m ρ st = .ok w s)
    (k : ∀ μ1 L1 H1, Ext μ L H st μ1 L1 H1 s → Rel F μ1 L1 H1 s → G w H1) : tT F Ew m σ H G :=
  ⟨μ, L, ρ, st, R, RE, by rw [e]; exact fun μ1 L1 H1 e1 R1 => k μ1 L1 H1 e1 R1⟩

/-! ### a thing aside: the list that is made -/
theorem Ext.setAside {μb : List Addr} {Lb : Addr → Prop} {Hb : Hp} {stb : Sto} {D : Addr} {u : HO} (e : Ext μb Lb Hb stb μ L H st) (hD : Hb D = none) : Ext μb Lb Hb stb μ L (upd H D u) st where
  keep := fun a o h n => by rw [upd_ne (ne_of_none h hD)]; exact e.keep a o h n
  tups := fun a xs h => by rw [upd_ne (ne_of_none h hD)]; exact e.tups a xs h
  up := e.up
  new := e.new
  pre := e.pre
  live := e.live
  livT := e.livT
theorem Rel.setAside {D : Addr} {u : HO} (R : Rel F μ L H st) (nA : ¬ AtT μ st D) (nL : ¬ L D) (nt : ∀ xs, H D ≠ some (.tup xs)) : Rel F μ L (upd H D u) st where
  len := R.len
  obj := fun n o a e m al => by
    obtain ⟨x, y⟩ := R.obj n o a e m al
    have ne : a ≠ D := fun z => nA (by rw [← z]; exact ⟨n, ⟨o, e, al⟩, m⟩)
    exact ⟨x, y.mono (⟨⟨fun _ h => h, fun b xs hv => by
      rw [upd_ne fun z => nt xs (by rw [← z]; exact hv)]; exact hv⟩, fun b v hb hv => by
      have nb : b ≠ D := fun z => nL (by rw [← z]; exact hb)
      rw [upd_ne nb]; exact hv⟩ : Kp L H L (upd H D u)) (fun _ _ h => h) fun v hv => by rw [upd_ne ne]; exact hv⟩
  inj := R.inj
  told := fun a h => by
    by_cases ne : a = D
    · subst ne; exact ⟨_, upd_same⟩
    · rw [upd_ne ne]; exact R.told a h
theorem kp_aside {D : Addr} {u : HO} (nL : ¬ L D) (nt : ∀ xs, H D ≠ some (.tup xs)) : Kp L H L (upd H D u) := ⟨⟨fun _ h => h, fun b xs hv => by
  rw [upd_ne fun z => nt xs (by rw [← z]; exact hv)]; exact hv⟩, fun b v hb hv => by
  have nb : b ≠ D := fun z => nL (by rw [← z]; exact hb)
  rw [upd_ne nb]; exact hv⟩
/-- it becomes a value -/
theorem Rel.adoptL {D : Addr} (R : Rel F μ L H st) (nA : ¬ AtT μ st D) (hD : ∃ o, H D = some o) : Rel F μ (fun b => L b ∨ b = D) H st where
  len := R.len
  obj := fun n o a e m al => by
    obtain ⟨x, y⟩ := R.obj n o a e m al
    have ne : a ≠ D := fun z => nA (by rw [← z]; exact ⟨n, ⟨o, e, al⟩, m⟩)
    exact ⟨fun z => z.elim x ne, y.mono (⟨⟨fun _ h => .inl h, fun _ _ h => h⟩, fun _ _ _ h => h⟩ : Kp L H (fun b => L b ∨ b = D) H) (fun _ _ h => h) fun v hv => hv⟩
  inj := R.inj
  told := fun a h => by
    rcases h with h | rfl
    · exact R.told a h
    · exact hD
theorem Ext.adoptL {μb : List Addr} {Lb : Addr → Prop} {Hb : Hp} {stb : Sto} {D : Addr} (e : Ext μb Lb Hb stb μ L H st) (hD : Hb D = none) : Ext μb Lb Hb stb μ (fun b => L b ∨ b = D) H st where
  keep := e.keep
  tups := e.tups
  up := fun a h => .inl (e.up a h)
  new := fun a h => by
    rcases h with h | rfl
    · exact e.new a h
    · exact .inr (.inl hD)
  pre := e.pre
  live := e.live
  livT := e.livT
/-- it becomes a thing of the store -/
theorem Rel.adoptT {D : Addr} {o : O} (R : Rel F μ L H st) (nA : ¬ AtT μ st D) (nL : ¬ L D) (r : RepO F (μ ++ [D]) L H D o) : Rel F (μ ++ [D]) L H (st ++ [o]) where
  len := by simp [R.len]
  obj := fun n w a e m al => by
    by_cases hn : n < st.length
    · rw [List.getElem?_append_left hn] at e
      rw [List.getElem?_append_left (by rw [R.len]; exact hn)] at m
      obtain ⟨x, y⟩ := R.obj n w a e m al
      exact ⟨x, y.mono Kp.refl (fun k c hc => by
        have := (List.getElem?_eq_some_iff.mp hc).1
        rw [List.getElem?_append_left this]; exact hc) fun _ hu => hu⟩
    · have hn' : n = st.length := by
        have := (List.getElem?_eq_some_iff.mp e).1
        simp at this
        omega
      subst hn'
      rw [List.getElem?_append_right (Nat.le_refl _)] at e
      rw [← R.len, List.getElem?_append_right (Nat.le_refl _)] at m
      simp at e m
      subst e m
      exact ⟨nL, r⟩
  inj := fun n m a hn hm en em => by
    have aux : ∀ k, LivT (st ++ [o]) k → (μ ++ [D])[k]? = some a → (LivT st k ∧ μ[k]? = some a) ∨ (k = st.length ∧ a = D) := by
      intro k hk ek
      obtain ⟨w, e, al⟩ := hk
      by_cases hlt : k < st.length
      · rw [List.getElem?_append_left hlt] at e
        rw [List.getElem?_append_left (by rw [R.len]; exact hlt)] at ek
        exact .inl ⟨⟨w, e, al⟩, ek⟩
      · have hk' : k = st.length := by
          have := (List.getElem?_eq_some_iff.mp e).1
          simp at this
          omega
        subst hk'
        rw [← R.len, List.getElem?_append_right (Nat.le_refl _)] at ek
        simp at ek
        exact .inr ⟨rfl, ek.symm⟩
    rcases aux n hn en with ⟨l1, e1⟩ | ⟨rfl, rfl⟩
    · rcases aux m hm em with ⟨l2, e2⟩ | ⟨_, rfl⟩
      · exact R.inj n m a l1 l2 e1 e2
      · exact (nA ⟨n, l1, e1⟩).elim
    · rcases aux m hm em with ⟨l2, e2⟩ | ⟨rfl, _⟩
      · exact (nA ⟨m, l2, e2⟩).elim
      · rfl
  told := R.told
theorem Ext.adoptT {μb : List Addr} {Lb : Addr → Prop} {Hb : Hp} {stb : Sto} {D : Addr} {o : O} (hl : μ.length = st.length) (e : Ext μb Lb Hb stb μ L H st) (hD : Hb D = none) : Ext μb Lb Hb stb (μ ++ [D]) L H (st ++ [o]) where
  keep := e.keep
  tups := e.tups
  up := e.up
  new := e.new
  pre := fun n a h => by
    have := e.pre n a h
    have hn := (List.getElem?_eq_some_iff.mp this).1
    rw [List.getElem?_append_left hn]; exact this
  live := fun a h => by
    rcases at_push hl h with h | ⟨rfl, _⟩
    · exact e.live a h
    · exact .inl hD
  livT := fun a h => by
    rcases at_pushT hl h with h | ⟨rfl, _⟩
    · exact e.livT a h
    · exact .inl hD

/-! ### a comprehension -/
noncomputable def lcStep (C : Call) (ρ : Nv) (tg : Tg) (hc : Bool) (c e : Ex) : W → Sto → Res (Option W) := fun x st => match bindT tg x ρ with
  | some ρ' => if hc then (evT C c ρ' st).ne.bind fun k st => if k then (evE C e ρ' st).ne.bind fun w st => .ok (some w) st else .ok none st
    else (evE C e ρ' st).ne.bind fun w st => .ok (some w) st
  | none => .err
noncomputable def lcEnd (m : Bool) (acc : List W) (st : Sto) : Res W := if m then newO (.lst acc) st else match unW acc with
  | some ds => .ok (.p (.lst ds)) st
  | none => .err
theorem evE_lc (m : Bool) (tg : Tg) (it : Iter) (hc : Bool) (c e : Ex) (ρ : Nv) (st : Sto) : evE C (.lc m tg it hc c e) ρ st = (evI C it ρ st).bind fun v st => match v with
    | .fix ws => (lcLoop (lcStep C ρ tg hc c e) ws [] st).bind (lcEnd m)
    | .dyn n => (lcDyn (lcStep C ρ tg hc c e) n fuel 0 [] st).bind (lcEnd m) := by
  rw [evE]
  rfl
/-- the tests of the clause -/
noncomputable def ttOf (F : Fx) (C : Call) (hc : Bool) (c : Ex) : TT := if hc then tT F E0 (evT C c) else tYes
noncomputable def LcR (F : Fx) (C : Call) (tg : Tg) (hc : Bool) (c e : Ex) (σ : L2.St) (H1 : Hp) (J : L2.It) (Q : VK) : Prop := ∀ D, H1 D = none → ∃ W : Nat → Nat → Hp → Prop, (∃ m, W 0 m (upd H1 D (.lst []))) ∧ ∀ i m H, W i m H →
  (J.stop i H ∧ Q (.ref D) H) ∨ (J.go i H ∧ ∃ Nx : Hp → Prop, (∀ H', Nx H' → ∃ m', m' < m ∧ W (i + 1) m' H') ∧ ∀ x H', J.yld i H x H' → gT F.K tg x (wipe σ tg.slots) H' fun σ2 H2 => wipe σ2 tg.slots = wipe σ tg.slots ∧ ttOf F C hc c σ2 H2 fun b H3 =>
    if b = true then tE F E0 (evE C e) σ2 H3 fun y H4 => ∃ acc, H4 D = some (.lst acc) ∧ acc.length < sizeLine ∧ Nx (upd H4 D (.lst (acc ++ [y]))) else Nx H3)
theorem lc_in {m hc : Bool} {tg : Tg} {c e : Ex} {Q : VK} {ws : List W} {J : L2.It} {μ1 : List Addr} {L1 : Addr → Prop} {H1 : Hp} {st1 : Sto} (hJ : Walks F μ1 L1 H1 st1 ws J) (R1 : Rel F μ1 L1 H1 st1) (RE1 : RelE F μ1 L1 H1 σ ρ)
    (h1 : Post F Ew μ1 L1 H1 st1 ((lcLoop (lcStep C ρ tg hc c e) ws [] st1).bind (lcEnd m)) fun w μ' L' H' _ => ∀ v, RepW F μ' L' H' v w → Q v H') : LcR F C tg hc c e σ H1 J Q := by
    intro D hD
    -- the words of the loop: told from its beginning on
    refine ⟨fun i m' H' => m' = ws.length - i ∧ i ≤ ws.length ∧ ∃ μ L st acc vs, Ext μ1 L1 H1 st1 μ L H' st ∧ Rel F μ L H' st ∧ ¬ AtT μ st D ∧ ¬ L D ∧ H' D = some (.lst vs) ∧ RepWs F μ L H' vs acc ∧
      Post F Ew μ1 L1 H1 st1 ((lcLoop (lcStep C ρ tg hc c e) (ws.drop i) acc st).bind (lcEnd m)) (fun w μ' L' H' _ => ∀ v, RepW F μ' L' H' v w → Q v H'),
      ⟨ws.length, by simp, Nat.zero_le _, μ1, L1, st1, [], [], Ext.setAside .refl hD, Rel.setAside R1 (fun ⟨_, l, z⟩ => by obtain ⟨u, hu⟩ := R1.atT l z; rw [hD] at hu; cases hu) (R1.fresh hD) (fun xs z => by rw [hD] at z; cases z), (fun ⟨_, l, z⟩ => by obtain ⟨u, hu⟩ := R1.atT l z; rw [hD] at hu; cases hu), R1.fresh hD, upd_same, .nil, h1⟩, ?_⟩
    rintro i m' H2 ⟨rfl, hi, μ2, L2', st2, acc, vs, e2, R2, nA, nL, hD2, ra, h2⟩
    have e12 := e2
    obtain ⟨w1, w2⟩ := hJ i μ2 L2' H2 st2 e2 R2
    by_cases hlt : i < ws.length
    · right
      have hx : ws[i]? = some ws[i] := List.getElem?_eq_getElem hlt
      obtain ⟨go, yl⟩ := w1 _ hx
      refine ⟨go, fun H' => (ws.length - (i + 1) = ws.length - (i + 1) ∧ i + 1 ≤ ws.length ∧ ∃ μ L st acc vs, Ext μ1 L1 H1 st1 μ L H' st ∧ Rel F μ L H' st ∧ ¬ AtT μ st D ∧ ¬ L D ∧ H' D = some (.lst vs) ∧ RepWs F μ L H' vs acc ∧
        Post F Ew μ1 L1 H1 st1 ((lcLoop (lcStep C ρ tg hc c e) (ws.drop (i + 1)) acc st).bind (lcEnd m)) (fun w μ' L' H' _ => ∀ v, RepW F μ' L' H' v w → Q v H')), fun H' hw => ⟨ws.length - (i + 1), by omega, hw⟩, fun x H3 hy => ?_⟩
      obtain ⟨L3, e3, R3, rx⟩ := yl x H3 hy
      have e13 := e2.trans e3
      have nA3 : ¬ AtT μ2 st2 D := nA
      have hD3 : H3 D = some (.lst vs) := e3.keep D _ hD2 fun z => nA z.t
      have nL3 : ¬ L3 D := fun z => by
        rcases e3.new D z with q | q | q
        · exact nL q
        · rw [hD2] at q; cases q
        · exact nA q.t
      have ra3 := e3.wvs R2 ra
      rw [List.drop_eq_getElem_cons hlt, lcLoop, Res.bind_assoc] at h2
      -- the target
      cases q1 : bindT tg ws[i] ρ with
      | none => simp only [lcStep, q1] at h2; exact h2.elim
      | some ρ' =>
        refine bind_ok' F.K rfl ((e13.env R1 RE1).wipe tg.slots) rx q1 fun σ2 RE3 hw => ⟨hw.trans (by
          have : ∀ (vs : List Nat) (σ : L2.St), wipe (wipe σ vs) vs = wipe σ vs := fun vs σ => by
            apply List.ext_getElem?
            intro k
            by_cases hk : k ∈ vs
            · have no : ∀ τ : L2.St, ∀ x, (wipe τ vs)[k]? = some (some x) → False := fun τ x e => (wipe_some e).2 hk
              have ln : ∀ τ : L2.St, (wipe τ vs).length = τ.length := fun τ => wipe_length τ vs
              by_cases hl : k < σ.length
              · have l1 : k < (wipe σ vs).length := by rw [ln]; exact hl
                have l2 : k < (wipe (wipe σ vs) vs).length := by rw [ln]; exact l1
                rw [List.getElem?_eq_getElem l1, List.getElem?_eq_getElem l2]
                cases z1 : (wipe σ vs)[k] with
                | some x => exact (no σ x (by rw [List.getElem?_eq_getElem l1, z1])).elim
                | none =>
                  cases z2 : (wipe (wipe σ vs) vs)[k] with
                  | some x => exact (no _ x (by rw [List.getElem?_eq_getElem l2, z2])).elim
                  | none => rfl
              · have l1 : (wipe σ vs).length ≤ k := by rw [ln]; omega
                have l2 : (wipe (wipe σ vs) vs).length ≤ k := by rw [ln]; exact l1
                rw [List.getElem?_eq_none_iff.mpr l1, List.getElem?_eq_none_iff.mpr l2]
            · rw [wipe_out hk]
          exact this _ _), ?_⟩
        -- the element, told once
        have elem : ∀ {μ4 : List Addr} {L4 : Addr → Prop} {H4 : Hp} {st4 : Sto}, Ext μ1 L1 H1 st1 μ4 L4 H4 st4 → Rel F μ4 L4 H4 st4 → RelE F μ4 L4 H4 σ2 ρ' → ¬ AtT μ4 st4 D → ¬ L4 D → H4 D = some (.lst vs) → RepWs F μ4 L4 H4 vs acc →
            Post F Ew μ1 L1 H1 st1 ((evE C e ρ' st4).ne.bind fun w st => if acc.length < sizeLine then (lcLoop (lcStep C ρ tg hc c e) (ws.drop (i + 1)) (acc ++ [w]) st).bind (lcEnd m) else .err) (fun w μ' L' H' _ => ∀ v, RepW F μ' L' H' v w → Q v H') →
            tE F E0 (evE C e) σ2 H4 fun y H5 => ∃ acc, H5 D = some (.lst acc) ∧ acc.length < sizeLine ∧ (ws.length - (i + 1) = ws.length - (i + 1) ∧ i + 1 ≤ ws.length ∧ ∃ μ L st acc' vs, Ext μ1 L1 H1 st1 μ L (upd H5 D (.lst (acc ++ [y]))) st ∧ Rel F μ L (upd H5 D (.lst (acc ++ [y]))) st ∧ ¬ AtT μ st D ∧ ¬ L D ∧ upd H5 D (.lst (acc ++ [y])) D = some (.lst vs) ∧ RepWs F μ L (upd H5 D (.lst (acc ++ [y]))) vs acc' ∧
              Post F Ew μ1 L1 H1 st1 ((lcLoop (lcStep C ρ tg hc c e) (ws.drop (i + 1)) acc' st).bind (lcEnd m)) (fun w μ' L' H' _ => ∀ v, RepW F μ' L' H' v w → Q v H')) := by
          intro μ4 L4 H4 st4 e4 R4 RE4 nA4 nL4 hD4 ra4 h4
          obtain ⟨w, s, q2, h5⟩ := h4.ne_bind
          refine tE_now R4 RE4 q2 fun y μ5 L5 H5 e5 R5 ry => ?_
          split at h5
          · rename_i hz
            have nA5 : ¬ AtT μ5 s D := fun z => by
              rcases e5.livT D z with q | q
              · rw [hD4] at q; cases q
              · exact nA4 q
            have nL5 : ¬ L5 D := fun z => by
              rcases e5.new D z with q | q | q
              · exact nL4 q
              · rw [hD4] at q; cases q
              · exact nA4 q.t
            have hD5 := e5.keep D _ hD4 fun z => nA4 z.t
            have nt : ∀ xs, H5 D ≠ some (.tup xs) := fun xs z => by rw [hD5] at z; cases z
            have ka := kp_aside (H := H5) (u := .lst (vs ++ [y])) nL5 nt
            exact ⟨vs, e5.keep D _ hD4 (fun z => nA4 z.t), by rw [repws_len ra4]; exact hz, rfl, hlt, μ5, L5, s, acc ++ [w], vs ++ [y], Ext.setAside (e4.trans e5) hD, R5.setAside nA5 nL5 nt, nA5, nL5, upd_same,
              repws_app ((e5.wvs R4 ra4).mono ka fun _ _ h => h) (.cons (ry.mono ka fun _ _ h => h) .nil), h5⟩
          · exact h5.elim
        cases hc with
        | false =>
          refine elem e13 R3 RE3 nA nL3 hD3 ra3 ?_
          simp only [lcStep, q1, Bool.false_eq_true, if_false, Res.bind_assoc, bind_ok] at h2
          have he : ∀ (w : W) (s : Sto), ((if acc.length < sizeLine then lcLoop (lcStep C ρ tg false c e) (ws.drop (i + 1)) (acc ++ [w]) s else .err).bind (lcEnd m)) = if acc.length < sizeLine then (lcLoop (lcStep C ρ tg false c e) (ws.drop (i + 1)) (acc ++ [w]) s).bind (lcEnd m) else .err := fun w s => by
            split <;> rfl
          simp only [he] at h2
          exact h2
        | true =>
          simp only [lcStep, q1, if_true, Res.bind_assoc] at h2
          obtain ⟨k, s, q2, h3⟩ := h2.ne_bind
          refine tT_now R3 RE3 q2 fun μ4 L4 H4 e4 R4 => ?_
          have e14 := e13.trans e4
          have nA4 : ¬ AtT μ4 s D := fun z => by
            rcases e4.livT D z with q | q
            · rw [hD3] at q; cases q
            · exact nA q
          have nL4 : ¬ L4 D := fun z => by
            rcases e4.new D z with q | q | q
            · exact nL3 q
            · rw [hD3] at q; cases q
            · exact nA q.t
          have hD4 := e4.keep D _ hD3 fun z => nA z.t
          cases k with
          | true =>
            refine elem e14 R4 (e4.env R3 RE3) nA4 nL4 hD4 (e4.wvs R3 ra3) ?_
            simp only [if_true, Res.bind_assoc, bind_ok] at h3
            have he : ∀ (w : W) (s : Sto), ((if acc.length < sizeLine then lcLoop (lcStep C ρ tg true c e) (ws.drop (i + 1)) (acc ++ [w]) s else .err).bind (lcEnd m)) = if acc.length < sizeLine then (lcLoop (lcStep C ρ tg true c e) (ws.drop (i + 1)) (acc ++ [w]) s).bind (lcEnd m) else .err := fun w s => by
              split <;> rfl
            simp only [he] at h3
            exact h3
          | false =>
            simp only [Bool.false_eq_true, if_false, bind_ok] at h3
            exact ⟨rfl, hlt, μ4, L4, s, acc, vs, e14, R4, nA4, nL4, hD4, e4.wvs R3 ra3, h3⟩
    · left
      have hi' : i = ws.length := by omega
      subst hi'
      refine ⟨w2 (Nat.le_refl _), ?_⟩
      rw [List.drop_length, lcLoop, bind_ok] at h2
      unfold lcEnd at h2
      split at h2
      · have pre : ∀ (n : Nat) (a : Addr), μ2[n]? = some a → (μ2 ++ [D])[n]? = some a := fun n a h => by
          have hn := (List.getElem?_eq_some_iff.mp h).1
          rw [List.getElem?_append_left hn]; exact h
        exact h2 _ _ _ (Ext.adoptT (o := .lst acc) R2.len e2 hD) (Rel.adoptT (o := .lst acc) R2 nA nL ⟨vs, hD2, ra.mono Kp.refl pre⟩) _ (.r (by rw [← R2.len, List.getElem?_append_right (Nat.le_refl _)]; simp))
      · cases q : unW acc with
        | none => simp only [q] at h2; exact h2.elim
        | some ds =>
          simp only [q] at h2
          refine h2 _ _ _ (Ext.adoptL e2 hD) (Rel.adoptL R2 nA ⟨_, hD2⟩) _ (.p (.lst (.inr rfl) hD2 ?_))
          exact RepDs.kp (⟨⟨fun _ h => .inl h, fun _ _ h => h⟩, fun _ _ _ h => h⟩ : Kp L2' H2 (fun b => L2' b ∨ b = D) H2) (unW_reps ra q)
theorem lc_inD {m hc : Bool} {tg : Tg} {c e : Ex} {Q : VK} {n : Nat} {a : Addr} {μ1 : List Addr} {L1 : Addr → Prop} {H1 : Hp} {st1 : Sto} (ha : μ1[n]? = some a) (R1 : Rel F μ1 L1 H1 st1) (RE1 : RelE F μ1 L1 H1 σ ρ)
    (h1 : Post F Ew μ1 L1 H1 st1 ((lcDyn (lcStep C ρ tg hc c e) n fuel 0 [] st1).bind (lcEnd m)) fun w μ' L' H' _ => ∀ v, RepW F μ' L' H' v w → Q v H') : LcR F C tg hc c e σ H1 (Itl F.K a) Q := by
    intro D hD
    -- the words of the loop: told from its beginning on
    refine ⟨fun i m' H' => ∃ μ L st acc vs, Ext μ1 L1 H1 st1 μ L H' st ∧ Rel F μ L H' st ∧ ¬ AtT μ st D ∧ ¬ L D ∧ H' D = some (.lst vs) ∧ RepWs F μ L H' vs acc ∧
      Post F Ew μ1 L1 H1 st1 ((lcDyn (lcStep C ρ tg hc c e) n m' i acc st).bind (lcEnd m)) (fun w μ' L' H' _ => ∀ v, RepW F μ' L' H' v w → Q v H'),
      ⟨fuel, μ1, L1, st1, [], [], Ext.setAside .refl hD, Rel.setAside R1 (fun ⟨_, l, z⟩ => by obtain ⟨u, hu⟩ := R1.atT l z; rw [hD] at hu; cases hu) (R1.fresh hD) (fun xs z => by rw [hD] at z; cases z), (fun ⟨_, l, z⟩ => by obtain ⟨u, hu⟩ := R1.atT l z; rw [hD] at hu; cases hu), R1.fresh hD, upd_same, .nil, h1⟩, ?_⟩
    rintro i m' H2 ⟨μ2, L2', st2, acc, vs, e2, R2, nA, nL, hD2, ra, h2⟩
    have e12 := e2
    cases m' with
    | zero => exact h2.elim
    | succ m' =>
    rw [lcDyn] at h2
    cases q0 : st2[n]? with
    | none => simp only [q0] at h2; exact h2.elim
    | some o =>
    cases o <;> try (simp only [q0] at h2; exact h2.elim)
    rename_i ws
    simp only [q0] at h2
    obtain ⟨a', e', ha', ⟨vs', g1, g2⟩, _⟩ := R2.thg (v := .ref a) (.r (e2.pre n a ha)) q0 rfl
    cases e'
    cases q : ws[i]? with
    | some w0 =>
      simp only [q] at h2
      right
      obtain ⟨v, e1', e2'⟩ := get_ws g2 q
      refine ⟨⟨vs', v, SqL.of g1, e1'⟩, fun H' => (∃ μ L st acc vs, Ext μ1 L1 H1 st1 μ L H' st ∧ Rel F μ L H' st ∧ ¬ AtT μ st D ∧ ¬ L D ∧ H' D = some (.lst vs) ∧ RepWs F μ L H' vs acc ∧
        Post F Ew μ1 L1 H1 st1 ((lcDyn (lcStep C ρ tg hc c e) n m' (i + 1) acc st).bind (lcEnd m)) (fun w μ' L' H' _ => ∀ v, RepW F μ' L' H' v w → Q v H')), fun H' hw => ⟨m', Nat.lt_succ_self _, hw⟩, fun x H3 hy => ?_⟩
      obtain ⟨eH, hy⟩ := hy
      subst eH
      have := hy vs' (SqL.of g1)
      rw [e1'] at this; cases this
      have e13 := e2
      have R3 := R2
      have rx := e2'
      have nA3 := nA
      have hD3 := hD2
      have nL3 := nL
      have ra3 := ra
      rw [Res.bind_assoc] at h2
      -- the target
      cases q1 : bindT tg w0 ρ with
      | none => simp only [lcStep, q1] at h2; exact h2.elim
      | some ρ' =>
        refine bind_ok' F.K rfl ((e13.env R1 RE1).wipe tg.slots) rx q1 fun σ2 RE3 hw => ⟨hw.trans (by
          have : ∀ (vs : List Nat) (σ : L2.St), wipe (wipe σ vs) vs = wipe σ vs := fun vs σ => by
            apply List.ext_getElem?
            intro k
            by_cases hk : k ∈ vs
            · have no : ∀ τ : L2.St, ∀ x, (wipe τ vs)[k]? = some (some x) → False := fun τ x e => (wipe_some e).2 hk
              have ln : ∀ τ : L2.St, (wipe τ vs).length = τ.length := fun τ => wipe_length τ vs
              by_cases hl : k < σ.length
              · have l1 : k < (wipe σ vs).length := by rw [ln]; exact hl
                have l2 : k < (wipe (wipe σ vs) vs).length := by rw [ln]; exact l1
                rw [List.getElem?_eq_getElem l1, List.getElem?_eq_getElem l2]
                cases z1 : (wipe σ vs)[k] with
                | some x => exact (no σ x (by rw [List.getElem?_eq_getElem l1, z1])).elim
                | none =>
                  cases z2 : (wipe (wipe σ vs) vs)[k] with
                  | some x => exact (no _ x (by rw [List.getElem?_eq_getElem l2, z2])).elim
                  | none => rfl
              · have l1 : (wipe σ vs).length ≤ k := by rw [ln]; omega
                have l2 : (wipe (wipe σ vs) vs).length ≤ k := by rw [ln]; exact l1
                rw [List.getElem?_eq_none_iff.mpr l1, List.getElem?_eq_none_iff.mpr l2]
            · rw [wipe_out hk]
          exact this _ _), ?_⟩
        -- the element, told once
        have elem : ∀ {μ4 : List Addr} {L4 : Addr → Prop} {H4 : Hp} {st4 : Sto}, Ext μ1 L1 H1 st1 μ4 L4 H4 st4 → Rel F μ4 L4 H4 st4 → RelE F μ4 L4 H4 σ2 ρ' → ¬ AtT μ4 st4 D → ¬ L4 D → H4 D = some (.lst vs) → RepWs F μ4 L4 H4 vs acc →
            Post F Ew μ1 L1 H1 st1 ((evE C e ρ' st4).ne.bind fun w st => if acc.length < sizeLine then (lcDyn (lcStep C ρ tg hc c e) n m' (i + 1) (acc ++ [w]) st).bind (lcEnd m) else .err) (fun w μ' L' H' _ => ∀ v, RepW F μ' L' H' v w → Q v H') →
            tE F E0 (evE C e) σ2 H4 fun y H5 => ∃ acc, H5 D = some (.lst acc) ∧ acc.length < sizeLine ∧ (∃ μ L st acc' vs, Ext μ1 L1 H1 st1 μ L (upd H5 D (.lst (acc ++ [y]))) st ∧ Rel F μ L (upd H5 D (.lst (acc ++ [y]))) st ∧ ¬ AtT μ st D ∧ ¬ L D ∧ upd H5 D (.lst (acc ++ [y])) D = some (.lst vs) ∧ RepWs F μ L (upd H5 D (.lst (acc ++ [y]))) vs acc' ∧
              Post F Ew μ1 L1 H1 st1 ((lcDyn (lcStep C ρ tg hc c e) n m' (i + 1) acc' st).bind (lcEnd m)) (fun w μ' L' H' _ => ∀ v, RepW F μ' L' H' v w → Q v H')) := by
          intro μ4 L4 H4 st4 e4 R4 RE4 nA4 nL4 hD4 ra4 h4
          obtain ⟨w, s, q2, h5⟩ := h4.ne_bind
          refine tE_now R4 RE4 q2 fun y μ5 L5 H5 e5 R5 ry => ?_
          split at h5
          · rename_i hz
            have nA5 : ¬ AtT μ5 s D := fun z => by
              rcases e5.livT D z with q | q
              · rw [hD4] at q; cases q
              · exact nA4 q
            have nL5 : ¬ L5 D := fun z => by
              rcases e5.new D z with q | q | q
              · exact nL4 q
              · rw [hD4] at q; cases q
              · exact nA4 q.t
            have hD5 := e5.keep D _ hD4 fun z => nA4 z.t
            have nt : ∀ xs, H5 D ≠ some (.tup xs) := fun xs z => by rw [hD5] at z; cases z
            have ka := kp_aside (H := H5) (u := .lst (vs ++ [y])) nL5 nt
            exact ⟨vs, e5.keep D _ hD4 (fun z => nA4 z.t), by rw [repws_len ra4]; exact hz, μ5, L5, s, acc ++ [w], vs ++ [y], Ext.setAside (e4.trans e5) hD, R5.setAside nA5 nL5 nt, nA5, nL5, upd_same,
              repws_app ((e5.wvs R4 ra4).mono ka fun _ _ h => h) (.cons (ry.mono ka fun _ _ h => h) .nil), h5⟩
          · exact h5.elim
        cases hc with
        | false =>
          refine elem e13 R3 RE3 nA nL3 hD3 ra3 ?_
          simp only [lcStep, q1, Bool.false_eq_true, if_false, Res.bind_assoc, bind_ok] at h2
          have he : ∀ (w : W) (s : Sto), ((if acc.length < sizeLine then lcDyn (lcStep C ρ tg false c e) n m' (i + 1) (acc ++ [w]) s else .err).bind (lcEnd m)) = if acc.length < sizeLine then (lcDyn (lcStep C ρ tg false c e) n m' (i + 1) (acc ++ [w]) s).bind (lcEnd m) else .err := fun w s => by
            split <;> rfl
          simp only [he] at h2
          exact h2
        | true =>
          simp only [lcStep, q1, if_true, Res.bind_assoc] at h2
          obtain ⟨k, s, q2, h3⟩ := h2.ne_bind
          refine tT_now R3 RE3 q2 fun μ4 L4 H4 e4 R4 => ?_
          have e14 := e13.trans e4
          have nA4 : ¬ AtT μ4 s D := fun z => by
            rcases e4.livT D z with q | q
            · rw [hD3] at q; cases q
            · exact nA q
          have nL4 : ¬ L4 D := fun z => by
            rcases e4.new D z with q | q | q
            · exact nL3 q
            · rw [hD3] at q; cases q
            · exact nA q.t
          have hD4 := e4.keep D _ hD3 fun z => nA z.t
          cases k with
          | true =>
            refine elem e14 R4 (e4.env R3 RE3) nA4 nL4 hD4 (e4.wvs R3 ra3) ?_
            simp only [if_true, Res.bind_assoc, bind_ok] at h3
            have he : ∀ (w : W) (s : Sto), ((if acc.length < sizeLine then lcDyn (lcStep C ρ tg true c e) n m' (i + 1) (acc ++ [w]) s else .err).bind (lcEnd m)) = if acc.length < sizeLine then (lcDyn (lcStep C ρ tg true c e) n m' (i + 1) (acc ++ [w]) s).bind (lcEnd m) else .err := fun w s => by
              split <;> rfl
            simp only [he] at h3
            exact h3
          | false =>
            simp only [Bool.false_eq_true, if_false, bind_ok] at h3
            exact ⟨μ4, L4, s, acc, vs, e14, R4, nA4, nL4, hD4, e4.wvs R3 ra3, h3⟩
    | none =>
      left
      simp only [q, bind_ok] at h2
      have hl := List.getElem?_eq_none_iff.mp q
      refine ⟨⟨vs', SqL.of g1, by rw [repws_len g2]; exact hl⟩, ?_⟩
      unfold lcEnd at h2
      split at h2
      · have pre : ∀ (n : Nat) (a : Addr), μ2[n]? = some a → (μ2 ++ [D])[n]? = some a := fun n a h => by
          have hn := (List.getElem?_eq_some_iff.mp h).1
          rw [List.getElem?_append_left hn]; exact h
        exact h2 _ _ _ (Ext.adoptT (o := .lst acc) R2.len e2 hD) (Rel.adoptT (o := .lst acc) R2 nA nL ⟨vs, hD2, ra.mono Kp.refl pre⟩) _ (.r (by rw [← R2.len, List.getElem?_append_right (Nat.le_refl _)]; simp))
      · cases q : unW acc with
        | none => simp only [q] at h2; exact h2.elim
        | some ds =>
          simp only [q] at h2
          refine h2 _ _ _ (Ext.adoptL e2 hD) (Rel.adoptL R2 nA ⟨_, hD2⟩) _ (.p (.lst (.inr rfl) hD2 ?_))
          exact RepDs.kp (⟨⟨fun _ h => .inl h, fun _ _ h => h⟩, fun _ _ _ h => h⟩ : Kp L2' H2 (fun b => L2' b ∨ b = D) H2) (unW_reps ra q)
theorem lc_read {m hc : Bool} {tg : Tg} {it : Iter} {c e : Ex} (K : PySem.W.Frag) (hK : K = F.K) {Q : VK} (h : tE F Ew (evE C (.lc m tg it hc c e)) σ H Q) : tLc (tI F Ew (evI C it)) (gT K tg) (ttOf F C hc c) (tE F E0 (evE C e)) tg.slots σ H Q := by
  subst hK
  obtain ⟨μ, L, ρ, st, R, RE, h⟩ := h
  rw [evE_lc] at h
  refine ⟨μ, L, ρ, st, R, RE, h.bind.mono fun v μ1 L1 H1 st1 e1 R1 h1 J hJ => ?_⟩
  cases v with
  | dyn n =>
    obtain ⟨a, ha, rfl⟩ := hJ
    exact lc_inD ha R1 (e1.env R RE) h1
  | fix ws => exact lc_in hJ R1 (e1.env R RE) h1
end
end T

set_option maxRecDepth 100000
set_option maxHeartbeats 4000000
/-! T: statements -/
namespace T
open PySem L2
/-- what is wanted behind a statement, by what it comes to -/
noncomputable def QD (F : Fx) (D : Ends) (o : Flow × Nv) (μ : List Addr) (L : Addr → Prop) (H : Hp) (_ : Sto) : Prop :=
  match o.1 with
  | .nx => ∀ σ, RelE F μ L H σ o.2 → D.nx σ H
  | .bk => ∀ σ, RelE F μ L H σ o.2 → D.bk σ H
  | .ct => ∀ σ, RelE F μ L H σ o.2 → D.ct σ H
  | .rt w => ∀ v, RepW F μ L H v w → D.rt v H
noncomputable def tS (F : Fx) (Ew : XK) (m : Nv → Sto → Res (Flow × Nv)) : TS := fun D σ H => ∃ μ L ρ st, Rel F μ L H st ∧ RelE F μ L H σ ρ ∧ Post F Ew μ L H st (m ρ st) (QD F D)
section
variable {F : Fx} {Ew : XK} {X : Cx} {C : Call} {a b c : Ex} {ea eb ec tg : Expr} {pos : Pos} {μ μ' : List Addr} {L L' : Addr → Prop} {H H' : Hp} {st st' : Sto} {G : VK} {σ σ' : L2.St} {ρ ρ' : Nv} {D : Ends}
theorem in_S {m : Nv → Sto → Res W} {f : W → Sto → Res (Flow × Nv)} {G : VK} (R : Rel F μ L H st) (RE : RelE F μ L H σ ρ) (h : Post F Ew μ L H st ((m ρ st).bind f) (QD F D))
    (k : ∀ w v μ1 L1 H1 st1, Ext μ L H st μ1 L1 H1 st1 → Rel F μ1 L1 H1 st1 → RelE F μ1 L1 H1 σ ρ → RepW F μ1 L1 H1 v w → Post F Ew μ1 L1 H1 st1 (f w st1) (QD F D) → G v H1) : tE F Ew m σ H G := in_E R RE h k
theorem post_now {o : Flow × Nv} (R : Rel F μ L H st) (h : Post F Ew μ L H st (.ok o st) (QD F D)) : QD F D o μ L H st := Post.here R h
theorem x_nil : PSs X [] (tS F Ew (evSs C .nil)) := pss_nil.imp fun D σ H ⟨μ, L, ρ, st, R, RE, h⟩ => by
  rw [evSs] at h
  exact Post.here R h σ RE
theorem x_cons {s : Sm} {ss : Sms} {ps : Stmt} {pss : List Stmt} (h1 : PS X ps (tS F Ew (evS C s))) (h2 : PSs X pss (tS F Ew (evSs C ss))) : PSs X (ps :: pss) (tS F Ew (evSs C (.cons s ss))) :=
  (pss_cons h1 h2).imp fun D σ H ⟨μ, L, ρ, st, R, RE, h⟩ => by
    rw [evSs] at h
    refine ⟨μ, L, ρ, st, R, RE, h.bind.mono fun o μ1 L1 H1 st1 e R1 q => ?_⟩
    obtain ⟨f, ρ1⟩ := o
    cases f with
    | nx => exact fun σ1 RE1 => ⟨μ1, L1, ρ1, st1, R1, RE1, q⟩
    | bk => exact post_now (Ew := Ew) R1 q
    | ct => exact post_now (Ew := Ew) R1 q
    | rt w => exact post_now (Ew := Ew) R1 q
/-- a name's thing becomes a value: nothing in the text -/
theorem x_fzv {i : Nat} {ss : Sms} {pss : List Stmt} (h2 : PSs X pss (tS F Ew (evSs C ss))) : PSs X pss (tS F Ew (evSs C (.cons (.fzv i) ss))) :=
  h2.imp fun D σ H ⟨μ, L, ρ, st, R, RE, h⟩ => by
    rw [evSs, evS] at h
    cases q : ρ[i]? with
    | none => simp only [q] at h; exact h.elim
    | some o =>
      cases o with
      | none => simp only [q] at h; exact h.elim
      | some w =>
        simp only [q] at h
        cases q2 : frzW st w with
        | none => simp only [q2] at h; exact h.elim
        | some y =>
          obtain ⟨w', st'⟩ := y
          simp only [q2, bind_ok] at h
          obtain ⟨v, e, r⟩ := RE.2 i w q
          obtain ⟨L', e', R', r'⟩ := frz_ok R r q2
          refine ⟨μ, L', ρ.set i (some w'), st', R', ?_, h.from e'⟩
          have RE' := e'.env R RE
          refine ⟨by simpa using RE'.1, fun j u hj => ?_⟩
          by_cases hij : i = j
          · subst hij
            have hl : i < ρ.length := (List.getElem?_eq_some_iff.mp q).1
            rw [List.getElem?_set_self hl] at hj
            cases hj
            exact ⟨v, e, r'⟩
          · rw [List.getElem?_set_ne hij] at hj
            exact RE'.2 j u hj
theorem x_exp (hp : plainX ea = true) (hl : notLc ea = true) (ha : PE X ea (tE F Ew (evE C a))) : PS X (.Expr ea pos) (tS F Ew (evS C (.exp a))) :=
  (ps_expr ha (swap_plain hp hl _ _)).imp fun D σ H ⟨μ, L, ρ, st, R, RE, h⟩ => by
    rw [evS] at h
    exact in_S R RE h fun x v μ1 L1 H1 st1 e1 R1 RE1 r1 h1 => Post.here R1 h1 σ RE1
theorem x_asg {i : Nat} {x : Str} {p : Pos} (nd : X.N.Nodup) (hi : X.N[i]? = some x) (hx : Loc X.env.scope x) (hf : X.fn x = true ∨ X.env.scope.names.lookup x = some .local) (hs : swapsWith ea (some (.Name x p)) pos.line X.env = pure false) (ha : PE X ea (tE F Ew (evE C a))) :
    PS X (.Assign [.Name x p] ea pos) (tS F Ew (evS C (.asg i a))) :=
  (ps_set nd hi hx ha hs hf).imp fun D σ H ⟨μ, L, ρ, st, R, RE, h⟩ => by
    rw [evS] at h
    exact in_S R RE h fun x v μ1 L1 H1 st1 e1 R1 RE1 r1 h1 => Post.here R1 h1 _ (RE1.set r1)
theorem asg_lc {i : Nat} {m hc : Bool} {tg : Tg} {it : Iter} {c e : Ex} (K : PySem.W.Frag) (hK : K = F.K) (h : tS F Ew (evS C (.asg i (.lc m tg it hc c e))) D σ H) :
    tAsg (tLc (tI F Ew (evI C it)) (gT K tg) (ttOf F C hc c) (tE F E0 (evE C e)) tg.slots) (gName i) D σ H := by
  obtain ⟨μ, L, ρ, st, R, RE, h⟩ := h
  rw [evS] at h
  exact lc_read K hK (in_S R RE h fun x v μ1 L1 H1 st1 e1 R1 RE1 r1 h1 => Post.here R1 h1 _ (RE1.set r1))
theorem tupI_rep (R : Rel F μ L H st) {v : V} {w : W} {xs : List W} (r : RepW F μ L H v w) (h : tupI st w = some xs) : ∃ a ys, v = .ref a ∧ H a = some (.tup ys) ∧ RepWs F μ L H ys xs := by
  cases w with
  | p d =>
    cases d <;> try (cases h; done)
    cases h
    cases r with
    | p r => cases r with
      | tup hL f r => exact ⟨_, _, rfl, f, reps_map r⟩
  | r n =>
    rw [tupI] at h
    cases q : st[n]? with
    | none => rw [q] at h; cases h
    | some o =>
      rw [q] at h
      cases o with
      | tup ws =>
        cases h
        obtain ⟨a, rfl, _, ⟨vs, g1, g2⟩, _⟩ := R.thg r q rfl
        exact ⟨a, vs, rfl, g1, g2⟩
      | _ => cases h
/-- a, b, .. = e -/
theorem pgs_names (nd : X.N.Nodup) : ∀ {is : List Nat} {es : List Expr}, (∀ (k i : Nat), is[k]? = some i → ∃ x p, es[k]? = some (.Name x p) ∧ X.N[i]? = some x ∧ Loc X.env.scope x ∧ (X.fn x = true ∨ X.env.scope.names.lookup x = some .local)) → is.length = es.length → PGs X es (gNames is)
  | [], [], _, _ => pgs_nil
  | i :: is, e :: es, h, hl => by
    obtain ⟨x, p, e1, e2, e3, e4⟩ := h 0 i rfl
    cases e1
    refine pgs_cons (pg_name nd e2 e3 e4) (pgs_names nd (fun k j hk => ?_) (by simpa using hl)) rfl
    obtain ⟨x, p, e1, q⟩ := h (k + 1) j (by simpa using hk)
    exact ⟨x, p, by simpa using e1, q⟩
theorem names_each {env : PySem.Env} : ∀ {is : List Nat} {es : List Expr}, (∀ (k i : Nat), is[k]? = some i → ∃ x p, es[k]? = some (.Name x p)) → is.length = es.length → (assignEach es env).length = is.length ∧ (assignEach es env).findIdx? (·.1) = none
  | [], [], _, _ => ⟨rfl, rfl⟩
  | i :: is, e :: es, h, hl => by
    obtain ⟨x, p, e1⟩ := h 0 i rfl
    cases e1
    obtain ⟨a1, a2⟩ := names_each (env := env) (is := is) (es := es) (fun k j hk => by
      obtain ⟨x, p, e1⟩ := h (k + 1) j (by simpa using hk)
      exact ⟨x, p, by simpa using e1⟩) (by simpa using hl)
    refine ⟨congrArg (· + 1) a1, ?_⟩
    show List.findIdx? (·.1) ((false, assign (.Name x p) env) :: assignEach es env) = none
    rw [List.findIdx?_cons]
    simp [a2]
theorem pg_names {is : List Nat} {es : List Expr} {k : Nat} {p : Pos} (hK : X.K = F.K) (hc : X.calm = true) (nd : X.N.Nodup) (h : ∀ (k i : Nat), is[k]? = some i → ∃ x p, es[k]? = some (.Name x p) ∧ X.N[i]? = some x ∧ Loc X.env.scope x ∧ (X.fn x = true ∨ X.env.scope.names.lookup x = some .local)) (hl : is.length = es.length) :
    PG X (.Tuple es k p) (gT F.K (.tup is)) := by
  obtain ⟨a1, a2⟩ := names_each (env := X.env) (is := is) (es := es) (fun k i hk => by obtain ⟨x, p, e, _⟩ := h k i hk; exact ⟨x, p, e⟩) hl
  have := pg_tup (k := k) (pos := p) hc (pgs_names nd h hl) a1 a2
  rw [hK] at this
  exact this
theorem x_asgT {is : List Nat} {es : List Expr} {k : Nat} {p : Pos} (hg : PG X (.Tuple es k p) (gT F.K (.tup is))) (hp : plainX ea = true) (hl : notLc ea = true) (ht : swappedStores [.Tuple es k p] ea X.env = pure none) (ha : PE X ea (tE F Ew (evE C a))) :
    PS X (.Assign [.Tuple es k p] ea pos) (tS F Ew (evS C (.asgT is a))) :=
  (ps_asg ha hg (show swapsWith ea (some (.Tuple es k p)) pos.line X.env = pure false from swap_plain hp hl _ _) ht rfl).imp fun D σ H ⟨μ, L, ρ, st, R, RE, h⟩ => by
    rw [evS] at h
    refine in_S R RE h fun x v μ1 L1 H1 st1 e1 R1 RE1 r1 h1 => ?_
    cases q : tupI st1 x with
    | none => simp only [q] at h1; exact h1.elim
    | some ws =>
      simp only [q] at h1
      cases z : setTs is ws ρ with
      | none => simp only [z] at h1; exact h1.elim
      | some ρ' =>
        simp only [z] at h1
        obtain ⟨ad, ys, rfl, g1, g2⟩ := tupI_rep R1 r1 q
        refine ⟨ad, ys, rfl, SqT.of g1, by rw [repws_len g2, ← setTs_len z], names_ok (zs := []) is g2 z (RE1.toB _) fun σ2 h2 hw => Post.here R1 h1 σ2 h2.toE⟩

/-! ### o[i] = e -/
noncomputable def sDic : TSet := fun o i v H Q => ∃ a H', o = .ref a ∧ DPut H a i v H' ∧ Q H'
theorem set_dic (hu : X.A.units + 66 < cLine) : PSet X sDic := by
  intro pins s σ H o i v ov iv u Q I ro ri rv h
  obtain ⟨a, H', rfl, g, q⟩ := h
  cases ro
  exact d_setItem (by omega) I g ri rv fun s' I' => ⟨H', I', q⟩
noncomputable def sAny : TSet := fun o i v H Q => rSetL o i v H Q ∨ sDic o i v H Q
theorem set_any (hu : X.A.units + 66 < cLine) : PSet X sAny := by
  intro pins s σ H o i v ov iv u Q I ro ri rv h
  rcases h with h | h
  · exact set_list pins s σ H o i v ov iv u Q I ro ri rv h
  · exact set_dic hu pins s σ H o i v ov iv u Q I ro ri rv h
theorem repws_set {v : V} {w : W} : ∀ {vs : List V} {ws : List W} (k : Nat), RepWs F μ L H vs ws → RepW F μ L H v w → RepWs F μ L H (vs.set k v) (ws.set k w)
  | _, _, _, .nil, _ => .nil
  | _, _, 0, .cons _ t, r => .cons r t
  | _, _, k + 1, .cons r' t, r => .cons r' (repws_set k t r)
theorem repe_any {κ : Type} [DecidableEq κ] (k : κ) : ∀ {vs : List (κ × V)} {ws : List (κ × W)}, T.RepE F μ L H vs ws → (vs.any fun kv => decide (kv.1 = k)) = ws.any fun kv => decide (kv.1 = k)
  | _, _, .nil => rfl
  | _, _, .cons _ t => by rw [List.any_cons, List.any_cons, repe_any k t]
theorem repe_map {κ : Type} [DecidableEq κ] {v : V} {w : W} (k : κ) (r : RepW F μ L H v w) : ∀ {vs : List (κ × V)} {ws : List (κ × W)}, T.RepE F μ L H vs ws → T.RepE F μ L H (vs.map fun kv => if kv.1 = k then (kv.1, v) else kv) (ws.map fun kv => if kv.1 = k then (kv.1, w) else kv)
  | _, _, .nil => .nil
  | _, _, .cons (k := j) r' t => by
    rw [List.map_cons, List.map_cons]
    by_cases e : j = k
    · rw [if_pos e, if_pos e]; exact .cons r (repe_map k r t)
    · rw [if_neg e, if_neg e]; exact .cons r' (repe_map k r t)
theorem repe_app {κ : Type} : ∀ {vs us : List (κ × V)} {ws zs : List (κ × W)}, T.RepE F μ L H vs ws → T.RepE F μ L H us zs → T.RepE F μ L H (vs ++ us) (ws ++ zs)
  | _, _, _, _, .nil, s => s
  | _, _, _, _, .cons r t, s => .cons r (repe_app t s)
theorem repe_put {κ : Type} [DecidableEq κ] {v : V} {w : W} (k : κ) (r : RepW F μ L H v w) {vs : List (κ × V)} {ws : List (κ × W)} (h : T.RepE F μ L H vs ws) : T.RepE F μ L H (L2.putK vs k v) (T.putK ws k w) := by
  unfold L2.putK T.putK
  rw [repe_any k h]
  split
  · exact repe_map k r h
  · exact repe_app h (.cons r .nil)
theorem repe_len {κ : Type} : ∀ {vs : List (κ × V)} {ws : List (κ × W)}, T.RepE F μ L H vs ws → vs.length = ws.length
  | _, _, .nil => rfl
  | _, _, .cons _ t => congrArg (· + 1) (repe_len t)
theorem setW_ok (R : Rel F μ L H st) {vo vi vv : V} {o i v : W} {Q : Hp → Prop} (ro : RepW F μ L H vo o) (ri : RepW F μ L H vi i) (rv : RepW F μ L H vv v) (h : setW st o i v = some st') (q : ∀ H', Ext μ L H st μ L H' st' → Rel F μ L H' st' → Q H') : sAny vo vi vv H Q := by
  unfold setW at h
  split at h
  · rename_i n d
    cases ri with
    | p ri =>
    cases e : st[n]? with
    | none => rw [e] at h; cases h
    | some ob =>
      rw [e] at h
      cases ob with
      | dead => cases h
      | ldk _ => cases h
      | ldt _ => cases h
      | ins c fs => cases h
      | tup ws => cases h
      | lst ws =>
        cases ri <;> try (cases h; done)
        rename_i j
        obtain ⟨a, rfl, ha, ⟨vs, h1, h2⟩, _⟩ := R.thg ro e rfl
        simp only at h
        cases k : ixN ws.length j with
        | none => rw [k] at h; cases h
        | some kk =>
          rw [k] at h
          cases h
          obtain ⟨e', R'⟩ := set_lst (vs := vs) R e ha (repws_set kk h2 rv)
          exact .inl ⟨a, vs, j, kk, rfl, rfl, h1, by rw [repws_len h2]; exact k, q _ e' R'⟩
      | dic kvs =>
        obtain ⟨a, rfl, ha, ⟨vs, h1, h2⟩, _⟩ := R.thg ro e rfl
        simp only at h
        cases k : keyD d with
        | none => rw [k] at h; cases h
        | some kk =>
          rw [k, Option.bind_some] at h
          split at h
          · rename_i hz
            cases h
            have e' := Ext.set (u := .dK (L2.putK vs kk vv)) (o' := .dic (T.putK kvs kk v)) R e rfl ha
            have R' := Rel.set (u := .dK (L2.putK vs kk vv)) (o' := .dic (T.putK kvs kk v)) R e rfl ha ⟨_, upd_same, (repe_put kk rv h2).mono (e'.kp R) e'.pre⟩
            exact .inr ⟨a, _, rfl, .inl ⟨vs, kk, h1, key_v ri k, by rw [repe_len h2]; exact hz, rfl⟩, q _ e' R'⟩
          · cases h
      | dit kvs =>
        obtain ⟨a, rfl, ha, ⟨vs, h1, h2⟩, _⟩ := R.thg ro e rfl
        simp only at h
        cases k : keyTD d with
        | none => rw [k] at h; cases h
        | some kk =>
          rw [k, Option.bind_some] at h
          split at h
          · rename_i hz
            cases h
            obtain ⟨b, rfl, hb⟩ := keyT_v ri k
            have e' := Ext.set (u := .dT (L2.putK vs kk vv)) (o' := .dit (T.putK kvs kk v)) R e rfl ha
            have R' := Rel.set (u := .dT (L2.putK vs kk vv)) (o' := .dit (T.putK kvs kk v)) R e rfl ha ⟨_, upd_same, (repe_put kk rv h2).mono (e'.kp R) e'.pre⟩
            exact .inr ⟨a, _, rfl, .inr ⟨vs, kk, b, h1, rfl, hb, by rw [repe_len h2]; exact hz, rfl⟩, q _ e' R'⟩
          · cases h
  · cases h
theorem swapS {e t : Expr} {l : Nat} {env : PySem.Env} (h : ∀ x p, t ≠ .Name x p) : swapsWithSole [t] e l env = pure false := by
  show swapsWith e (some t) l env = pure false
  cases e <;> first
    | rfl
    | (cases t <;> first
        | rfl
        | exact absurd rfl (h _ _))
theorem swapT {e o i : Expr} {p : Pos} {env : PySem.Env} : swappedStores [.Subscript o i p] e env = pure none := by
  cases e <;> rfl
theorem x_asgI (hu : X.A.units + 66 < cLine) {p : Pos} (hx : plainX ec = true) (hv : PE X ea (tE F Ew (evE C a))) (ho : PE X eb (tE F Ew (evE C b))) (hi : PE X ec (tE F Ew (evE C c))) : PS X (.Assign [.Subscript eb ec p] ea pos) (tS F Ew (evS C (.asgI b c a))) :=
  (ps_asg hv (pg_sub ho hi (set_any hu) (by intro v; cases ec <;> first | rfl | cases hx)) (swapS fun _ _ => nofun) swapT rfl).imp fun D σ H ⟨μ, L, ρ, st, R, RE, h⟩ => by
    rw [evS] at h
    refine in_S R RE h fun x v μ1 L1 H1 st1 e1 R1 RE1 r1 h1 => ?_
    refine in_S R1 RE1 h1 fun y u μ2 L2 H2 st2 e2 R2 RE2 r2 h2 => ?_
    refine in_S R2 RE2 h2 fun z t μ3 L3 H3 st3 e3 R3 RE3 r3 h3 => ?_
    cases q : setW st3 y z x with
    | none => simp only [q] at h3; exact h3.elim
    | some st' =>
      simp only [q] at h3
      exact setW_ok R3 (e3.wv R2 r2) r3 (e3.wv R2 (e2.wv R1 r1)) q fun H' e' R' => (Post.from e' h3) μ3 L3 H' .refl R' σ (e'.env R3 RE3)
theorem lookup_put (f : Str) : ∀ {vs : List (Str × V)} {ws : List (Str × W)} {v : V} {w : W}, T.RepE F μ L H vs ws → RepW F μ L H v w → T.RepE F μ L H (putF f v vs) (putFW f w ws)
  | _, _, _, _, .nil, r => .cons r .nil
  | _, _, _, _, .cons (k := j) r' t, r => by
    rw [putF, putFW]
    by_cases e : j = f
    · rw [if_pos e, if_pos e]; exact .cons r t
    · rw [if_neg e, if_neg e]; exact .cons r' (lookup_put f t r)
theorem x_asgF (cid : Nat) {f : Str} {p : Pos} (hK : X.K = F.K) (hc : Cls F.K (F.Cl cid)) (hn : NoAttr F.K (F.Cl cid) f) (hv : PE X ea (tE F Ew (evE C a))) (ho : PE X eb (tE F Ew (evE C b))) : PS X (.Assign [.Attribute eb f p] ea pos) (tS F Ew (evS C (.asgF cid b f a))) :=
  (ps_fld ho hv (show swapsWithSole [.Attribute eb f p] ea pos.line X.env = pure false from swapS fun _ _ => nofun)).imp fun D σ H ⟨μ, L, ρ, st, R, RE, h⟩ => by
    rw [evS] at h
    refine in_S R RE h fun x v μ1 L1 H1 st1 e1 R1 RE1 r1 h1 => ?_
    refine in_S R1 RE1 h1 fun y u μ2 L2 H2 st2 e2 R2 RE2 r2 h2 => ?_
    rw [hK]
    cases y with
    | p d => exact h2.elim
    | r n =>
      cases q : st2[n]? with
      | none => simp only [setF, q] at h2; exact h2.elim
      | some o =>
        cases o with
        | ins c' fs =>
          simp only [setF, q] at h2
          split at h2
          · rename_i st' hz
            split at hz
            · rename_i z
              cases hz
              obtain ⟨rfl, z2⟩ := z
              obtain ⟨a, rfl, ha, ⟨dx, vs, g1, g2⟩, _⟩ := R2.thg r2 q rfl
              have r1' := e2.wv R1 r1
              have e' := Ext.set (u := .ins (F.Cl c') dx (putF f v vs)) (o' := .ins c' (putFW f x fs)) R2 q rfl ha
              have R' := Rel.set (u := .ins (F.Cl c') dx (putF f v vs)) (o' := .ins c' (putFW f x fs)) R2 q rfl ha ⟨dx, _, upd_same, (lookup_put f g2 r1').mono (e'.kp R2) e'.pre⟩
              exact ⟨a, _, dx, vs, rfl, g1, hc, hn, by rw [repe_len g2]; exact z2, (Post.from e' h2) μ2 L2 _ .refl R' σ (e'.env R2 RE2)⟩
            · cases hz
          · exact h2.elim
        | _ => simp only [setF, q] at h2; exact h2.elim

/-! ### return, if, while, for -/
theorem x_ret (ha : PE X ea (tE F Ew (evE C a))) : PS X (.Return (some ea) pos) (tS F Ew (evS C (.ret a))) :=
  (ps_ret ha).imp fun D σ H ⟨μ, L, ρ, st, R, RE, h⟩ => by
    rw [evS] at h
    exact in_S R RE h fun x v μ1 L1 H1 st1 e1 R1 RE1 r1 h1 => Post.here R1 h1 v r1
theorem x_retN : PS X (.Return none pos) (tS F Ew (evS C .retN)) :=
  ps_retN.imp fun D σ H ⟨μ, L, ρ, st, R, RE, h⟩ => by
    rw [evS] at h
    exact Post.here R h _ (.p .non)
theorem x_brk : PS X (.Break pos) (tS F Ew (evS C .brk)) :=
  ps_break.imp fun D σ H ⟨μ, L, ρ, st, R, RE, h⟩ => by
    rw [evS] at h
    exact Post.here R h σ RE
theorem x_cnt : PS X (.Continue pos) (tS F Ew (evS C .cnt)) :=
  ps_continue.imp fun D σ H ⟨μ, L, ρ, st, R, RE, h⟩ => by
    rw [evS] at h
    exact Post.here R h σ RE
theorem x_pas : PS X (.Pass pos) (tS F Ew (evS C .pas)) :=
  ps_pass.imp fun D σ H ⟨μ, L, ρ, st, R, RE, h⟩ => by
    rw [evS] at h
    exact Post.here R h σ RE
theorem x_ifs {sa sb : Sms} {pa pb : List Stmt} (hc : PT X ec (tT F Ew (evT C c))) (ha : PSs X pa (tS F Ew (evSs C sa))) (hb : PSs X pb (tS F Ew (evSs C sb))) : PS X (.If ec pa pb pos) (tS F Ew (evS C (.ifs c sa sb))) :=
  (ps_if hc ha hb).imp fun D σ H ⟨μ, L, ρ, st, R, RE, h⟩ => by
    rw [evS] at h
    refine in_T R RE h fun k μ1 L1 H1 st1 e1 R1 RE1 h1 => ?_
    cases k with
    | true => exact ⟨μ1, L1, ρ, st1, R1, RE1, h1⟩
    | false => exact ⟨μ1, L1, ρ, st1, R1, RE1, h1⟩
theorem x_whl {sb : Sms} {pb : List Stmt} (own : PassesOwn (model X.prog X.w) X.A X.env X.xe) (hc : PT X ec (tT F Ew (evT C c))) (hb : PSs X pb (tS F Ew (evSs C sb))) : PS X (.While ec pb [] pos) (tS F Ew (evS C (.whl c sb))) :=
  (ps_while own hc hb).imp fun D σ H ⟨μ, L, ρ, st, R, RE, h⟩ => by
    rw [evS] at h
    refine ⟨fun k σ H => ∃ μ L ρ st, Rel F μ L H st ∧ RelE F μ L H σ ρ ∧ Post F Ew μ L H st (whlLoop (evT C c) (evSs C sb) k ρ st) (QD F D), ⟨fuel, μ, L, ρ, st, R, RE, h⟩, ?_⟩
    rintro k σ H ⟨μ, L, ρ, st, R, RE, h⟩
    cases k with
    | zero => exact h.elim
    | succ k =>
      rw [whlLoop] at h
      refine in_T R RE h fun t μ1 L1 H1 st1 e1 R1 RE1 h1 => ?_
      cases t with
      | false => exact Post.here R1 h1 σ RE1
      | true =>
        rw [if_pos rfl] at h1 ⊢
        refine ⟨fun σ' H' => ∃ μ L ρ st, Rel F μ L H' st ∧ RelE F μ L H' σ' ρ ∧ Post F Ew μ L H' st (whlLoop (evT C c) (evSs C sb) k ρ st) (QD F D), fun σ' H' hw => ⟨k, Nat.lt_succ_self k, hw⟩, ?_⟩
        refine ⟨μ1, L1, ρ, st1, R1, RE1, h1.bind.mono fun o μ2 L2 H2 st2 e2 R2 q => ?_⟩
        obtain ⟨f, ρ2⟩ := o
        cases f with
        | nx => exact fun σ2 RE2 => ⟨μ2, L2, ρ2, st2, R2, RE2, q⟩
        | ct => exact fun σ2 RE2 => ⟨μ2, L2, ρ2, st2, R2, RE2, q⟩
        | bk => exact post_now (Ew := Ew) R2 q
        | rt w => exact post_now (Ew := Ew) R2 q
/-- what comes of walking, told by where the walk begins -/
noncomputable def forV (C : Call) (tg : Tg) (sb : Sms) (ρ : Nv) (st : Sto) : Itv → Res (Flow × Nv)
  | .fix ws => forLoop (fun x ρ st => match bindT tg x ρ with
      | some ρ' => evSs C sb ρ' st
      | none => .err) ws ρ st
  | .dyn n => dynLoop (fun x ρ st => match bindT tg x ρ with
      | some ρ' => evSs C sb ρ' st
      | none => .err) n fuel 0 ρ st
noncomputable def ForR (F : Fx) (Ew : XK) (C : Call) (tg : Tg) (sb : Sms) (D : Ends) (σ : L2.St) (H1 : Hp) (J : L2.It) : Prop := ∃ W : Nat → Nat → L2.St → Hp → Prop, (∃ m, W 0 m σ H1) ∧ ∀ i m σ H, W i m σ H →
  (J.stop i H ∧ D.nx σ H) ∨ (J.go i H ∧ ∃ N : L2.St → Hp → Prop, (∀ σ' H', N σ' H' → ∃ m', m' < m ∧ W (i + 1) m' σ' H') ∧ ∀ x H', J.yld i H x H' → gT F.K tg x σ H' fun σ2 H2 => tS F Ew (evSs C sb) { D with nx := N, ct := N, bk := D.nx } σ2 H2)
theorem for_read {tg : Tg} {sb : Sms} {v : Itv} {J : L2.It} {μ1 : List Addr} {L1 : Addr → Prop} {H1 : Hp} {st1 : Sto} (hJ : ItOk F μ1 L1 H1 st1 v J) (R1 : Rel F μ1 L1 H1 st1) (RE1 : RelE F μ1 L1 H1 σ ρ) (h1 : Post F Ew μ1 L1 H1 st1 (forV C tg sb ρ st1 v) (QD F D)) : ForR F Ew C tg sb D σ H1 J := by
    unfold ForR
    unfold forV at h1
    cases v with
    | fix ws =>
      refine ⟨fun i m' σ H => m' = ws.length - i ∧ i ≤ ws.length ∧ ∃ μ L ρ st, Ext μ1 L1 H1 st1 μ L H st ∧ Rel F μ L H st ∧ RelE F μ L H σ ρ ∧ Post F Ew μ L H st (forLoop (fun x ρ st => match bindT tg x ρ with
          | some ρ' => evSs C sb ρ' st
          | none => .err) (ws.drop i) ρ st) (QD F D), ⟨ws.length, by simp, Nat.zero_le _, μ1, L1, ρ, st1, .refl, R1, RE1, h1⟩, ?_⟩
      rintro i m' σ2 H2 ⟨rfl, hi, μ2, Lb, ρ2, st2, e2, R2, RE2, h2⟩
      obtain ⟨w1, w2⟩ := hJ i μ2 Lb H2 st2 e2 R2
      by_cases hlt : i < ws.length
      · right
        obtain ⟨go, yl⟩ := w1 _ (List.getElem?_eq_getElem hlt)
        refine ⟨go, fun σ' H' => (ws.length - (i + 1) = ws.length - (i + 1) ∧ i + 1 ≤ ws.length ∧ ∃ μ L ρ st, Ext μ1 L1 H1 st1 μ L H' st ∧ Rel F μ L H' st ∧ RelE F μ L H' σ' ρ ∧ Post F Ew μ L H' st (forLoop (fun x ρ st => match bindT tg x ρ with
          | some ρ' => evSs C sb ρ' st
          | none => .err) (ws.drop (i + 1)) ρ st) (QD F D)), fun σ' H' hw => ⟨ws.length - (i + 1), by omega, hw⟩, fun x H3 hy => ?_⟩
        obtain ⟨L3, e3, R3, rx⟩ := yl x H3 hy
        rw [List.drop_eq_getElem_cons hlt, forLoop] at h2
        cases q1 : bindT tg ws[i] ρ2 with
        | none => simp only [q1] at h2; exact h2.elim
        | some ρ' =>
          simp only [q1] at h2
          refine bind_ok' F.K rfl ((e3.env R2 RE2).toB _) rx q1 fun σ3 RE3 _ => ?_
          refine ⟨μ2, L3, ρ', st2, R3, RE3, (Post.from e3 h2).bind.mono fun o μ4 L4 H4 st4 e4 R4 q => ?_⟩
          obtain ⟨f, ρ4⟩ := o
          cases f with
          | nx => exact fun σ4 RE4 => ⟨rfl, hlt, μ4, L4, ρ4, st4, (e2.trans e3).trans e4, R4, RE4, q⟩
          | ct => exact fun σ4 RE4 => ⟨rfl, hlt, μ4, L4, ρ4, st4, (e2.trans e3).trans e4, R4, RE4, q⟩
          | bk => exact post_now (Ew := Ew) R4 q
          | rt w => exact post_now (Ew := Ew) R4 q
      · left
        have hi' : i = ws.length := by omega
        subst hi'
        rw [List.drop_length, forLoop] at h2
        exact ⟨w2 (Nat.le_refl _), Post.here R2 h2 σ2 RE2⟩
    | dyn n =>
      obtain ⟨a, ha, rfl⟩ := hJ
      refine ⟨fun i m' σ H => ∃ μ L ρ st, Ext μ1 L1 H1 st1 μ L H st ∧ Rel F μ L H st ∧ RelE F μ L H σ ρ ∧ Post F Ew μ L H st (dynLoop (fun x ρ st => match bindT tg x ρ with
          | some ρ' => evSs C sb ρ' st
          | none => .err) n m' i ρ st) (QD F D), ⟨fuel, μ1, L1, ρ, st1, .refl, R1, RE1, h1⟩, ?_⟩
      rintro i m' σ2 H2 ⟨μ2, Lb, ρ2, st2, e2, R2, RE2, h2⟩
      cases m' with
      | zero => exact h2.elim
      | succ m' =>
        rw [dynLoop] at h2
        cases q0 : st2[n]? with
        | none => simp only [q0] at h2; exact h2.elim
        | some o =>
          cases o with
          | lst ws =>
            simp only [q0] at h2
            obtain ⟨a', e', ha', ⟨vs, g1, g2⟩, _⟩ := R2.thg (v := .ref a) (.r (e2.pre n a ha)) q0 rfl
            cases e'
            cases q : ws[i]? with
            | none =>
              simp only [q] at h2
              have hl := List.getElem?_eq_none_iff.mp q
              exact .inl ⟨⟨vs, SqL.of g1, by rw [repws_len g2]; exact hl⟩, Post.here R2 h2 σ2 RE2⟩
            | some w =>
              simp only [q] at h2
              right
              obtain ⟨v, e1', e2'⟩ := get_ws g2 q
              refine ⟨⟨vs, v, SqL.of g1, e1'⟩, fun σ' H' => ∃ μ L ρ st, Ext μ1 L1 H1 st1 μ L H' st ∧ Rel F μ L H' st ∧ RelE F μ L H' σ' ρ ∧ Post F Ew μ L H' st (dynLoop (fun x ρ st => match bindT tg x ρ with
                | some ρ' => evSs C sb ρ' st
                | none => .err) n m' (i + 1) ρ st) (QD F D), fun σ' H' hw => ⟨m', Nat.lt_succ_self _, hw⟩, fun x H3 hy => ?_⟩
              obtain ⟨eH, hy⟩ := hy
              subst eH
              have := hy vs (SqL.of g1)
              rw [e1'] at this; cases this
              cases q1 : bindT tg w ρ2 with
              | none => simp only [q1] at h2; exact h2.elim
              | some ρ' =>
                simp only [q1] at h2
                refine bind_ok' F.K rfl (RE2.toB _) e2' q1 fun σ3 RE3 _ => ?_
                refine ⟨μ2, Lb, ρ', st2, R2, RE3, h2.bind.mono fun o μ4 L4 H4 st4 e4 R4 q => ?_⟩
                obtain ⟨f, ρ4⟩ := o
                cases f with
                | nx => exact fun σ4 RE4 => ⟨μ4, L4, ρ4, st4, e2.trans e4, R4, RE4, q⟩
                | ct => exact fun σ4 RE4 => ⟨μ4, L4, ρ4, st4, e2.trans e4, R4, RE4, q⟩
                | bk => exact post_now (Ew := Ew) R4 q
                | rt w => exact post_now (Ew := Ew) R4 q
          | _ => simp only [q0] at h2; exact h2.elim
theorem x_for {tg : Tg} {et ei : Expr} {it : Iter} {sb : Sms} {pb : List Stmt} (hc : X.calm = true) (own : PassesOwn (model X.prog X.w) X.A X.env X.xe) (hp : plainX ei = true) (hi : PI X et ei (tI F Ew (evI C it))) (hg : PG X et (gT F.K tg)) (hb : PSs X pb (tS F Ew (evSs C sb))) :
    PS X (.For et ei pb [] pos) (tS F Ew (evS C (.forr tg it sb))) :=
  (ps_for own hc hi hg hb (fold_plain hp)).imp fun D σ H ⟨μ, L, ρ, st, R, RE, h⟩ => by
    rw [evS] at h
    refine ⟨μ, L, ρ, st, R, RE, h.bind.mono fun v μ1 L1 H1 st1 e1 R1 h1 J hJ => ?_⟩
    refine for_read hJ R1 (e1.env R RE) ?_
    cases v <;> exact h1
theorem x_rai (cid : Nat) {e : Expr} (hc : X.calm = true) (tk : Takes X (fun cls d _ H => Ew cls d H)) (he : PMk X e (fun _ H Q => Q (.ref (F.Cl cid)) none H)) : PS X (.Raise (some e) none pos) (tS F Ew (evS C (.rai cid))) :=
  (ps_raise hc tk he).imp fun D σ H ⟨μ, L, ρ, st, R, RE, h⟩ => by
    rw [evS] at h
    exact h μ L H .refl R
end
end T

set_option maxRecDepth 100000
set_option maxHeartbeats 4000000
/-! T: written dicts of the top, zip of a text and a tuple, xs[::-1], index, tuples that hold things -/
namespace T
open PySem L2
/-! ### a written dict with text keys -/
inductive EntsAre (F : Fx) : List DictEntry → List (Str × D) → Prop where
  | nil : EntsAre F [] []
  | cons {e : DictEntry} {es : List DictEntry} {x : Str} {d : D} {kvs : List (Str × D)} {t : Tok} {v : V} : e.key = .str x t → RelV v e.val → (∀ L H, RepD F L H v d) → EntsAre F es kvs → EntsAre F (e :: es) ((x, d) :: kvs)
noncomputable def DctIs (F : Fx) (P : Params) (p : Addr) (kvs : List (Str × D)) : Prop :=
  ∃ es n, F.K.lookup p = some ⟨.type "dict", none, .dict es n, #[]⟩ ∧ PySem.W.KeysLit P es.toList ∧ (p == sysModules) = false ∧ EntsAre F es.toList kvs
theorem EntsAre.length {F : Fx} : ∀ {es : List DictEntry} {kvs : List (Str × D)}, EntsAre F es kvs → es.length = kvs.length
  | _, _, .nil => rfl
  | _, _, .cons _ _ _ t => congrArg (· + 1) t.length
theorem EntsAre.get {F : Fx} : ∀ {es : List DictEntry} {kvs : List (Str × D)} {i : Nat} {kv : Str × D}, EntsAre F es kvs → kvs[i]? = some kv → ∃ e t, es[i]? = some e ∧ e.key = .str kv.1 t
  | _, _, i, _, .nil, h => by simp at h
  | _, _, 0, _, .cons k _ _ _, h => by
    simp at h
    subst h
    exact ⟨_, _, rfl, k⟩
  | _, _, i + 1, _, .cons _ _ _ t, h => by
    obtain ⟨e, u, h1, h2⟩ := t.get (i := i) (by simpa using h)
    exact ⟨e, u, by simpa using h1, h2⟩
theorem EntsAre.find {F : Fx} {z : Str} {d : D} : ∀ {es : List DictEntry} {kvs : List (Str × D)}, EntsAre F es kvs → (kvs.find? fun kv => decide (kv.1 = z)).map (·.2) = some d → ∃ e v, es.find? (·.key.isStr z) = some e ∧ RelV v e.val ∧ ∀ L H, RepD F L H v d
  | _, _, .nil, h => by simp at h
  | _, _, .cons (e := e) (x := x) k r q t, h => by
    by_cases hz : x = z
    · subst hz
      simp only [List.find?_cons, decide_true, Option.map_some, Option.some.injEq] at h
      subst h
      refine ⟨e, _, ?_, r, q⟩
      rw [List.find?_cons_of_pos]
      rw [k]
      exact beq_self_eq_true x
    · rw [List.find?_cons_of_neg (by simpa using hz)] at h
      obtain ⟨e', v, h1, h2⟩ := t.find h
      refine ⟨e', v, ?_, h2⟩
      rw [List.find?_cons_of_neg, h1]
      rw [k]
      show ¬ ((x == z) = true)
      simpa using hz
theorem DctIs.get {F : Fx} {P : Params} {p : Addr} {kvs : List (Str × D)} (h : DctIs F P p kvs) {w : World} (hw : w.params = P) {z : Str} {d : D} (e : (kvs.find? fun kv => decide (kv.1 = z)).map (·.2) = some d) : ∃ v, KDct F.K w p z v ∧ ∀ L H, RepD F L H v d := by
  obtain ⟨es, n, h1, h2, h3, h4⟩ := h
  obtain ⟨en, v, e1, r, q⟩ := h4.find e
  subst hw
  refine ⟨v, ⟨es, n, en.val, h1, h2, ?_, r⟩, q⟩
  unfold PySem.W.nsIn
  rw [h1]
  dsimp only
  rw [e1]
section
variable {F : Fx} {Ew : XK} {X : Cx} {C : Call} {a b c : Ex} {ea eb ec tg : Expr} {pos : Pos} {μ μ' : List Addr} {L L' : Addr → Prop} {H H' : Hp} {st st' : Sto} {G : VK}
theorem s_gdx {x : Str} {p : Pos} {q : Addr} {kvs : List (Str × D)} (hK : X.K = F.K) (hg : Gl X x) (hm : X.mg x = some (.ref q)) (hd : (x == ("__debug__" : Str)) = false) (h : DctIs F X.w.params q kvs) (hs : PlainIx eb) (hb : PE X eb (tE F Ew (evE C b))) :
    PE X (.Subscript (.Name x p) eb pos) (tE F Ew (evE C (.gdx x kvs b))) :=
  (pe_ix ix_kdict (pe_glob (v := .ref q) hg hm rfl hd) hb hs).imp fun σ H Q ⟨μ, L, ρ, st, R, RE, h1⟩ => by
    rw [evE] at h1
    refine in_E R RE h1 fun y u μ1 L1 H1 st1 e1 R1 RE1 r1 h1 => ?_
    cases r1 with
    | r m => exact h1.elim
    | p r =>
      cases r <;> try (exact h1.elim)
      rename_i z
      simp only at h1
      cases e : (kvs.find? fun kv => decide (kv.1 = z)).map (·.2) with
      | none => rw [e] at h1; exact h1.elim
      | some d =>
        rw [e] at h1
        obtain ⟨v, k, r⟩ := h.get rfl e
        exact ⟨q, z, v, rfl, rfl, by rw [hK]; exact k, Post.here R1 h1 _ (.p (r _ _))⟩
noncomputable def Itw (ks : List Str) : L2.It := ⟨fun i _ => i < ks.length, fun i H x H' => H' = H ∧ ∃ k, ks[i]? = some k ∧ x = .str k, fun i _ => ks.length ≤ i⟩
theorem turn_w {P : Program} {w : World} {K : PySem.W.Frag} {F : Fx} {tg : Expr} {d : Addr} {es : Array DictEntry} {n : Nat} {kvs : List (Str × D)} (it : Addr) (hl : K.lookup d = some ⟨.type "dict", none, .dict es n, #[]⟩) (he : EntsAre F es.toList kvs) :
    Turn P w K tg (Itw (kvs.map (·.1))) [it] it (fun i h => h.IsKeyIter it d i kvs.length n) where
  mem := by simp
  obj := fun i h st b hb => by
    have e : b = it := by simpa using hb
    subst e
    obtain ⟨oi, e, _, dd⟩ := st
    exact ⟨oi, e, fun v z => by rw [dd] at z; cases z⟩
  keep := fun i h h' st k => by
    obtain ⟨oi, e, x, y⟩ := st
    exact ⟨oi, k it (by simp) _ e, x, y⟩
  item := by
    intro X hP hw hK hc i pins s σ H E I hf st hi
    subst hP hw hK
    have hlen := he.length
    rw [Array.length_toList] at hlen
    have hi : i < (kvs.map (·.1)).length := hi
    rw [List.length_map] at hi
    obtain ⟨f0, f1, f2, f3, f4, f5⟩ := hf it (by simp)
    obtain ⟨en, t, g1, g2⟩ := he.get (List.getElem?_eq_getElem hi)
    refine next_key_item st (I.kIn _ _ hl) rfl hlen (by rw [← Array.getElem?_toList]; exact g1) fun h' st' sb => ?_
    have I1 : Inv X pins σ H { s with heap := h' } := I.turned (t' := s.toks) (fun b ob hb e => (sb.2 b hb).trans e) f0 f1 f3 f4 f5
    obtain ⟨oi, e, cc, dd⟩ := id st'
    exact ⟨en.key, rfl, go_of (s := { s with heap := h' }) e cc dd (by decide) ⟨.str kvs[i].1, H, I1, by rw [g2]; exact ⟨t, rfl⟩, ⟨rfl, _, by rw [List.getElem?_map, List.getElem?_eq_getElem hi]; rfl, rfl⟩, st', fun b hb => (hf b hb).1⟩⟩
  done := by
    intro X hP hw hK hc i pins s σ H E I hf st hi
    subst hP hw hK
    have hlen := he.length
    rw [Array.length_toList] at hlen
    have hi : (kvs.map (·.1)).length ≤ i := hi
    rw [List.length_map] at hi
    obtain ⟨f0, f1, f2, f3, f4, f5⟩ := hf it (by simp)
    exact next_key_end (I.ok.hd hc) st (I.kIn _ _ hl) rfl hlen hi fun h' eb => ⟨rfl, I.turned (t' := s.toks) (fun b ob hb e => eb b ob hb e) f0 f1 f3 f4 f5⟩
  self := fun A i s Q E st h => wpAny_pyIter_keyiter st h
theorem walks_strs {ks : List Str} : Walks F μ L H st (ks.map fun k => W.p (.str k)) (Itw ks) := by
  intro i μ' L' H' st' e R
  refine ⟨fun w hw => ?_, fun hi => by show ks.length ≤ i; simpa using hi⟩
  rw [List.getElem?_map] at hw
  cases q : ks[i]? with
  | none => rw [q] at hw; cases hw
  | some k =>
    rw [q] at hw
    cases hw
    refine ⟨(List.getElem?_eq_some_iff.mp q).1, fun x H'' ⟨eH, k', e1, e2⟩ => ?_⟩
    rw [q] at e1
    cases e1
    subst eH e2
    exact ⟨L', .refl, R, .p (.str _)⟩
theorem i_gks {x : Str} {p : Pos} {q : Addr} {kvs : List (Str × D)} (hK : X.K = F.K) (hg : Gl X x) (hm : X.mg x = some (.ref q)) (hd : (x == ("__debug__" : Str)) = false) (h : DctIs F X.w.params q kvs) : PI X tg (.Name x p) (tI F Ew (evI C (.gks x kvs))) := by
  obtain ⟨es, n, h1, h2, h3, h4⟩ := h
  refine ⟨fun pins s σ H R I ⟨μ, L, ρ, st, R0, RE, h⟩ => ?_⟩
  rw [evI] at h
  have h : R (Itw (kvs.map (·.1))) H := Post.here R0 h _ (by
    have := walks_strs (F := F) (μ := μ) (L := L) (H := H) (st := st) (ks := kvs.map (·.1))
    rw [List.map_map] at this
    exact this)
  refine thn ((pe_glob (v := .ref q) (pos := p) hg hm rfl hd).run pins s σ H (fun v H1 => v = .ref q ∧ H1 = H) I ⟨rfl, rfl⟩) fun u s1 ⟨y, H1, I1, r1, e1, e2⟩ => ?_
  subst e1 e2
  cases r1
  have hl : es.size = kvs.length := by rw [← Array.length_toList]; exact h4.length
  refine iter_keys h3 (I1.kIn _ _ (by rw [hK]; exact h1)) ⟨rfl, rfl, rfl⟩ rfl (pi_one (tk := s1.toks) I1 _ (turn_w (kvs := kvs) (n := n) _ (by rw [hK]; exact h1) h4) ⟨_, Heap.get?_push_size _ rfl, rfl, ?_⟩ h)
  rw [hl] <;> rfl

/-! ### zip of a text and a tuple -/
noncomputable def Itzs (K : PySem.W.Frag) (z : Str) (b : Addr) (ys : List V) : L2.It :=
  ⟨fun i H => SqT K H b ys ∧ i < z.cps.size ∧ i < ys.length,
    fun i H v H' => ∃ T y c, v = .ref T ∧ H T = none ∧ H' = upd H T (.tup [.str ⟨#[c]⟩, y]) ∧ z.cps[i]? = some c ∧ ys[i]? = some y,
    fun i H => SqT K H b ys ∧ (z.cps.size ≤ i ∨ ys.length ≤ i)⟩
theorem sep_of {z TI TO i1 i2 b : Addr} (h1 : TI ≠ z) (h2 : TO ≠ z) (h3 : TI ≠ TO) (h4 : TI ≠ i1) (h5 : TI ≠ i2) (h6 : z ≠ i1) (h7 : z ≠ i2) (h8 : z ≠ b) (h9 : TO ≠ i1) (h10 : TO ≠ i2) (h11 : TO ≠ b) (h12 : i1 ≠ i2) (h13 : i1 ≠ b) : ZipSep2 z TI TO i1 i2 [i1] [i2, b] where
  TIz := h1
  TOz := h2
  TITO := h3
  TIi1 := h4
  mem1 := by simp
  zf1 := by simpa using h6
  Tf1 := by simpa using h9
  TIi2 := h5
  mem2 := by simp
  zf2 := by simp only [List.mem_cons, List.not_mem_nil, or_false, not_or]; exact ⟨h7, h8⟩
  Tf2 := by simp only [List.mem_cons, List.not_mem_nil, or_false, not_or]; exact ⟨h10, h11⟩
  sep1_2 := by simp only [List.mem_cons, List.not_mem_nil, or_false, not_or]; exact ⟨h12, h13⟩
  sep2_1 := by simp only [List.mem_cons, List.not_mem_nil, or_false]; exact fun q => h12 q.symm
theorem turn_zs {P : Program} {w : World} {K : PySem.W.Frag} {elts : List Expr} {kk : Nat} {tpos : Pos} {z : Str} {t : Tok} {ys : List V} {b q TI TO i1 i2 : Addr} (S : ZipSep2 q TI TO i1 i2 [i1] [i2, b]) (hb : b ≠ i2) :
    Turn P w K (.Tuple elts kk tpos) (Itzs K z b ys) [q, TI, TO, i1, i2] q
      (fun i h => (IsZip h q TI TO .none ∧ IsTupOf2 h TI (.ref i1) (.ref i2) ∧ (∃ x y, IsTupOf2 h TO x y) ∧ h.IsStrIter i1 (strIterType z) z t i ∧ h.IsTupleIter i2 b i) ∧ i ≤ z.cps.size ∧ i ≤ ys.length) where
  mem := by simp
  obj := fun i h st c hc => by
    obtain ⟨⟨hz, hTI, ⟨x, y, hTO⟩, ⟨o1, e1, _, d1⟩, ⟨o2, e2, _, d2⟩⟩, _⟩ := st
    have e' : c = q ∨ c = TI ∨ c = TO ∨ c = i1 ∨ c = i2 := by simpa using hc
    rcases e' with e | e | e | e | e
    · subst e; exact ⟨_, hz, fun v y => nomatch y⟩
    · subst e; exact ⟨_, hTI, fun v y => nomatch y⟩
    · subst e; exact ⟨_, hTO, fun v y => nomatch y⟩
    · subst e; exact ⟨o1, e1, fun v y => by rw [d1] at y; cases y⟩
    · subst e; exact ⟨o2, e2, fun v y => by rw [d2] at y; cases y⟩
  keep := fun i h h' st k => by
    obtain ⟨⟨hz, hTI, ⟨x, y, hTO⟩, ⟨o1, e1, x1, d1⟩, ⟨o2, e2, x2, d2⟩⟩, l⟩ := st
    exact ⟨⟨k q (by simp) _ hz, k TI (by simp) _ hTI, ⟨x, y, k TO (by simp) _ hTO⟩, ⟨o1, k i1 (by simp) _ e1, x1, d1⟩, ⟨o2, k i2 (by simp) _ e2, x2, d2⟩⟩, l⟩
  item := by
    intro X hP hw hK hc i pins s σ H E I hf st hg
    subst hP hw hK
    obtain ⟨⟨hz, hTI, ⟨x0, y0, hTO⟩, h1, h2⟩, _⟩ := st
    obtain ⟨hqy, l1, l2⟩ := hg
    obtain ⟨its, rv, p2, _⟩ := I.tuple hqy
    have hit : s.heap.IsTuple b its.toArray := p2
    have hlen := rv.length
    have hd : X.A.in1.handled = none := I.ok.hd hc
    have hzl : q < s.heap.objs.size := Heap.lt_size hz
    refine wpAny_pyNext_zipD2_item S (Draws.text hd i1 z t) (Draws.tuple hd i2 b hb its.toArray) hz hTI hTO h1 ⟨h2, hit⟩ l1 (by rw [List.size_toArray]; omega) fun x1 x2 h' tk k1 k2 z' TO' st1 st2 hT hsz hk => ?_
    obtain ⟨c, u1, hc1, rfl⟩ := k1
    have hy : ys[i]? = some ys[i] := List.getElem?_eq_getElem l2
    obtain ⟨u2, hu2, ru2⟩ := rv.get hy
    have e2 : x2 = u2 := by
      have k2 : its.toArray[i]? = some x2 := k2
      rw [List.getElem?_toArray, hu2] at k2
      exact (Option.some.inj k2).symm
    subst e2
    refine ⟨_, rfl, wpAny_letOwnedTupleGo_zip (s := { s with heap := h', toks := tk }) z' fun h'' z'' sb => ?_⟩
    have hT2 : h''.get? s.heap.objs.size = some { cls := .type "tuple", data := .seq #[.str ⟨#[c]⟩ u1, x2] } := (sb.2 _ (Nat.ne_of_gt hzl)).trans hT
    have new : ObjOk X.prog X.w (upd H s.heap.objs.size (.tup [.str ⟨#[c]⟩, ys[i]])) h'' s.heap.objs.size (.tup [.str ⟨#[c]⟩, ys[i]]) :=
      ⟨by show 2 ≤ sizeLine; decide, [.str ⟨#[c]⟩ u1, x2], .cons ⟨u1, rfl⟩ (.cons ru2 .nil), ⟨_, hT2, rfl, _, rfl⟩⟩
    have away : ∀ c' o, c' ∉ [q, TI, TO, i1, i2] → s.heap.get? c' = some o → h''.get? c' = some o := fun c' o hn e => by
      simp only [List.mem_cons, List.not_mem_nil, or_false, not_or] at hn
      exact (sb.2 _ hn.1).trans (hk c' o hn.1 hn.2.2.1 hn.2.2.2.1 hn.2.2.2.2 e)
    have I1 : Inv X pins σ (upd H s.heap.objs.size (.tup [.str ⟨#[c]⟩, ys[i]])) { s with heap := h'', toks := tk } := I.turnedNew (t' := tk) (ch := [q, TI, TO, i1, i2]) away hf (Nat.le_refl _) new
    have ext : ∀ a o, a ≠ q → h'.get? a = some o → h''.get? a = some o := fun a o hn e => (sb.2 _ hn).trans e
    obtain ⟨o1, e1, y1, d1⟩ := st1
    obtain ⟨⟨o2, e2, y2, d2⟩, _⟩ := st2
    refine ⟨.ref s.heap.objs.size, _, I1, rfl, ⟨_, _, c, rfl, I.hok.fresh (Nat.le_refl _), rfl, hc1, hy⟩, ⟨⟨z'', ext _ _ S.TIz (hk _ _ S.TIz S.TITO S.TIi1 S.TIi2 hTI), ⟨_, _, ext _ _ S.TOz TO'⟩, ⟨o1, ext _ _ S.zi1.symm e1, y1, d1⟩, ⟨o2, ext _ _ S.zi2.symm e2, y2, d2⟩⟩, l1, l2⟩, fun c' hcm => ?_⟩
    have hlt : c' < s.heap.objs.size := by
      have e' : c' = q ∨ c' = TI ∨ c' = TO ∨ c' = i1 ∨ c' = i2 := by simpa using hcm
      rcases e' with e | e | e | e | e
      · subst e; exact hzl
      · subst e; exact Heap.lt_size hTI
      · subst e; exact Heap.lt_size hTO
      · subst e; obtain ⟨_, e, _⟩ := h1; exact Heap.lt_size e
      · subst e; obtain ⟨_, e, _⟩ := h2; exact Heap.lt_size e
    rw [upd_ne (Nat.ne_of_lt hlt)]
    exact (hf c' hcm).1
  done := by
    intro X hP hw hK hc i pins s σ H E I hf st hg
    subst hP hw hK
    obtain ⟨⟨hz, hTI, ⟨x0, y0, hTO⟩, h1, h2⟩, l1, l2⟩ := st
    obtain ⟨hqy, hend⟩ := hg
    have hend : z.cps.size ≤ i ∨ ys.length ≤ i := hend
    obtain ⟨its, rv, p2, _⟩ := I.tuple hqy
    have hit : s.heap.IsTuple b its.toArray := p2
    have hlen := rv.length
    have hd : X.A.in1.handled = none := I.ok.hd hc
    refine wpAny_pyNext_zipD2_end S (Draws.text hd i1 z t) (Draws.tuple hd i2 b hb its.toArray) hz hTI hTO h1 ⟨h2, hit⟩ l1 (by rw [List.size_toArray]; omega) (hend.elim (fun h => .inl (Nat.le_antisymm l1 h)) fun h => .inr (by rw [List.size_toArray]; omega)) fun h' tk hk => ⟨rfl, I.turnedL (t' := tk) (ch := [q, TI, TO, i1, i2]) (fun c o hn e => ?_) hf⟩
    simp only [List.mem_cons, List.not_mem_nil, or_false, not_or] at hn
    exact hk c o hn.1 hn.2.2.1 hn.2.2.2.1 hn.2.2.2.2 e
  self := fun A i s Q E st h => wpAny_pyIter_zip st.1.1 h
noncomputable def iZipS (K : PySem.W.Frag) (ta : TA) : TI := fun σ H R => ta σ H fun vs H1 => ∃ z b ys, vs = [.str z, .ref b] ∧ SqT K H1 b ys ∧ R (Itzs K z b ys) H1
theorem pi_zipS {X : Cx} {e e2 : Expr} {ta : TA} {p pos tpos : Pos} {elts : List Expr} {kk : Nat} (hg : Gl X "zip") (hm : X.mg "zip" = none) (ha : PA X [e, e2] ta)
    (hs : starEach [e, e2] X.env = (false, eval e X.env) :: starEach [e2] X.env) (hpl : (backTo pos (starEach [e2] X.env)).any (·.1) = false) :
    PI X (.Tuple elts kk tpos) (.Call (.Name "zip" p) [e, e2] [] pos) (iZipS X.K ta) := by
  refine ⟨fun pins s σ H R I h => ?_⟩
  refine PyProof.Rows.Call_ (ld_blt I hg hm PyProof.Rows.boot_zip (PyProof.Rows.callWith_type1 (thn (ha.run pos pins s σ H _ I h) fun us s1 ⟨vs, H1, I1, r1, q1⟩ => ?_) hs hpl))
  obtain ⟨z, b, ys, ex, hq, q⟩ := q1
  subst ex
  cases r1 with
  | cons r rr =>
    cases rr with
    | cons r' rr =>
      cases rr
      obtain ⟨t, rfl⟩ := (show ∃ t, _ = Value.str z t from r)
      cases r'
      obtain ⟨its, rv, p2, _⟩ := I1.tuple hq
      have hit : s1.heap.IsTuple b its.toArray := p2
      have hbl : b < s1.heap.objs.size := by obtain ⟨o, ho, _⟩ := id hit; exact Heap.lt_size ho
      have nb : ∀ k : Nat, b ≠ s1.heap.objs.size + k := fun k => Nat.ne_of_lt (Nat.lt_of_lt_of_le hbl (Nat.le_add_right _ k))
      refine zip_begins2 (begins_text z t) (begins_tuple b its.toArray) trivial hit fun h' hz hTI hTO g1 g2 hsz hk => wpAny_pyIter_zip hz ?_
      have fresh : ∀ c, s1.heap.objs.size ≤ c → FpOk X pins H1 c := fun c hle => I1.fpOk hle (I1.hok.fresh hle)
      refine ⟨s1.heap.objs.size + 4, [s1.heap.objs.size + 4, s1.heap.objs.size + 2, s1.heap.objs.size + 3, s1.heap.objs.size, s1.heap.objs.size + 1], _, _, H1, rfl, I1.kept (t' := s1.toks) hk,
        turn_zs (z := z) (t := t) (ys := ys) (sep_of ?_ ?_ ?_ ?_ ?_ ?_ ?_ ?_ ?_ ?_ ?_ ?_ ?_) ?_, ⟨⟨hz, hTI, ⟨_, _, hTO⟩, ⟨_, g1, rfl, rfl⟩, ⟨_, g2, rfl, rfl⟩⟩, Nat.zero_le _, Nat.zero_le _⟩, fun c hcm => fresh c ?_, q⟩
      case _ => show s1.heap.objs.size + 2 ≠ s1.heap.objs.size + 4; omega
      case _ => show s1.heap.objs.size + 3 ≠ s1.heap.objs.size + 4; omega
      case _ => show s1.heap.objs.size + 2 ≠ s1.heap.objs.size + 3; omega
      case _ => show s1.heap.objs.size + 2 ≠ s1.heap.objs.size; omega
      case _ => show s1.heap.objs.size + 2 ≠ s1.heap.objs.size + 1; omega
      case _ => show s1.heap.objs.size + 4 ≠ s1.heap.objs.size; omega
      case _ => show s1.heap.objs.size + 4 ≠ s1.heap.objs.size + 1; omega
      case _ => exact (nb 4).symm
      case _ => show s1.heap.objs.size + 3 ≠ s1.heap.objs.size; omega
      case _ => show s1.heap.objs.size + 3 ≠ s1.heap.objs.size + 1; omega
      case _ => exact (nb 3).symm
      case _ => show s1.heap.objs.size ≠ s1.heap.objs.size + 1; omega
      case _ => exact (nb 0).symm
      case _ => exact nb 1
      case _ =>
        have e' : c = s1.heap.objs.size + 4 ∨ c = s1.heap.objs.size + 2 ∨ c = s1.heap.objs.size + 3 ∨ c = s1.heap.objs.size ∨ c = s1.heap.objs.size + 1 := by simpa using hcm
        rcases e' with e | e | e | e | e <;> rw [e]
        · exact Nat.le_add_right _ _
        · exact Nat.le_add_right _ _
        · exact Nat.le_add_right _ _
        · exact Nat.le_refl _
        · exact Nat.le_add_right _ _
theorem i_zipS {x : Str} {p tpos : Pos} {elts : List Expr} {kk : Nat} (hK : X.K = F.K) (hx : x = ("zip" : Str)) (hg : Gl X "zip") (hm : X.mg "zip" = none) (ha : PE X ea (tE F Ew (evE C a))) (hb : PE X eb (tE F Ew (evE C b))) (hp : plainX ea = true) (hq : plainX eb = true) :
    PI X (.Tuple elts kk tpos) (.Call (.Name x p) [ea, eb] [] pos) (tI F Ew (evI C (.zipS a b))) := by
  subst hx
  refine (pi_zipS hg hm (pa_cons ha (pa_cons hb pa_nil (star_plain hq)) (star_plain hp)) (star_plain hp) (noStar (by simp [hq]))).imp ?_
  rintro σ H Q ⟨μ, L, ρ, st, R, RE, h⟩
  rw [evI] at h
  refine in_E R RE h fun x v μ1 L1 H1 st1 e1 R1 RE1 r1 h1 => ?_
  refine in_E R1 RE1 h1 fun y u μ2 L2 H2 st2 e2 R2 RE2 r2 h2 => ?_
  rw [hK]
  cases r1 with
  | r m => exact h2.elim
  | p r =>
    cases r2 with
    | r m => cases r <;> exact h2.elim
    | p r' =>
      cases r <;> try (exact h2.elim)
      cases r' <;> try (exact h2.elim)
      rename_i z b vs ys hL f rr
      refine ⟨z, b, vs, rfl, SqT.of f, Post.here R2 h2 _ ?_⟩
      intro i μ' L' H' st' e R'
      have k := e.kp R2
      have sq : SqT F.K H' b vs := SqT.of (k.1.2 b _ f)
      refine ⟨fun w hw => ?_, fun hi => ⟨sq, ?_⟩⟩
      · rw [List.getElem?_map] at hw
        cases q : (zipL (chsD z) ys)[i]? with
        | none => rw [q] at hw; cases hw
        | some d =>
          rw [q] at hw
          cases hw
          obtain ⟨x, y, qx, qy, rfl⟩ := zipL_get _ _ i d q
          unfold chsD at qx
          rw [List.getElem?_map] at qx
          obtain ⟨c, c1, c2⟩ := Option.map_eq_some_iff.mp qx
          subst c2
          rw [Array.getElem?_toList] at c1
          obtain ⟨v, v1, v2⟩ := rr.get qy
          refine ⟨⟨sq, (Array.getElem?_eq_some_iff.mp c1).1, (List.getElem?_eq_some_iff.mp v1).1⟩, fun t H'' ⟨T, y', c', et, hT, eH, q1, q2⟩ => ?_⟩
          rw [c1] at q1
          rw [v1] at q2
          cases q1; cases q2
          subst et eH
          refine ⟨_, Ext.val R' hT, Rel.val R' hT, .p (.tup (.inr rfl) upd_same ?_)⟩
          have k2 := k.trans ((Ext.val (F := F) (u := .tup [.str ⟨#[c]⟩, v]) R' hT).kp R')
          exact .cons (.str _) (.cons (v2.kp k2) .nil)
      · rw [List.length_map, zipL_len] at hi
        have : (chsD z).length = z.cps.size := by unfold chsD; rw [List.length_map, Array.length_toList]
        rw [this] at hi
        rw [rr.length]
        omega

/-! ### a tuple that holds things; xs[::-1]; index -/
theorem s_tupM {es : Exs} {ees : List Expr} {x1} (ha : PA X ees (tA F Ew (evEs C es))) : PE X (.Tuple ees x1 pos) (tE F Ew (evE C (.tupM es))) :=
  (pe_tup ha).imp fun σ H Q ⟨μ, L, ρ, st, R, RE, h⟩ => by
    rw [evE] at h
    refine in_A R RE h fun ws vs μ1 L1 H1 st1 e1 R1 RE1 r1 h1 => ?_
    split at h1
    · rename_i z
      exact ⟨by rw [repws_len r1]; exact lenOk_le z, fun p hp => Post.thing R1 h1 hp ⟨vs, upd_same, r1.mono ((Ext.thing (o := .tup ws) (u := .tup vs) R1 hp).kp R1) (Ext.thing (u := .tup vs) (o := .tup ws) R1 hp).pre⟩⟩
    · exact h1.elim
theorem repws_rev : ∀ {vs : List V} {ws : List W}, RepWs F μ L H vs ws → RepWs F μ L H vs.reverse ws.reverse
  | _, _, .nil => .nil
  | _, _, .cons r t => by
    rw [List.reverse_cons, List.reverse_cons]
    exact repws_app (repws_rev t) (.cons r .nil)
theorem reps_rev : ∀ {vs : List V} {ds : List D}, RepDs F L H vs ds → RepDs F L H vs.reverse ds.reverse
  | _, _, .nil => .nil
  | _, _, .cons r t => by
    rw [List.reverse_cons, List.reverse_cons]
    exact (reps_rev t).append (.cons r .nil)
theorem s_rev (m : Bool) {k : Nat} {p1 p2 p3 : Pos} (hK : X.K = F.K) (ha : PE X ea (tE F Ew (evE C a))) : PE X (.Subscript ea (.Slice none none (some (.UnaryOp .USub (.Constant (.int 1) k p1) p2)) p3) pos) (tE F Ew (evE C (.rev m a))) :=
  (pe_revL ha).imp fun σ H Q ⟨μ, L, ρ, st, R, RE, h⟩ => by
    rw [evE] at h
    refine in_E R RE h fun x v μ1 L1 H1 st1 e1 R1 RE1 r1 h1 => ?_
    cases q : lstW st1 x with
    | none => simp only [q] at h1; exact h1.elim
    | some ws =>
      simp only [q] at h1
      obtain ⟨p, ys, rfl, g1, g2⟩ := lstW_rep R1 r1 q
      refine ⟨p, ys, rfl, SqL.of g1, fun p' hp => ?_⟩
      cases m with
      | true => exact fin_lstM R1 h1 hp (repws_rev g2)
      | false =>
        cases q2 : unW ws with
        | none => simp only [q2] at h1; exact h1.elim
        | some ds => simp only [q2] at h1; exact fin_lst R1 h1 hp (reps_rev (unW_reps g2 q2))
theorem s_idx {apos : Pos} (hK : X.K = F.K) (hu : X.A.units + 66 < cLine) (ha : PE X ea (tE F Ew (evE C a))) (hb : PE X eb (tE F Ew (evE C b))) (h1 : plainB ea = true) (hp : plainX eb = true) (h4 : (apos.endLine == pos.line) = true) :
    PE X (.Call (.Attribute ea "index" apos) [eb] [] pos) (tE F Ew (evE C (.idx a b))) := by
  refine (pe_bm PySem.F.plainAttrs_list PySem.F.slot_list_index PySem.F.type_list_index mt_index ha (pa_cons hb pa_nil (star_plain hp)) (base_plain h1 _ _) ?_ h4 (star_plain hp) rfl).imp ?_
  · rw [allStar (by simp [hp])]
    rfl
  rintro σ H Q ⟨μ, L, ρ, st, R, RE, h⟩
  rw [evE] at h
  refine in_E R RE h fun x v μ1 L1 H1 st1 e1 R1 RE1 r1 h1 => ?_
  cases x with
  | r n => exact h1.elim
  | p d =>
    cases d <;> try (exact h1.elim)
    rename_i ds
    cases r1 with
    | p r =>
      cases r with
      | lst hL f rr =>
        rename_i p xs
        refine ⟨.inl ⟨rfl, xs, by rw [hK]; exact SqL.of f⟩, ?_⟩
        refine in_E R1 RE1 h1 fun y u μ2 L2 H2 st2 e2 R2 RE2 r2 h2 => ?_
        cases r2 with
        | r m => exact h2.elim
        | p r2 =>
          cases r2 <;> try (exact h2.elim)
          · rename_i t
            simp only at h2
            cases q : allB ds with
            | none => simp only [q] at h2; exact h2.elim
            | some bs =>
              simp only [q] at h2
              split at h2
              · rename_i hi
                have k := e2.kp R1
                have f2 := k.2 _ _ hL f
                have ev := allB_v (rr.kp k) q
                subst ev
                rw [hK]
                refine ⟨p, bs.map V.bl, .bl t, bs.idxOf t, .bl t, rfl, rfl, SqL.of f2, rfl, ?_, ?_, ?_, fun m z' hm hz => ?_, fin_int R2 h2⟩
                · rw [List.all_eq_true]
                  intro x hx
                  obtain ⟨n, _, rfl⟩ := List.mem_map.mp hx
                  rfl
                · rw [List.getElem?_map, List.getElem?_eq_getElem (List.idxOf_lt_length_of_mem hi), List.getElem_idxOf]
                  rfl
                · simp [eqV]
                · rw [List.getElem?_map] at hz
                  obtain ⟨n, h1, rfl⟩ := Option.map_eq_some_iff.mp hz
                  have hn : n ≠ t := fun e => by
                    subst e
                    obtain ⟨hl, he⟩ := List.getElem?_eq_some_iff.mp h1
                    have := List.not_of_lt_findIdx (p := (· == n)) (xs := bs) (i := m) hm
                    rw [he] at this
                    simp at this
                  simp [eqV, hn]
              · exact h2.elim
          rename_i i
          simp only at h2
          cases q : allI ds with
          | none => simp only [q] at h2; exact h2.elim
          | some ns =>
            simp only [q] at h2
            split at h2
            · rename_i hi
              have k := e2.kp R1
              have f2 := k.2 _ _ hL f
              have ev := allI_v (rr.kp k) q
              subst ev
              rw [hK]
              refine ⟨p, ns.map V.int, .int i, ns.idxOf i, .int i, rfl, rfl, SqL.of f2, rfl, ?_, ?_, ?_, fun m z' hm hz => ?_, fin_int R2 h2⟩
              · rw [List.all_eq_true]
                intro x hx
                obtain ⟨n, _, rfl⟩ := List.mem_map.mp hx
                rfl
              · rw [List.getElem?_map, List.getElem?_eq_getElem (List.idxOf_lt_length_of_mem hi), List.getElem_idxOf]
                rfl
              · simp [eqV]
              · rw [List.getElem?_map] at hz
                obtain ⟨n, h1, rfl⟩ := Option.map_eq_some_iff.mp hz
                have hn : n ≠ i := fun e => by
                  subst e
                  obtain ⟨hl, he⟩ := List.getElem?_eq_some_iff.mp h1
                  have := List.not_of_lt_findIdx (p := (· == n)) (xs := ns) (i := m) hm
                  rw [he] at this
                  simp at this
                simp [eqV, hn]
            · exact h2.elim
theorem cutVs_rep {vs : List V} {ws : List W} (lo hi : Option Int) (r : RepWs F μ L H vs ws) : RepWs F μ L H (cutV vs lo hi) (cutL ws lo hi) := by
  unfold cutV cutL
  rw [repws_len r]
  exact repws_take _ (repws_drop _ r)
theorem tupR_rep (R : Rel F μ L H st) {v : V} {w : W} {xs : List W} (r : RepW F μ L H v w) (h : tupR st w = some xs) : ∃ a ys, v = .ref a ∧ H a = some (.tup ys) ∧ RepWs F μ L H ys xs := by
  cases w with
  | p d => cases h
  | r n =>
    rw [tupR] at h
    cases q : st[n]? with
    | none => rw [q] at h; cases h
    | some o =>
      rw [q] at h
      cases o with
      | tup ws =>
        cases h
        obtain ⟨a, rfl, _, ⟨vs, g1, g2⟩, _⟩ := R.thg r q rfl
        exact ⟨a, vs, rfl, g1, g2⟩
      | _ => cases h
theorem s_sliM {lo hi : Opt} {elo ehi : Option Expr} {p2 : Pos} (hK : X.K = F.K) (ha : PE X ea (tE F Ew (evE C a))) (hl : PO X elo (tO F Ew (evO C lo))) (hh : PO X ehi (tO F Ew (evO C hi))) : PE X (.Subscript ea (.Slice elo ehi none p2) pos) (tE F Ew (evE C (.sliM a lo hi))) :=
  (pe_slice sl_any ha hl hh).imp fun σ H Q ⟨μ, L, ρ, st, R, RE, h⟩ => by
    rw [evE] at h
    refine in_E R RE h fun x v μ1 L1 H1 st1 e1 R1 RE1 r1 h1 => ?_
    refine in_O R1 RE1 h1 fun l μ2 L2 H2 st2 e2 R2 RE2 h2 => ?_
    refine in_O R2 RE2 h2 fun u μ3 L3 H3 st3 e3 R3 RE3 h3 => ?_
    rw [hK]
    have r3 := e3.wv R2 (e2.wv R1 r1)
    cases q : lstW st3 x with
    | some ws =>
      simp only [q] at h3
      obtain ⟨a, ys, rfl, g1, g2⟩ := lstW_rep R3 r3 q
      exact .inl (.inr ⟨a, ys, rfl, SqL.of g1, fun p hp => fin_lstM R3 h3 hp (cutVs_rep l u g2)⟩)
    | none =>
      simp only [q] at h3
      cases q2 : tupR st3 x with
      | none => simp only [q2] at h3; exact h3.elim
      | some ws =>
        simp only [q2] at h3
        obtain ⟨a, ys, rfl, g1, g2⟩ := tupR_rep R3 r3 q2
        split at h3
        · rename_i z
          refine .inl (.inl ⟨a, ys, rfl, SqT.of g1, fun w => ?_, fun _ p hp => Post.thing R3 h3 hp ⟨cutV ys l u, upd_same, (cutVs_rep l u g2).mono ((Ext.thing (o := .tup (cutL ws l u)) (u := .tup (cutV ys l u)) R3 hp).kp R3) (Ext.thing (u := .tup (cutV ys l u)) (o := .tup (cutL ws l u)) R3 hp).pre⟩⟩)
          have w' := w
          rw [repws_len g2] at w'
          rw [cut_whole _ _ _ w'] at z
          exact absurd z (Nat.lt_irrefl _)
        · exact h3.elim
theorem s_idxR {apos : Pos} (hK : X.K = F.K) (hu : X.A.units + 66 < cLine) (ha : PE X ea (tE F Ew (evE C a))) (hb : PE X eb (tE F Ew (evE C b))) (h1 : plainB ea = true) (hp : plainX eb = true) (h4 : (apos.endLine == pos.line) = true) :
    PE X (.Call (.Attribute ea "index" apos) [eb] [] pos) (tE F Ew (evE C (.idxR a b))) := by
  refine (pe_bm PySem.F.plainAttrs_list PySem.F.slot_list_index PySem.F.type_list_index mt_index ha (pa_cons hb pa_nil (star_plain hp)) (base_plain h1 _ _) ?_ h4 (star_plain hp) rfl).imp ?_
  · rw [allStar (by simp [hp])]
    rfl
  rintro σ H Q ⟨μ, L, ρ, st, R, RE, h⟩
  rw [evE] at h
  refine in_E R RE h fun x v μ1 L1 H1 st1 e1 R1 RE1 r1 h1 => ?_
  cases q0 : lstW st1 x with
  | none => simp only [q0] at h1; exact h1.elim
  | some ws0 =>
    simp only [q0] at h1
    obtain ⟨p, xs, rfl, f, rr⟩ := lstW_rep R1 r1 q0
    refine ⟨.inl ⟨rfl, xs, by rw [hK]; exact SqL.of f⟩, ?_⟩
    refine in_E R1 RE1 h1 fun y u μ2 L2 H2 st2 e2 R2 RE2 r2 h2 => ?_
    cases q1 : lstW st2 x with
    | none => simp only [q1] at h2; exact h2.elim
    | some ws =>
      cases r2 with
      | r m => simp only [q1] at h2; exact h2.elim
      | p r2 =>
        cases r2 <;> try (simp only [q1] at h2; exact h2.elim)
        rename_i i
        simp only [q1] at h2
        obtain ⟨p', xs', e', f2, rr2⟩ := lstW_rep R2 (e2.wv R1 r1) q1
        cases e'
        cases q3 : unW ws with
        | none => simp only [q3, Option.bind_none] at h2; exact h2.elim
        | some ds =>
          simp only [q3, Option.bind_some] at h2
          cases q : allI ds with
          | none => simp only [q] at h2; exact h2.elim
          | some ns =>
            simp only [q] at h2
            split at h2
            · rename_i hi
              have ev := allI_v (unW_reps rr2 q3) q
              subst ev
              rw [hK]
              refine ⟨p, ns.map V.int, .int i, ns.idxOf i, .int i, rfl, rfl, SqL.of f2, rfl, ?_, ?_, ?_, fun m z' hm hz => ?_, fin_int R2 h2⟩
              · rw [List.all_eq_true]
                intro x hx
                obtain ⟨n, _, rfl⟩ := List.mem_map.mp hx
                rfl
              · rw [List.getElem?_map, List.getElem?_eq_getElem (List.idxOf_lt_length_of_mem hi), List.getElem_idxOf]
                rfl
              · simp [eqV]
              · rw [List.getElem?_map] at hz
                obtain ⟨n, h1, rfl⟩ := Option.map_eq_some_iff.mp hz
                have hn : n ≠ i := fun e => by
                  subst e
                  obtain ⟨hl, he⟩ := List.getElem?_eq_some_iff.mp h1
                  have := List.not_of_lt_findIdx (p := (· == n)) (xs := ns) (i := m) hm
                  rw [he] at this
                  simp at this
                simp [eqV, hn]
            · exact h2.elim
end
end T

set_option maxRecDepth 100000
set_option maxHeartbeats 4000000
/-! T: enumerate of a tuple; a list put behind another as a new thing -/
namespace T
open PySem L2
set_option maxHeartbeats 1000000 in
theorem enum_new {v : Value} {o : Obj} {N : Heap → Prop} (B : Begins v o N) :
    Meets (Builtin.«enumerate.__new__» ⟨[.type "enumerate", v], []⟩) (fun _ R s => N s.heap ∧
      R (.ok (.ret (.ref (s.heap.push o).objs.size))) { s with heap := (s.heap.push o).push { cls := .type "enumerate", data := .fields #[.none, .bool false, .ref s.heap.objs.size, rawInt 0, .none, .none] } }) :=
  .of_wp fun prog w A R s h => by
    obtain ⟨hp, g, d, tk, os⟩ := s
    obtain ⟨h1, h⟩ := h
    have hsub := sub_enumerate
    have it : ∀ {A' : Around} {E : Value → Shared → Prop} {Q : Value → Shared → Prop}, Q (.ref hp.objs.size) ⟨hp.push o, g, d, tk, os⟩ → wpAny (model prog w) A' (pyIter v) Q E ⟨hp, g, d, tk, os⟩ :=
      fun q => B.iter prog w _ _ ⟨hp, g, d, tk, os⟩ _ h1 q
    wp_walk using it
    refine wpAny_stack_any fun st => wpAny_pure ?_
    split
    · rename_i c _ _ _ _ _
      cases (c == Value.type "enumerate") <;> (wp_walk using it; exact ⟨_, rfl, h⟩)
    · wp_walk using it
      exact ⟨_, rfl, h⟩
theorem enum_call {prog : Program} {w : World} {A : Around} {E : Value → Shared → Prop} {s : Shared} {v : Value} {o : Obj} {N : Heap → Prop} {Q : Value → Shared → Prop} (B : Begins v o N) (h1 : N s.heap)
    (h : ∀ h', IsEnum h' (s.heap.objs.size + 1) s.heap.objs.size 0 .none → h'.get? s.heap.objs.size = some o → (∀ b o, s.heap.get? b = some o → h'.get? b = some o) → Q (.ref (s.heap.objs.size + 1)) { s with heap := h' }) :
    wpAny (model prog w) A (call (.type "enumerate") [v]) Q E s := by
  refine callType_new F.called_enumerate (by decide) (F.typeCall_enumerate_1 _) (F.newCall_enumerate_1 _) (fun obj => F.args_object_init_2 obj _) F.entry_enumerate_new (enum_new B) ⟨h1, ?_⟩
  have hz : (s.heap.push o).objs.size = s.heap.objs.size + 1 := Heap.size_push ..
  show _ ∧ _
  rw [hz]
  have he : IsEnum ((s.heap.push o).push { cls := .type "enumerate", data := .fields #[.none, .bool false, .ref s.heap.objs.size, rawInt 0, .none, .none] }) (s.heap.objs.size + 1) s.heap.objs.size 0 .none := by
    have q := Heap.get?_push_size (s.heap.push o) (o := { cls := .type "enumerate", data := .fields #[.none, .bool false, .ref s.heap.objs.size, rawInt 0, .none, .none] }) rfl
    rw [hz] at q
    exact q
  exact ⟨⟨_, he, rfl⟩, h _ he (Heap.get?_push_of_some _ (Heap.get?_push_size _ B.free)) fun b o x => Heap.get?_push_of_some _ (Heap.get?_push_of_some _ x)⟩
section
variable {F : Fx} {Ew : XK} {X : Cx} {C : Call} {a b c : Ex} {ea eb ec tg : Expr} {pos : Pos} {μ μ' : List Addr} {L L' : Addr → Prop} {H H' : Hp} {st st' : Sto} {G : VK}
noncomputable def Itet (K : PySem.W.Frag) (b : Addr) (ys : List V) : L2.It :=
  ⟨fun i H => SqT K H b ys ∧ i < ys.length,
    fun i H v H' => ∃ T y, v = .ref T ∧ H T = none ∧ H' = upd H T (.tup [.int (i : Nat), y]) ∧ ys[i]? = some y,
    fun i H => SqT K H b ys ∧ ys.length ≤ i⟩
theorem turn_et {P : Program} {w : World} {K : PySem.W.Frag} {elts : List Expr} {kk : Nat} {tpos : Pos} {ys : List V} {b e it : Addr} (hne : e ≠ it) (hb : b ≠ it) (hbe : b ≠ e) :
    Turn P w K (.Tuple elts kk tpos) (Itet K b ys) [e, it] e (fun i h => ((∃ old, IsEnum h e it ((i : Nat) : Int) old) ∧ h.IsTupleIter it b i) ∧ i ≤ ys.length) where
  mem := by simp
  obj := fun i h st c hc => by
    obtain ⟨⟨⟨old, he⟩, ⟨o, ho, _, hd⟩⟩, _⟩ := st
    have e' : c = e ∨ c = it := by simpa using hc
    rcases e' with z | z
    · subst z; exact ⟨_, he, fun v q => nomatch q⟩
    · subst z; exact ⟨o, ho, fun v q => by rw [hd] at q; cases q⟩
  keep := fun i h h' st k => by
    obtain ⟨⟨⟨old, he⟩, ⟨o, ho, x, hd⟩⟩, l⟩ := st
    exact ⟨⟨⟨old, k e (by simp) _ he⟩, ⟨o, k it (by simp) _ ho, x, hd⟩⟩, l⟩
  item := by
    intro X hP hw hK hc i pins s σ H E I hf st hg
    subst hP hw hK
    obtain ⟨⟨⟨old, he⟩, hit⟩, _⟩ := st
    obtain ⟨hq, hi⟩ := hg
    obtain ⟨its, rv, p, _⟩ := I.tuple hq
    have htp : s.heap.IsTuple b its.toArray := p
    have hlen := rv.length
    have hd : X.A.in1.handled = none := I.ok.hd hc
    have hel : e < s.heap.objs.size := Heap.lt_size he
    have hil : it < s.heap.objs.size := by obtain ⟨_, q, _⟩ := hit; exact Heap.lt_size q
    refine wpAny_pyNext_enum_itemD (Draws.tuple hd it b hb its.toArray) he ⟨hit, htp⟩ (by rw [List.size_toArray]; omega) hne (by
      simp only [List.mem_cons, List.not_mem_nil, or_false, not_or]; exact ⟨hne, fun q => hbe q.symm⟩) fun x h' tk hx he' st' hT hsz hk => ?_
    have hy : ys[i]? = some ys[i] := List.getElem?_eq_getElem hi
    obtain ⟨u, hu, ru⟩ := rv.get hy
    have e2 : x = u := by
      have k2 : its.toArray[i]? = some x := hx
      rw [List.getElem?_toArray, hu] at k2
      exact (Option.some.inj k2).symm
    subst e2
    refine ⟨_, rfl, wpAny_letOwnedTupleGo_enum (s := { s with heap := h', toks := tk + 1 }) he' fun h'' he'' sb => ?_⟩
    have hT2 : h''.get? s.heap.objs.size = some { cls := .type "tuple", data := .seq #[.int i tk, x] } := (sb.2 _ (Nat.ne_of_gt hel)).trans hT
    have new : ObjOk X.prog X.w (upd H s.heap.objs.size (.tup [.int (i : Nat), ys[i]])) h'' s.heap.objs.size (.tup [.int (i : Nat), ys[i]]) :=
      ⟨by show 2 ≤ sizeLine; decide, [.int i tk, x], .cons ⟨_, rfl⟩ (.cons ru .nil), ⟨_, hT2, rfl, _, rfl⟩⟩
    have away : ∀ c o, c ∉ [e, it] → s.heap.get? c = some o → h''.get? c = some o := fun c o hn q => by
      simp only [List.mem_cons, List.not_mem_nil, or_false, not_or] at hn
      exact (sb.2 c hn.1).trans (hk c o hn.1 hn.2 q)
    have I1 : Inv X pins σ (upd H s.heap.objs.size (.tup [.int (i : Nat), ys[i]])) { s with heap := h'', toks := tk + 1 } := I.turnedNew (t' := tk + 1) (ch := [e, it]) away hf (Nat.le_refl _) new
    obtain ⟨⟨o, ho, hc', hd'⟩, _⟩ := st'
    refine ⟨.ref s.heap.objs.size, _, I1, rfl, ⟨_, ys[i], rfl, I.hok.fresh (Nat.le_refl _), rfl, hy⟩, ⟨⟨⟨x, ?_⟩, ⟨o, (sb.2 it (Ne.symm hne)).trans ho, hc', hd'⟩⟩, hi⟩, fun c hcm => ?_⟩
    · have e1 : ((i + 1 : Nat) : Int) = (i : Int) + 1 := by omega
      rw [e1]; exact he''
    · have hlt : c < s.heap.objs.size := by
        have e' : c = e ∨ c = it := by simpa using hcm
        rcases e' with z | z
        · subst z; exact hel
        · subst z; exact hil
      rw [upd_ne (Nat.ne_of_lt hlt)]
      exact (hf c hcm).1
  done := by
    intro X hP hw hK hc i pins s σ H E I hf st hg
    subst hP hw hK
    obtain ⟨⟨⟨old, he⟩, hit⟩, hi⟩ := st
    obtain ⟨hq, hge⟩ := hg
    have hge : ys.length ≤ i := hge
    obtain ⟨its, rv, p, _⟩ := I.tuple hq
    have htp : s.heap.IsTuple b its.toArray := p
    have hlen := rv.length
    have hd : X.A.in1.handled = none := I.ok.hd hc
    obtain ⟨f0, f1, f2, f3, f4, f5⟩ := hf it (by simp)
    have hn : i = its.toArray.size := by rw [List.size_toArray]; omega
    subst hn
    exact wpAny_pyNext_enum_endD (Draws.tuple hd it b hb its.toArray) he ⟨hit, htp⟩ fun h' eb => ⟨rfl, I.turned (t' := s.toks) (fun b o hb q => eb b o hb q) f0 f1 f3 f4 f5⟩
  self := fun A i s Q E st h => let ⟨⟨⟨_, he⟩, _⟩, _⟩ := st; wpAny_pyIter_enum he h
noncomputable def iEnumT (K : PySem.W.Frag) (ta : TA) : TI := fun σ H R => ta σ H fun vs H1 => ∃ b ys, vs = [.ref b] ∧ SqT K H1 b ys ∧ R (Itet K b ys) H1
theorem pi_enumT {X : Cx} {e : Expr} {ta : TA} {p pos tpos : Pos} {elts : List Expr} {kk : Nat} (hg : Gl X "enumerate") (hm : X.mg "enumerate" = none) (ha : PA X [e] ta) (hs : starEach [e] X.env = [(false, eval e X.env)]) :
    PI X (.Tuple elts kk tpos) (.Call (.Name "enumerate" p) [e] [] pos) (iEnumT X.K ta) := by
  refine ⟨fun pins s σ H R I h => ?_⟩
  refine PyProof.Rows.Call_ (ld_blt I hg hm PyProof.Rows.boot_enumerate (PyProof.Rows.callWith_type1 (thn (ha.run pos pins s σ H _ I h) fun us s1 ⟨vs, H1, I1, r1, q1⟩ => ?_) hs rfl))
  obtain ⟨b, ys, ex, hq, q⟩ := q1
  subst ex
  cases r1 with
  | cons r rr =>
    cases rr
    cases r
    obtain ⟨its, rv, p', _⟩ := I1.tuple hq
    have htp : s1.heap.IsTuple b its.toArray := p'
    have hbl : b < s1.heap.objs.size := by obtain ⟨o, ho, _⟩ := id htp; exact Heap.lt_size ho
    refine enum_call (begins_tuple b its.toArray) htp fun h' he g1 hk => wpAny_pyIter_enum he ?_
    refine ⟨s1.heap.objs.size + 1, [s1.heap.objs.size + 1, s1.heap.objs.size], _, _, H1, rfl, I1.kept (t' := s1.toks) hk, turn_et (ys := ys) (b := b) (Nat.succ_ne_self _) (Nat.ne_of_lt hbl) (Nat.ne_of_lt (Nat.lt_succ_of_lt hbl)), ⟨⟨⟨.none, he⟩, ⟨_, g1, rfl, rfl⟩⟩, Nat.zero_le _⟩, fun c hcm => ?_, q⟩
    have e' : c = s1.heap.objs.size + 1 ∨ c = s1.heap.objs.size := by simpa using hcm
    have hle : s1.heap.objs.size ≤ c := by
      rcases e' with z | z
      · rw [z]; exact Nat.le_add_right _ _
      · rw [z]; exact Nat.le_refl _
    exact I1.fpOk hle (I1.hok.fresh hle)
theorem i_enuT {x : Str} {p tpos : Pos} {elts : List Expr} {kk : Nat} (hK : X.K = F.K) (hx : x = ("enumerate" : Str)) (hg : Gl X "enumerate") (hm : X.mg "enumerate" = none) (ha : PE X ea (tE F Ew (evE C a))) (hp : plainX ea = true) :
    PI X (.Tuple elts kk tpos) (.Call (.Name x p) [ea] [] pos) (tI F Ew (evI C (.enuT a))) := by
  subst hx
  refine (pi_enumT hg hm (pa_cons ha pa_nil (star_plain hp)) (star_plain hp)).imp ?_
  rintro σ H Q ⟨μ, L, ρ, st, R, RE, h⟩
  rw [evI] at h
  refine in_E R RE h fun x v μ1 L1 H1 st1 e1 R1 RE1 r1 h1 => ?_
  cases r1 with
  | r m => exact h1.elim
  | p r =>
    cases r <;> try (exact h1.elim)
    rename_i a vs ds hL f rr
    rw [hK]
    refine ⟨a, vs, rfl, SqT.of f, Post.here R1 h1 _ ?_⟩
    intro i μ' L' H' st' e R'
    have k := e.kp R1
    have sq : SqT F.K H' a vs := SqT.of (k.1.2 a _ f)
    refine ⟨fun w hw => ?_, fun hi => ⟨sq, by rw [rr.length]; simpa [enuL_len] using hi⟩⟩
    rw [List.getElem?_map, enuL_get] at hw
    cases q : ds[i]? with
    | none => rw [q] at hw; cases hw
    | some d =>
      rw [q] at hw
      cases hw
      obtain ⟨v, q1, q2⟩ := rr.get q
      refine ⟨⟨sq, (List.getElem?_eq_some_iff.mp q1).1⟩, fun x H'' ⟨T, y, ex, hT, eH, hy⟩ => ?_⟩
      subst ex eH
      rw [q1] at hy; cases hy
      refine ⟨_, Ext.val R' hT, Rel.val R' hT, .p (.tup (.inr rfl) upd_same ?_)⟩
      have k2 := k.trans ((Ext.val (F := F) (u := .tup [.int (i : Nat), v]) R' hT).kp R')
      have e0 : ((0 + i : Nat) : Int) = (i : Nat) := by omega
      rw [e0]
      exact .cons (.int _) (.cons (q2.kp k2) .nil)
theorem s_addM (ha : PE X ea (tE F Ew (evE C a))) (hb : PE X eb (tE F Ew (evE C b))) : PE X (.BinOp ea .Add eb pos) (tE F Ew (evE C (.addM a b))) :=
  (pe_op op_cat ha hb).imp fun σ H Q ⟨μ, L, ρ, st, R, RE, h⟩ => by
    rw [evE] at h
    refine in_E R RE h fun x v μ1 L1 H1 st1 e1 R1 RE1 r1 h1 => ?_
    refine in_E R1 RE1 h1 fun y u μ2 L2 H2 st2 e2 R2 RE2 r2 h2 => ?_
    cases q1 : lstW st2 x with
    | none => simp only [q1] at h2; exact h2.elim
    | some xs =>
      cases q2 : lstW st2 y with
      | none => simp only [q1, q2] at h2; exact h2.elim
      | some ys =>
        simp only [q1, q2] at h2
        split at h2
        · rename_i z
          obtain ⟨p, vs, rfl, g1, g2⟩ := lstW_rep R2 (e2.wv R1 r1) q1
          obtain ⟨q, us, rfl, k1, k2⟩ := lstW_rep R2 r2 q2
          exact ⟨p, q, vs, us, rfl, rfl, g1, k1, by rw [repws_len g2, repws_len k2]; exact lenOk_le z, fun p' hp => fin_lstM R2 h2 hp (repws_app g2 k2)⟩
        · exact h2.elim
end
end T

set_option maxRecDepth 100000
set_option maxHeartbeats 4000000
/-! T: sorted(set(ints)); a call whose things are lent as values -/
namespace T
open PySem PySem.Spec PyProof.Rows L2
section
variable {P : Program} {w : World} {A : Around} {E : Value → Shared → Prop} {s : Shared}

set_option maxRecDepth 100000 in
set_option maxHeartbeats 3200000 in
theorem call_set_listI {l : Addr} {items : Array Value} (ns : List Int) {Q : Value → Shared → Prop} (hh : A.handled = none) (hl : s.heap.IsList l items) (hit : IntsAre items.toList ns) (hb : ns.length + 1 < scanBound)
    (h : ∀ (h' : Heap) (tk c : Nat), SetR w h' s.heap.objs.size (fun j => decide (j ∈ ns)) c → c ≤ ns.length → (∀ b o, s.heap.get? b = some o → h'.get? b = some o) → Q (.ref s.heap.objs.size) { s with heap := h', toks := tk }) :
    wpAny (model P w) A (call (.type "set") [.ref l]) Q E s := by
  have hisz : items.size = ns.length := by
    have q := IntsAre.length hit
    rw [Array.length_toList] at q
    exact q
  obtain ⟨c, tl, hmro⟩ := F.called_set.mro
  have hmade := F.called_set.made
  have hsub := F.called_set.sub
  refine wpAny_call (codeAny_of_tree ?_)
  show wpAny _ _ (callAny (.type "set") _) _ _ _
  refine wpAny_pure ⟨Code.quiet_builtin _ (by decide +kernel), codeAny_builtin F.entry_type_call ?_⟩
  rw [Around.under_plain (weight_type_call_type "set" [.ref l] []) rfl]
  have h1 := F.called_set.notType
  have h2 := F.called_set.canCreate
  have hct := F.typeCall_set_1 (.ref l)
  repeat (any_goals (first | assumption | wp_step))

  refine codeAny_mono (code_set_led1 (.ref l) (E := E) (Q₁ := fun obj s₁ => obj = .ref s.heap.objs.size ∧ s₁ = { s with heap := s.heap.push { cls := .type "set", dict := none, data := .set #[] 0 (.fresh 0 0 (!w.params.followText "set-order")) } }) ⟨rfl, rfl⟩) fun r s₁ hr => ?_
  cases r with
  | error e => exact hr
  | ok fl =>
    cases fl with
    | ret obj =>
      obtain ⟨rfl, rfl⟩ := hr
      have hS : (s.heap.push { cls := .type "set", dict := none, data := .set #[] 0 (.fresh 0 0 (!w.params.followText "set-order")) }).get? s.heap.objs.size = some { cls := .type "set", dict := none, data := .set #[] 0 (.fresh 0 0 (!w.params.followText "set-order")) } := Heap.get?_push_size _ rfl
      have hT : Shared.TypeIs { s with heap := s.heap.push { cls := .type "set", dict := none, data := .set #[] 0 (.fresh 0 0 (!w.params.followText "set-order")) } } (.ref s.heap.objs.size) "set" := ⟨_, hS, rfl⟩
      have hli := F.called_set.init.lookup
      have hbi := F.called_set.init.bind (.ref s.heap.objs.size)
      repeat (any_goals (first | assumption | wp_step))

      refine codeAny_mono (codeAny_call_builtin (R := wants (fun r s₂ => r = .none ∧ ∃ h' tk c, s₂ = { s with heap := h', toks := tk } ∧ SetR w h' s.heap.objs.size (fun j => decide (j ∈ ns)) c ∧ c ≤ ns.length ∧
          (∀ b o, s.heap.get? b = some o → h'.get? b = some o)) E) F.called_set.init.plain F.entry_set_init (check_set_init_1 hT ?_)) fun r₂ s₂ hr₂ => ?_
      · obtain ⟨ol, hol, hcl, nl, hdl⟩ := hl
        obtain ⟨ocls, odict, odata, oslots⟩ := ol
        simp only at hcl hdl
        subst hcl; subst hdl
        have hol' : (s.heap.push { cls := .type "set", dict := none, data := .set #[] 0 (.fresh 0 0 (!w.params.followText "set-order")) }).get? l = some { cls := .type "list", dict := odict, data := .seq items nl, slots := oslots } := Heap.get?_push_of_some _ hol
        have hsls := F.sub_list_set
        have hslf := F.sub_list_frozenset
        have hne : (Value.type "list" == Value.type "dict") = false := by decide
        have hl1 : (s.heap.push { cls := .type "set", dict := none, data := .set #[] 0 (.fresh 0 0 (!w.params.followText "set-order")) }).IsList l items := ⟨_, hol', rfl, nl, rfl⟩
        unfold Builtin.«set.__init__» noKeywords Builtin.Frozenset.updateFrom
        generalize hPI : pyIter = PI
        wp_walk
        subst hPI

        refine wpAny_pyIter_list hl1 ?_
        refine wpAny_bind (wpAny_runValue ?_)
        have hlS : l < s.heap.objs.size := Heap.lt_size hol
        have hh3 : A.in1.in1.in1.handled = none := by simp [hh]
        have hz1 : (s.heap.push { cls := .type "set", dict := none, data := .set #[] 0 (.fresh 0 0 (!w.params.followText "set-order")) }).objs.size = s.heap.objs.size + 1 := Heap.size_push ..
        have hneI : l ≠ (s.heap.push { cls := .type "set", dict := none, data := .set #[] 0 (.fresh 0 0 (!w.params.followText "set-order")) }).objs.size := by
          rw [Heap.size_push]; exact Nat.ne_of_lt (Nat.lt_succ_of_lt hlS)
        have hSf : s.heap.objs.size ∉ [(s.heap.push { cls := .type "set", dict := none, data := .set #[] 0 (.fresh 0 0 (!w.params.followText "set-order")) }).objs.size, l] := by
          rw [Heap.size_push]; simp only [List.mem_cons, List.mem_singleton, List.not_mem_nil, or_false, not_or]
          exact ⟨Nat.ne_of_lt (Nat.lt_succ_self _), Nat.ne_of_gt hlS⟩
        have hval : ∀ (i : Nat) (v : Value), items[i]? = some v → ∃ k t, ns[i]? = some k ∧ v = .int k t := fun i v hv => by
          have hi : i < ns.length := by rw [← hisz]; exact (Array.getElem?_eq_some_iff.mp hv).1
          obtain ⟨t, e⟩ := PyProof.Rows.IntsAre.int_at hit i v (by rw [Array.getElem?_toList]; exact hv)
          refine ⟨ns[i], t, List.getElem?_eq_getElem hi, ?_⟩
          rw [e, List.getD_eq_getElem?_getD, List.getElem?_eq_getElem hi] <;> rfl
        refine set_update_ints ((Walks.list hh3 _ l hneI items).toS) s.heap.objs.size
          hSf ns hisz hb hval (items.size - 0) 0 _ (by omega) (Nat.zero_le _)
          ⟨⟨_, Heap.get?_push_size _ rfl, rfl, rfl⟩, (hl1.push _)⟩ ?hS0 ?hR
        case hS0 =>
          have hget : ((s.heap.push { cls := .type "set", dict := none, data := .set #[] 0 (.fresh 0 0 (!w.params.followText "set-order")) }).push { cls := .type "list_iterator", data := .fields #[.ref l, .int 0 0] }).get? s.heap.objs.size
              = some { cls := .type "set", dict := none, data := .set #[] 0 (.fresh 0 0 (!w.params.followText "set-order")) } := Heap.get?_push_of_some _ hS
          exact ⟨0, Nat.le_refl 0, setR_new_at hget⟩
        case hR =>
          intro s' c' hm hc' hS'
          obtain ⟨h', g2, d', tk', os'⟩ := s'
          have eg : g2 = s.gens := hm.gens
          have ed : d' = s.drawn := hm.drawn
          have eo : os' = s.os := hm.os
          subst eg; subst ed; subst eo
          show wpAny _ _ _ _ _ _
          refine wpAny_pure ?_
          show wpAny _ _ (ret Value.none) _ _ _
          rw [hisz] at hc'
          refine wpAny_pure ⟨rfl, h', tk', c', rfl, hS', hc', fun b o e => ?_⟩
          have hb0 : b < s.heap.objs.size := Heap.lt_size e
          have hb1 : b ≠ s.heap.objs.size := Nat.ne_of_lt hb0
          have hb2 : b ≠ (s.heap.push { cls := .type "set", dict := none, data := .set #[] 0 (.fresh 0 0 (!w.params.followText "set-order")) }).objs.size := by
            rw [Heap.size_push]; exact Nat.ne_of_lt (Nat.lt_succ_of_lt hb0)
          exact hm.heap b o (by simp only [List.mem_cons, List.mem_singleton, List.not_mem_nil, or_false, not_or]; exact ⟨hb1, hb2⟩) (Heap.get?_push_of_some _ (Heap.get?_push_of_some _ e))

      · cases r₂ with
        | error e => exact hr₂
        | ok fl₂ =>
          cases fl₂ with
          | ret r =>
            obtain ⟨rfl, h', tk, c', rfl, hS', hc', hk'⟩ := hr₂
            repeat (any_goals (first | assumption | wp_step))
            exact h _ _ _ hS' hc' hk'
          | _ => exact hr₂.elim
    | _ => exact hr.elim
end
end T
namespace T
open PySem L2
/-! ### rising lists -/
theorem insS_mem (x : Int) : ∀ (l : List Int) (y : Int), y ∈ insS x l ↔ y = x ∨ y ∈ l
  | [], y => by simp [insS]
  | z :: r, y => by
    rw [insS]
    split
    · simp
    · split
      · rename_i h1 h2
        subst h2
        simp
      · simp only [List.mem_cons, insS_mem x r y]
        constructor
        · rintro (h | h | h)
          · exact .inr (.inl h)
          · exact .inl h
          · exact .inr (.inr h)
        · rintro (h | h | h)
          · exact .inr (.inl h)
          · exact .inl h
          · exact .inr (.inr h)
theorem insS_ris (x : Int) : ∀ (l : List Int), l.Pairwise (· < ·) → (insS x l).Pairwise (· < ·)
  | [], _ => by simp [insS]
  | z :: r, h => by
    obtain ⟨h1, h2⟩ := List.pairwise_cons.mp h
    rw [insS]
    split
    · rename_i hx
      exact List.pairwise_cons.mpr ⟨fun y hy => by
        rcases List.mem_cons.mp hy with rfl | hy
        · exact hx
        · exact Int.lt_trans hx (h1 y hy), h⟩
    · split
      · exact h
      · refine List.pairwise_cons.mpr ⟨fun y hy => ?_, insS_ris x r h2⟩
        rcases (insS_mem x r y).mp hy with rfl | hy
        · omega
        · exact h1 y hy
theorem setI_mem : ∀ (l : List Int) (y : Int), y ∈ setI l ↔ y ∈ l
  | [], y => by simp [setI]
  | x :: r, y => by rw [setI, insS_mem, setI_mem r y, List.mem_cons]
theorem setI_ris : ∀ l : List Int, (setI l).Pairwise (· < ·)
  | [] => by simp [setI]
  | x :: r => by rw [setI]; exact insS_ris x _ (setI_ris r)
theorem ris_eq : ∀ (l m : List Int), l.Pairwise (· < ·) → m.Pairwise (· < ·) → (∀ k, k ∈ l ↔ k ∈ m) → l = m
  | [], [], _, _, _ => rfl
  | [], y :: m, _, _, h => absurd ((h y).mpr List.mem_cons_self) (by simp)
  | x :: l, [], _, _, h => absurd ((h x).mp List.mem_cons_self) (by simp)
  | x :: l, y :: m, h1, h2, h => by
    obtain ⟨a1, a2⟩ := List.pairwise_cons.mp h1
    obtain ⟨b1, b2⟩ := List.pairwise_cons.mp h2
    have e : x = y := by
      have p := (h x).mp List.mem_cons_self
      have q := (h y).mpr List.mem_cons_self
      rcases List.mem_cons.mp p with p | p
      · exact p
      · rcases List.mem_cons.mp q with q | q
        · exact q.symm
        · have := b1 x p; have := a1 y q; omega
    subst e
    rw [ris_eq l m a2 b2 fun k => ?_]
    constructor
    · intro hk
      rcases List.mem_cons.mp ((h k).mp (List.mem_cons_of_mem _ hk)) with rfl | q
      · exact absurd (a1 k hk) (by omega)
      · exact q
    · intro hk
      rcases List.mem_cons.mp ((h k).mpr (List.mem_cons_of_mem _ hk)) with rfl | q
      · exact absurd (b1 k hk) (by omega)
      · exact q
theorem ris_nodup {l : List Int} (h : l.Pairwise (· < ·)) : l.Nodup := h.imp fun h => by omega
section
variable {F : Fx} {Ew : XK} {X : Cx} {C : Call} {a b c : Ex} {ea eb ec : Expr} {pos : Pos} {μ μ' : List Addr} {L L' : Addr → Prop} {H H' : Hp} {st st' : Sto} {G : VK}
theorem setR_len {w : World} {h : Heap} {a : Addr} {ns : List Int} {c : Nat} (R : SetR w h a (fun j => decide (j ∈ ns)) c) : c = (setI ns).length := by
  obtain ⟨o, es, ep, t, ho, hex, hdt, g, nd, hm, hb, hf, hn, hr, hl⟩ := R
  have p : (es.toList.map keyOf).Perm (setI ns) := (List.perm_ext_iff_of_nodup nd (ris_nodup (setI_ris ns))).mpr fun k => by
    rw [setI_mem, ← hm k, decide_eq_true_eq]
  rw [← p.length_eq, List.length_map, Array.length_toList, hn]
noncomputable def rSetI (K : PySem.W.Frag) (w : World) : List V → Hp → VK → Prop := fun xs H Q => ∃ (l : Addr) (ns : List Int), xs = [V.ref l] ∧ (SqL K H l (ns.map V.int) ∨ SqT K H l (ns.map V.int)) ∧ ns.length < 4000 ∧
  ∀ a, H a = none → Q (.ref a) (upd H a (SetO w a (fun j => decide (j ∈ ns)) (setI ns).length))
theorem cr_setI (hc : X.calm = true) : CallR X (.type "set") (rSetI X.K X.w) := by
  intro pins s σ H xs us Q I r h
  obtain ⟨l, ns, rfl, hl, hf, q⟩ := h
  rw [Vals.ref1 r]
  have hn : H s.heap.objs.size = none := I.hok.fresh (Nat.le_refl _)
  rcases hl with hl | hl
  · obtain ⟨its, rv, pl, hz⟩ := I.list hl
    have hi : PyProof.Rows.IntsAre its.toArray.toList ns := ints_of_vals rv
    refine call_set_listI (P := X.prog) (w := X.w) ns (I.ok.hd hc) pl.isList hi (by unfold scanBound; omega) fun h' tk c R _ k => ?_
    have := setR_len R
    subst this
    exact ⟨.ref s.heap.objs.size, upd H s.heap.objs.size (SetO X.w s.heap.objs.size _ _), I.laid (t' := tk) k (Nat.le_refl _) (setO_new R), rfl, q _ hn⟩
  · obtain ⟨its, rv, pl, hz⟩ := I.tuple hl
    have hi : PyProof.Rows.IntsAre its.toArray.toList ns := ints_of_vals rv
    refine call_set_tupI (P := X.prog) (w := X.w) ns (I.ok.hd hc) pl hi (by unfold scanBound; omega) fun h' tk c R _ k => ?_
    have := setR_len R
    subst this
    exact ⟨.ref s.heap.objs.size, upd H s.heap.objs.size (SetO X.w s.heap.objs.size _ _), I.laid (t' := tk) k (Nat.le_refl _) (setO_new R), rfl, q _ hn⟩
theorem ints_reps : ∀ ns : List Int, RepDs F L H (ns.map V.int) (ns.map D.int)
  | [] => .nil
  | n :: r => .cons (.int n) (ints_reps r)
theorem ints_repw : ∀ ns : List Int, RepWs F μ L H (ns.map V.int) (ns.map fun i => W.p (.int i))
  | [] => .nil
  | n :: r => .cons (.p (.int n)) (ints_repw r)
theorem s_sst (m : Bool) {x y : Str} {p q pos2 : Pos} (hK : X.K = F.K) (hc : X.calm = true) (hx : x = ("sorted" : Str)) (hy : y = ("set" : Str)) (hg : Gl X "sorted") (hm : X.mg "sorted" = none) (hg2 : Gl X "set") (hm2 : X.mg "set" = none) (ha : PE X ea (tE F Ew (evE C a))) (hp : plainX ea = true) :
    PE X (.Call (.Name x p) [.Call (.Name y q) [ea] [] pos2] [] pos) (tE F Ew (evE C (.sst m a))) := by
  subst hx hy
  refine (pe_callB (cr_sortedSet hc) hg hm rfl (pa_cons (pe_callTy (cr_setI hc) hg2 hm2 rfl (pa_cons ha pa_nil (star_plain hp)) (by decide) (by decide) (star_plain hp) rfl) pa_nil rfl) (by decide) (by decide) rfl rfl).imp ?_
  rintro σ H Q ⟨μ, L, ρ, st, R, RE, h⟩
  rw [evE] at h
  refine in_E R RE h fun x v μ1 L1 H1 st1 e1 R1 RE1 r1 h1 => ?_
  cases q1 : vw st1 x with
  | none => simp only [q1] at h1; exact h1.elim
  | some d =>
    simp only [q1] at h1
    cases q2 : (itemsD d).bind allI with
    | none => simp only [q2] at h1; exact h1.elim
    | some ns =>
      simp only [q2] at h1
      split at h1
      · rename_i z
        simp only [Bool.and_eq_true, decide_eq_true_eq] at z
        obtain ⟨ds, g1, g2⟩ := Option.bind_eq_some_iff.mp q2
        obtain ⟨l, ys, rfl, sq, rr, _⟩ := items_sq (sh_of R1 r1 q1) g1
        have := allI_v rr g2
        subst this
        rw [← hK] at sq
        refine ⟨l, ns, rfl, sq, z.1, fun b hb => ?_⟩
        have R2 := Rel.aside R1 (u := SetO X.w b (fun j => decide (j ∈ ns)) (setI ns).length) hb
        have e2 := Ext.aside (μ := μ1) (L := L1) (st := st1) (u := SetO X.w b (fun j => decide (j ∈ ns)) (setI ns).length) hb
        refine ⟨b, _, _, rfl, upd_same, z.2, fun ns' p h1' h2' h3' hp => ?_⟩
        have e : ns' = setI ns := ris_eq _ _ h1' (setI_ris ns) fun k => by rw [h2', decide_eq_true_eq, setI_mem]
        subst e
        cases m with
        | true => exact fin_lstM R2 (Post.from e2 h1) hp (ints_repw _)
        | false => exact fin_lst R2 (Post.from e2 h1) hp (ints_reps _)
      · exact h1.elim

/-- list.count of a truth -/
noncomputable def rCntB (K : PySem.W.Frag) : V → List V → Hp → VK → Prop := fun x xs H Q => ∃ (p : Addr) (bs : List Bool) (t : Bool), x = .ref p ∧ xs = [.bl t] ∧ SqL K H p (bs.map V.bl) ∧ Q (.int (bs.count t : Nat)) H
theorem dp_bls {K : PySem.W.Frag} : ∀ bs : List Bool, DpAll K H (bs.map V.bl) (bs.map PyData.bool)
  | [] => .nil
  | b :: r => .cons (.bl b) (dp_bls r)
theorem plain_bls : ∀ bs : List Bool, PyData.plainAll (bs.map PyData.bool) = true
  | [] => rfl
  | n :: r => by rw [List.map_cons, PyData.plainAll, plain_bls r]; rfl
theorem cnt_bls (t : Bool) : ∀ bs : List Bool, ((bs.map PyData.bool).countP fun y => PyData.eqv y (.bool t)) = bs.count t
  | [] => rfl
  | b :: r => by
    rw [List.map_cons, List.countP_cons, cnt_bls t r, List.count_cons]
    cases b <;> cases t <;> rfl
theorem mt_lcountB (hu : X.A.units + 66 < cLine) : MtR X "list.count" (rCntB X.K) := by
  intro pins s σ H x xs v us Q I rx rxs h
  obtain ⟨p, bs, t, rfl, rfl, hs, q⟩ := h
  cases rx
  obtain ⟨u, rfl, ru⟩ := rxs.one
  cases ru
  obtain ⟨its, rv, pl, hz⟩ := I.list hs
  obtain ⟨as, rs⟩ := Dp.readsAll I _ _ its (dp_bls bs) rv
  obtain ⟨b2, rx⟩ := Dp.reads I _ _ _ (.bl t) (show RelV (.bl t) (.bool t) from rfl)
  refine SeqAt.count_list_data pl.isList (by simpa using rs) rx (plain_bls bs) rfl (by have := Nat.min_le_right (PyData.depthAll (bs.map PyData.bool)) (PyData.bool t).depth; have : (PyData.bool t).depth = 0 := rfl; omega) ?_
  rw [cnt_bls]
  exact ⟨.int (bs.count t : Nat), H, I.tok _, ⟨s.toks, rfl⟩, q⟩
theorem s_cntL {apos : Pos} (hK : X.K = F.K) (hu : X.A.units + 66 < cLine) (ha : PE X ea (tE F Ew (evE C a))) (hb : PE X eb (tE F Ew (evE C b))) (h1 : plainB ea = true) (hp : plainX eb = true) (h4 : (apos.endLine == pos.line) = true) :
    PE X (.Call (.Attribute ea "count" apos) [eb] [] pos) (tE F Ew (evE C (.cntL a b))) := by
  refine (pe_bm PySem.F.plainAttrs_list PySem.F.slot_list_count PySem.F.type_list_count (mt_lcount.or (mt_lcountB hu)) ha (pa_cons hb pa_nil (star_plain hp)) (base_plain h1 _ _) ?_ h4 (star_plain hp) rfl).imp ?_
  · rw [allStar (by simp [hp])]
    rfl
  rintro σ H Q ⟨μ, L, ρ, st, R, RE, h⟩
  rw [evE] at h
  refine in_E R RE h fun x v μ1 L1 H1 st1 e1 R1 RE1 r1 h1 => ?_
  cases x with
  | r n => exact h1.elim
  | p d =>
    cases d <;> try (exact h1.elim)
    rename_i ds
    cases r1 with
    | p r =>
      cases r with
      | lst hL f rr =>
        rename_i p xs
        refine ⟨.inl ⟨rfl, xs, by rw [hK]; exact SqL.of f⟩, ?_⟩
        refine in_E R1 RE1 h1 fun y u μ2 L2 H2 st2 e2 R2 RE2 r2 h2 => ?_
        cases r2 with
        | r m => exact h2.elim
        | p r2 =>
          cases r2 <;> try (exact h2.elim)
          · rename_i t
            simp only at h2
            cases q : allB ds with
            | none => simp only [q] at h2; exact h2.elim
            | some bs =>
              simp only [q] at h2
              have k := e2.kp R1
              have f2 := k.2 _ _ hL f
              have ev := allB_v (rr.kp k) q
              subst ev
              rw [hK]
              exact .inr ⟨p, bs, t, rfl, rfl, SqL.of f2, fin_int R2 h2⟩
          · rename_i i
            simp only at h2
            cases q : allI ds with
            | none => simp only [q] at h2; exact h2.elim
            | some ns =>
              simp only [q] at h2
              have k := e2.kp R1
              have f2 := k.2 _ _ hL f
              have ev := allI_v (rr.kp k) q
              subst ev
              rw [hK]
              exact .inl ⟨p, ns, i, rfl, rfl, SqL.of f2, fin_int R2 h2⟩
/-! ### sorted(l), l a list of ints -/
theorem insI_perm (x : Int) : ∀ l : List Int, (insI x l).Perm (x :: l)
  | [] => .refl _
  | y :: r => by
    rw [insI]
    split
    · exact .refl _
    · exact ((insI_perm x r).cons y).trans (List.Perm.swap x y r)
theorem insI_srt (x : Int) : ∀ l : List Int, l.Pairwise (· ≤ ·) → (insI x l).Pairwise (· ≤ ·)
  | [], _ => by simp [insI]
  | y :: r, h => by
    obtain ⟨h1, h2⟩ := List.pairwise_cons.mp h
    rw [insI]
    split
    · exact List.pairwise_cons.mpr ⟨fun z hz => by
        rcases List.mem_cons.mp hz with rfl | hz
        · assumption
        · exact Int.le_trans (by assumption) (h1 z hz), h⟩
    · refine List.pairwise_cons.mpr ⟨fun z hz => ?_, insI_srt x r h2⟩
      rcases List.mem_cons.mp ((insI_perm x r).mem_iff.mp hz) with rfl | hz
      · omega
      · exact h1 z hz
theorem srtI_perm : ∀ l : List Int, (srtI l).Perm l
  | [] => .refl _
  | x :: r => by rw [srtI]; exact (insI_perm x _).trans ((srtI_perm r).cons x)
theorem srtI_srt : ∀ l : List Int, (srtI l).Pairwise (· ≤ ·)
  | [] => by simp [srtI]
  | x :: r => by rw [srtI]; exact insI_srt x _ (srtI_srt r)
theorem srt_eq : ∀ (l m : List Int), l.Perm m → l.Pairwise (· ≤ ·) → m.Pairwise (· ≤ ·) → l = m
  | [], m, p, _, _ => p.symm.eq_nil.symm
  | x :: l, [], p, _, _ => by have := p.eq_nil; cases this
  | x :: l, y :: m, p, h1, h2 => by
    obtain ⟨a1, a2⟩ := List.pairwise_cons.mp h1
    obtain ⟨b1, b2⟩ := List.pairwise_cons.mp h2
    have e : x = y := by
      have u : y ≤ x := by
        rcases List.mem_cons.mp (p.mem_iff.mp List.mem_cons_self) with q | q
        · omega
        · exact b1 x q
      have v : x ≤ y := by
        rcases List.mem_cons.mp (p.symm.mem_iff.mp List.mem_cons_self) with q | q
        · omega
        · exact a1 y q
      omega
    subst e
    rw [srt_eq l m (List.Perm.cons_inv p) a2 b2]
noncomputable def rSortedDI : List V → Hp → VK → Prop := fun xs H Q => ∃ (a : Addr) (kvs : List (Key × V)) (ks : List Int), xs = [.ref a] ∧ Rd H a (.dK kvs) ∧ kvs.map (·.1) = ks.map Sum.inl ∧ ks.length < 64 ∧
  ∀ (ys : List Int) (p : Addr), ys.Perm ks → ys.Pairwise (· ≤ ·) → H p = none → Q (.ref p) (upd H p (.lst (ys.map V.int)))
noncomputable def rSortedT (K : PySem.W.Frag) : List V → Hp → VK → Prop := fun xs H Q => (rSortedI K xs H Q ∨ rSortedDI xs H Q) ∨ rSortedIT K xs H Q
theorem cr_sortedTT (hc : X.calm = true) : CallR X (.builtin "sorted") (rSortedT X.K) := (cr_sortedI.or (call_sortedDI hc)).or cr_sortedIT
theorem keysI_v : ∀ {kvs : List (Key × V)} {ds : List (Key × D)} {ks : List Int}, RepKs F L H kvs ds → keysI ds = some ks → kvs.map (·.1) = ks.map Sum.inl
  | _, _, _, .nil, h => by rw [keysI] at h; cases h; rfl
  | _, _, ks, .cons (k := k) (ds := ds) r t, h => by
    cases k with
    | inr x => cases h
    | inl i =>
      rw [keysI] at h
      cases q : keysI ds with
      | none => rw [q] at h; cases h
      | some js => rw [q] at h; cases h; rw [List.map_cons, List.map_cons, keysI_v t q]
theorem srtP_ok (R : Rel F μ L H st) {vs : List V} {ws : List W} (r : RepWs F μ L H vs ws) (h : PostW F Ew μ L H st (bfnW .srtP ws st) G) : rSortedT F.K vs H G := by
  obtain ⟨ds, d, q1, q2, q⟩ := bfnW_val (b := .srtP) (by decide) (by decide) (by intro o; cases o <;> rfl) h
  have ss := shs_of R r q1
  cases ds with
  | nil => cases q2
  | cons x t =>
    cases t with
    | cons y t => cases x <;> cases q2
    | nil =>
      obtain ⟨v, rfl, s⟩ := ss.one
      cases x <;> try (cases q2; done)
      · rename_i es
        right
        obtain ⟨ns, z, rfl⟩ := Option.map_eq_some_iff.mp (show (allI es).map (fun ns => D.lst ((srtI ns).map D.int)) = some d from q2)
        obtain ⟨a, xs, rfl, f, _, rr⟩ := s.tup
        have sq : SqT F.K H a xs := SqT.of f
        rw [allI_v rr z] at sq
        refine ⟨a, ns, rfl, sq, fun ns' p h1 h2 hp => ?_⟩
        have := srt_eq ns' (srtI ns) (h1.trans (srtI_perm ns).symm) h2 (srtI_srt ns)
        subst this
        exact fin_lst R q hp (ints_reps _)
      · rename_i es
        left
        left
        obtain ⟨ns, z, rfl⟩ := Option.map_eq_some_iff.mp (show (allI es).map (fun ns => D.lst ((srtI ns).map D.int)) = some d from q2)
        obtain ⟨a, xs, rfl, sq, rr⟩ := s.lstS
        rw [allI_v rr z] at sq
        refine ⟨a, ns, rfl, sq, fun ns' p h1 h2 hp => ?_⟩
        have := srt_eq ns' (srtI ns) (h1.trans (srtI_perm ns).symm) h2 (srtI_srt ns)
        subst this
        exact fin_lst R q hp (ints_reps _)
      · rename_i kvs
        left
        right
        obtain ⟨ks, z, e⟩ := Option.bind_eq_some_iff.mp (show (keysI kvs).bind (fun ks => if ks.length < 64 then some (D.lst ((srtI ks).map D.int)) else none) = some d from q2)
        split at e
        · rename_i l64
          cases e
          have fin : ∀ {a : Addr} {xs : List (Key × V)}, Rd H a (.dK xs) → RepKs F L H xs kvs → rSortedDI [.ref a] H G := fun {a xs} rd rk => by
            refine ⟨a, xs, ks, rfl, rd, keysI_v rk z, l64, fun ys p h1 h2 hp => ?_⟩
            have := srt_eq ys (srtI ks) (h1.trans (srtI_perm ks).symm) h2 (srtI_srt ks)
            subst this
            exact fin_lst R q hp (ints_reps _)
          cases s with
          | dic f r2 => exact fin f r2
          | d r2 => cases r2 with | dic _ f r2 => exact fin f r2
        · cases e
/-! ### a call to which things are lent as values -/
/-- the addresses of the things that are lent, with the data that they hold -/
theorem lend (R : Rel F μ L H st) : ∀ {vs : List V} {ws : List W} {ds : List D}, RepWs F μ L H vs ws → vws st ws = some ds → RepDs F (fun a => L a ∨ ∃ o, H a = some o) H vs ds
  | _, _, _, .nil, e => by rw [vws] at e; cases e; exact .nil
  | _, _, _, .cons (w := w) (ws := ws) r t, e => by
    rw [vws] at e
    have k : Kp L H (fun a => L a ∨ ∃ o, H a = some o) H := ⟨⟨fun _ h => .inl h, fun _ _ h => h⟩, fun _ _ _ h => h⟩
    cases q1 : vw st w with
    | none => simp only [q1] at e; cases e
    | some d =>
      cases q2 : vws st ws with
      | none => simp only [q1, q2] at e; cases e
      | some ds =>
        simp only [q1, q2] at e
        cases e
        refine .cons ?_ (lend R t q2)
        have := sh_of R r q1
        cases this with
        | d r2 => exact r2.kp k
        | lst f r2 => exact .lst (.inr ⟨_, f⟩) f (RepDs.kp k r2)
        | dic f r2 => exact .dic (.inr (f.elim (fun f => ⟨_, f⟩) fun ⟨_, f⟩ => ⟨_, f⟩)) f (RepKs.kp k r2)
        | dit f r2 => exact .dit (.inr (f.elim (fun f => ⟨_, f⟩) fun ⟨_, f⟩ => ⟨_, f⟩)) f (RepTs.kp k r2)
theorem lendN (R : Rel F μ L H st) : ∀ (k : Nat) {v : V} {w : W} {d : D}, RepW F μ L H v w → vwN st k w = some d → RepD F (fun a => L a ∨ ∃ o, H a = some o) H v d
  | 0, _, _, _, .p r, e => by
    rw [vwN] at e; cases e
    exact r.kp ⟨⟨fun _ h => .inl h, fun _ _ h => h⟩, fun _ _ _ h => h⟩
  | _ + 1, _, _, _, .p r, e => by
    rw [vwN] at e; cases e
    exact r.kp ⟨⟨fun _ h => .inl h, fun _ _ h => h⟩, fun _ _ _ h => h⟩
  | 0, _, _, _, .r m, e => by rw [vwN] at e; cases e
  | k + 1, v, .r n, d, r0, e => by
    have all : ∀ {vs : List V} {ws : List W} {ds : List D}, RepWs F μ L H vs ws → ws.mapM (vwN st k) = some ds → RepDs F (fun a => L a ∨ ∃ o, H a = some o) H vs ds := by
      intro vs ws ds r
      induction r generalizing ds with
      | nil => intro e; cases e; exact .nil
      | @cons v vs w ws r t ih =>
        intro e
        rw [List.mapM_cons] at e
        cases q1 : vwN st k w with
        | none => rw [q1] at e; cases e
        | some d =>
          rw [q1] at e
          cases q2 : ws.mapM (vwN st k) with
          | none => rw [q2] at e; cases e
          | some ds' =>
            rw [q2] at e
            cases e
            exact .cons (lendN R k r q1) (ih q2)
    have flat : vw st (.r n) = some d → RepD F (fun a => L a ∨ ∃ o, H a = some o) H v d := fun e => by
      have := lend R (.cons r0 .nil) (ds := [d]) (by rw [vws]; simp only [e]; rw [vws])
      cases this with
      | cons r _ => exact r
    rw [vwN] at e
    cases q : st[n]? with
    | none => rw [q] at e; exact flat e
    | some o =>
      rw [q] at e
      cases o with
      | lst ws =>
        obtain ⟨ds, e1, rfl⟩ := Option.map_eq_some_iff.mp e
        obtain ⟨a, rfl, _, ⟨vs, g1, g2⟩, _⟩ := R.thg r0 q rfl
        exact .lst (.inr ⟨_, g1⟩) g1 (all g2 e1)
      | tup ws =>
        obtain ⟨ds, e1, rfl⟩ := Option.map_eq_some_iff.mp e
        obtain ⟨a, rfl, _, ⟨vs, g1, g2⟩, _⟩ := R.thg r0 q rfl
        exact .tup (.inr rfl) g1 (all g2 e1)
      | _ => exact flat e
theorem lendNs (R : Rel F μ L H st) (k : Nat) : ∀ {vs : List V} {ws : List W} {ds : List D}, RepWs F μ L H vs ws → ws.mapM (vwN st k) = some ds → RepDs F (fun a => L a ∨ ∃ o, H a = some o) H vs ds
  | _, _, _, .nil, e => by cases e; exact .nil
  | _, _, _, .cons (w := w) (ws := ws) r t, e => by
    rw [List.mapM_cons] at e
    cases q1 : vwN st k w with
    | none => rw [q1] at e; cases e
    | some d =>
      rw [q1] at e
      cases q2 : ws.mapM (vwN st k) with
      | none => rw [q2] at e; cases e
      | some ds' =>
        rw [q2] at e
        cases e
        exact .cons (lendN R k r q1) (lendNs R k t q2)
theorem lendW (R : Rel F μ L H st) {vs : List V} {ws : List W} {ds : List D} (r : RepWs F μ L H vs ws) (e : lentW st ws = some ds) : RepDs F (fun a => L a ∨ ∃ o, H a = some o) H vs ds := by
  unfold lentW at e
  cases q : vws st ws with
  | some ds' => rw [q] at e; cases e; exact lend R r q
  | none => rw [q] at e; exact lendNs R 6 r e
theorem reps_p : ∀ {vs : List V} {ds : List D}, RepDs F L H vs ds → RepWs F μ L H vs (ds.map W.p)
  | _, _, .nil => .nil
  | _, _, .cons r t => .cons (.p r) (reps_p t)
theorem calB_ok (R : Rel F μ L H st) {vs : List V} {ws : List W} {f ar : Nat} {Q : VK} (r : RepWs F μ L H vs ws) (har : vs.length = ar) (h : PostW F Ew μ L H st (calB C f ws st) Q) : spF F C f ar vs H Q Ew := by
  unfold calB at h
  cases q1 : lentW st ws with
  | none => simp only [q1] at h; exact h.elim
  | some ds =>
    simp only [q1] at h
    refine ⟨[], fun a => L a ∨ ∃ o, H a = some o, [], ds.map W.p, har, ⟨rfl, fun n o a e => (by cases e), fun n m a e => (by obtain ⟨o, e, _⟩ := e; cases e), fun a ha => ?_⟩, reps_p (lendW R r q1), ?_⟩
    · rcases ha with ha | ha
      · exact R.told a ha
      · exact ha
    have back : ∀ {μ' L' H' s'}, Ext [] (fun a => L a ∨ ∃ o, H a = some o) H [] μ' L' H' s' → Ext μ L H st μ L H' st ∧ Rel F μ L H' st := fun {μ' L' H' s'} e => by
      have kp : ∀ a o, H a = some o → H' a = some o := fun a o h => e.keep a o h fun ⟨n, ⟨o, z, _⟩, _⟩ => by cases z
      refine ⟨⟨fun a o h _ => kp a o h, fun a _ h => kp a _ h, fun _ h => h, fun _ h => .inl h, fun _ _ h => h, fun _ h => .inr h, fun _ h => .inr h⟩, ⟨R.len, fun n o a e m al => ?_, R.inj, fun a h => ?_⟩⟩
      · obtain ⟨x, y⟩ := R.obj n o a e m al
        exact ⟨x, y.mono ⟨⟨fun _ h => h, fun a _ h => kp a _ h⟩, fun a o _ h => kp a o h⟩ (fun _ _ h => h) fun u hu => kp a u hu⟩
      · obtain ⟨o, e⟩ := R.told a h
        exact ⟨o, kp a o e⟩
    cases q3 : C f (ds.map W.p) [] with
    | err => simp only [q3] at h; exact h.elim
    | exc c s' =>
      simp only [q3] at h
      intro μ' L' H' e R'
      obtain ⟨E, RR⟩ := back e
      exact h μ L H' E RR
    | ok w s' =>
      simp only [q3] at h
      intro μ' L' H' e R' v rv
      obtain ⟨E, RR⟩ := back e
      cases w with
      | r n => exact h.elim
      | p d =>
        cases rv with
        | p rv =>
          cases rv <;> try (exact h.elim)
          · exact h μ L H' E RR _ (.p .non)
          · exact h μ L H' E RR _ (.p (.bl _))
          · exact h μ L H' E RR _ (.p (.int _))
          · exact h μ L H' E RR _ (.p (.str _))
theorem s_calB {fid k : Nat} {f : Addr} {fd : FuncData} {ps : List Str} {x : Str} {p : Pos} {es : Exs} {ees : List Expr} (A : FnAt F C X k fid f fd ps) (kp : PySem.W.keepIn X.K (.ref f) = true) (hr : Room k X.A) (hx : Passes (CX X.prog X.w) X Ew)
    (hg : Gl X x) (hm : X.mg x = some (.ref f)) (hd : (x == ("__debug__" : Str)) = false) (hl : es.len = ps.length) (ha : PA X ees (tA F Ew (evEs C es))) (hp : ees.all plainX = true) (he : ees.isEmpty = false) :
    PE X (.Call (.Name x p) ees [] pos) (tE F Ew (evE C (.calB fid es))) := by
  have key : ∀ σ H Q, tE F Ew (evE C (.calB fid es)) σ H Q → tA F Ew (evEs C es) σ H fun vs H1 => spF F C fid ps.length (vs ++ []) H1 Q Ew := by
    rintro σ H Q ⟨μ, L, ρ, st, R, RE, h⟩
    rw [evE] at h
    refine in_Es R RE h fun ws vs μ1 L1 H1 st1 hw e1 R1 RE1 r1 h1 => ?_
    rw [List.append_nil]
    exact calB_ok R1 r1 (by rw [repws_len r1, hw, hl]) h1
  cases ees with
  | nil => cases he
  | cons e ees =>
    rw [List.all_cons, Bool.and_eq_true] at hp
    exact (pe_call A.ok hr hg hm kp A.bd .nil hx ha hd (star_plain hp.1) (noStar hp.2)).imp key
end
section
variable {F : Fx} {Ew : XK} {X : Cx} {C : Call} {a b c : Ex} {ea eb ec : Expr} {pos : Pos} {μ μ' : List Addr} {L L' : Addr → Prop} {H H' : Hp} {st st' : Sto} {G : VK}
/-! ### repr -/
noncomputable def rRpr (K : PySem.W.Frag) : List V → Hp → VK → Prop := fun xs H Q => ∃ x d, xs = [x] ∧ Dp K H x d ∧ rprOk d = true ∧ Q (.str d.shown) H
theorem cr_repr (hg : X.A.guards = some []) (hu : X.A.units + 66 < cLine) : CallR X (.builtin "repr") (rRpr X.K) := by
  intro pins s σ H xs us Q I r h
  obtain ⟨x, d, rfl, hd, ok, q⟩ := h
  obtain ⟨u, rfl, t⟩ := vals1 r
  obtain ⟨as, rd⟩ := Dp.reads I d x u hd t
  unfold rprOk at ok
  simp only [Bool.and_eq_true, decide_eq_true_eq, Bool.not_eq_true'] at ok
  obtain ⟨⟨⟨⟨k1, k2⟩, k3⟩, k4⟩, k5⟩ := ok
  have hr : ∃ a, u = .ref a := by
    cases rd <;> first
      | (cases k1; done)
      | exact ⟨_, rfl⟩
  obtain ⟨a, rfl⟩ := hr
  exact repr_of_reads' rd k2 (PyData.noDict_hsm k3) hg (by omega) (fun _ _ e => e) (fun h' u tk k => ⟨.str d.shown, H, I.kept k, ⟨_, rfl⟩, q⟩) k5
theorem s_rpr {x : Str} {p : Pos} (hK : X.K = F.K) (hu : X.A.units + 66 < cLine) (hgd : X.A.guards = some []) (hx : x = ("repr" : Str)) (hg : Gl X "repr") (hm : X.mg "repr" = none) (ha : PE X ea (tE F Ew (evE C a))) (hp : plainX ea = true) :
    PE X (.Call (.Name x p) [ea] [] pos) (tE F Ew (evE C (.rpr a))) := by
  subst hx
  refine (pe_callB (cr_repr hgd hu) hg hm rfl (pa_cons ha pa_nil (star_plain hp)) (by decide) (by decide) (star_plain hp) rfl).imp ?_
  rintro σ H Q ⟨μ, L, ρ, st, R, RE, h⟩
  rw [evE] at h
  refine in_E R RE h fun x v μ1 L1 H1 st1 e1 R1 RE1 r1 h1 => ?_
  cases q1 : pyW st1 4 x with
  | none => simp only [q1] at h1; exact h1.elim
  | some e =>
    simp only [q1] at h1
    split at h1
    · rename_i z
      obtain ⟨dp, _⟩ := dpW_of R1 4 r1 q1
      exact ⟨v, e, rfl, by rw [hK]; exact dp, z, fin_str R1 h1⟩
    · exact h1.elim
end
end T

set_option maxRecDepth 100000
set_option maxHeartbeats 4000000
/-! T: try: .. except C as e: name = e; isinstance of what was caught; count -/
namespace T
open PySem L2 PySem.Spec PyProof.Rows

/-! ### an exception that stays -/
/-- what is tracked of it -/
abbrev kept (oe : Obj) : HO := .frz oe (.ext fun _ => True)
section
variable {X : Cx} {pins : List (Addr × Obj)} {σ : L2.St} {H : Hp} {s : Shared}
/-- a record that nobody knows of becomes a known one -/
theorem inv_lay {a : Addr} {oe : Obj} (I : Inv X pins σ H s) (there : s.heap.get? a = some oe) (free : H a = none) (young : X.s_0.heap.get? a = none) (nL : X.env.locals ≠ a)
    (nC : ∀ x c, X.env.cells.lookup x = some c → c ≠ a) (nP : ∀ p ∈ X.pn ++ pins, p.1 ≠ a) : Inv X pins σ (upd H a (kept oe)) s where
  ok := I.ok
  os := I.os
  bare := I.bare
  base := by
    have old : ∀ (b : Addr) (u : HO), H b = some u → upd H a (kept oe) b = some u := fun b u e => by rw [upd_ne (ne_of_none e free)]; exact e
    have ne0 : ∀ (b : Addr) (o : Obj), X.s_0.heap.get? b = some o → b ≠ a := fun b o e z => by rw [z, young] at e; cases e
    exact {
      keep := I.base.keep
      slot := I.base.slot
      free := fun b o e n hx => by rw [upd_ne (ne0 b o e)]; exact I.base.free b o e n hx
      there := I.base.there
      tups := fun b xs e => old b _ (I.base.tups b xs e)
      frzs := fun b o u e => old b _ (I.base.frzs b o u e)
      tbls := fun b ps e => (I.base.tbls b ps e).elim fun m z => ⟨m, old b _ z⟩ }
  loc := I.loc
  cell := I.cell
  free := by rw [upd_ne nL]; exact I.free
  freeC := fun x c e => by rw [upd_ne (nC x c e)]; exact I.freeC x c e
  pin := fun p hp => by
    obtain ⟨h1, h2, h3⟩ := I.pin p hp
    exact ⟨h1, by rw [upd_ne (nP p hp)]; exact h2, h3⟩
  hok := fun b u e => by
    by_cases hb : b = a
    · rw [hb] at e ⊢
      rw [upd_same] at e
      cases e
      exact ⟨there, trivial, ⟨oe, there⟩, fun _ _ _ _ => trivial⟩
    · rw [upd_ne hb] at e
      have old : ∀ (b : Addr) (u : HO), H b = some u → upd H a (kept oe) b = some u := fun b u e => by rw [upd_ne (ne_of_none e free)]; exact e
      exact (I.hok b u e).stay (fun _ _ _ q => q) (fun c q => old c _ q) fun c xs q => old c _ q
  len := I.len
/-- into the clause's suite, with no pin more -/
theorem inv_into {a : Addr} (I : Inv X pins σ H s) : Inv (X.suite a (X.pn ++ pins)) [] σ H s where
  ok := I.ok.suite _ _
  os := I.os
  bare := I.bare
  base := I.base
  loc := I.loc
  cell := I.cell
  free := I.free
  freeC := I.freeC
  pin := fun p hp => I.pin p (by simpa using hp)
  hok := I.hok
  len := I.len
theorem inv_out {a : Addr} {pn : List (Addr × Obj)} (ok : X.Ok) (I : Inv (X.suite a (X.pn ++ pins)) pn σ H s) : Inv X pins σ H s where
  ok := ok
  os := I.os
  bare := I.bare
  base := I.base
  loc := I.loc
  cell := I.cell
  free := I.free
  freeC := I.freeC
  pin := fun p hp => I.pin p (List.mem_append_left _ hp)
  hok := I.hok
  len := I.len
end
/-- the wishes behind the clause: its name is gone -/
noncomputable def offN (D : Ends) : Option (Str × Nat) → Ends
  | none => D
  | some (_, i) => { nx := fun σ H => D.nx (σ.set i none) H, rt := D.rt, bk := fun σ H => D.bk (σ.set i none) H, ct := fun σ H => D.ct (σ.set i none) H }
/-- the names as the suite begins -/
noncomputable def onN (σ : L2.St) (a : Addr) : Option (Str × Nat) → L2.St
  | none => σ
  | some (_, i) => σ.set i (some (.ref a))
/-- what is told of an exception of the body -/
noncomputable def CatchT (X : Cx) (c : Value) (nm : Option (Str × Nat)) (ts : Addr → TS) (Eo : XK) (D : Ends) (cls : Value) (d : Option Addr) (H : Hp) : Prop :=
  ∃ b, PySem.W.exmOne X.K cls c = some b ∧ (b = true → ∀ (a : Addr) (oe : Obj) (σ : L2.St), H a = none → Zc cls d oe → (∃ vs, oe.data = .fields vs) → σ.length = X.N.length → ts a (offN D nm) (onN σ a nm) (upd H a (kept oe))) ∧ (b = false → Eo cls d H)
section
variable {X : Cx} {x : Str} {c : Value} {body suite : List Stmt} {b₀ : Stmt} {np po po' : Pos} {tb : XK → TS} {ts : Addr → TS} {Eo : XK}
/-- the clause is left: its name is taken away -/
theorem clause_end {pins : List (Addr × Obj)} {a : Addr} {nm : Option (Str × Nat)} {D : Ends} {fl : PySem.Flow} {s : Shared} {M : Model} {A : Around} {E : Value → Shared → Prop} (ok : X.Ok) (nd : X.N.Nodup) (hnm : ∀ n i, nm = some (n, i) → X.N[i]? = some n ∧ X.env.kindOf n = some .local)
    (h : SP (X.suite a (X.pn ++ pins)) [] (offN D nm) fl s) : match nm.map Prod.fst with
      | none => SP X pins D fl s
      | some n => wpAny M A (do bindName X.env n .none; unbindBehindTheSuite X.env n po') (fun _ s' => SP X pins D fl s') E s := by
  cases nm with
  | none =>
    cases fl with
    | next => obtain ⟨σ, H, I, q⟩ := h; exact ⟨σ, H, inv_out ok I, q⟩
    | brk => obtain ⟨σ, H, I, q⟩ := h; exact ⟨σ, H, inv_out ok I, q⟩
    | cont => obtain ⟨σ, H, I, q⟩ := h; exact ⟨σ, H, inv_out ok I, q⟩
    | ret u => obtain ⟨v, σ, H, I, r, q⟩ := h; exact ⟨v, σ, H, inv_out ok I, r, q⟩
  | some p =>
    obtain ⟨n, i⟩ := p
    obtain ⟨h1, h2⟩ := hnm n i rfl
    cases fl with
    | next => obtain ⟨σ, H, I, q⟩ := h; exact gone_ok (inv_out ok I) nd h1 h2 fun s' J => ⟨_, _, J, q⟩
    | brk => obtain ⟨σ, H, I, q⟩ := h; exact gone_ok (inv_out ok I) nd h1 h2 fun s' J => ⟨_, _, J, q⟩
    | cont => obtain ⟨σ, H, I, q⟩ := h; exact gone_ok (inv_out ok I) nd h1 h2 fun s' J => ⟨_, _, J, q⟩
    | ret u => obtain ⟨v, σ, H, I, r, q⟩ := h; exact gone_ok (inv_out ok I) nd h1 h2 fun s' J => ⟨_, _, _, J, r, q⟩
theorem ps_tryK (nm : Option (Str × Nat)) (hst : X.stack = X.env :: X.outer) (hfm : X.env.frame = some X.env.locals) (hex : X.ex = []) (nd : X.N.Nodup) (hnm : ∀ n i, nm = some (n, i) → X.N[i]? = some n ∧ X.env.kindOf n = some .local)
    (hc : Names X x c) (tk : Takes X fun cls d _ H => Eo cls d H)
    (hb : ∀ (E : XK) (pn : List (Addr × Obj)) (xe : Value → Shared → Prop), (Takes (X.tr pn xe) fun cls d _ H => E cls d H) → PassesOwn (model X.prog X.w) X.A X.env xe → PSs (X.tr pn xe) body (tb E))
    (hsu : ∀ (a : Addr) (pn : List (Addr × Obj)), PSs (X.suite a pn) (b₀ :: suite) (ts a)) :
    PS X (.Try body [.ExceptHandler (some (.Name x np)) (nm.map Prod.fst) (b₀ :: suite) po'] [] [] po) fun D σ H => σ.length = X.N.length → ∃ E : XK, tb E D σ H ∧ ∀ cls d H', E cls d H' → CatchT X c nm ts Eo D cls d H' := by
  refine ⟨fun pins s σ H D I h => ?_⟩
  obtain ⟨E, hE, catch_⟩ := h I.len
  have ok := I.ok
  have frames : X.A.frames = some (X.env :: X.outer) := by rw [← hst]; exact ok.frames
  refine wpAny_Try_except ?_
  let xe : Value → Shared → Prop := fun e s₁ => wpAny (model X.prog X.w) X.A (noteFrame e X.env) (fun _ s₂ => wpAny (model X.prog X.w) X.A (setFlight e none) (fun _ s₃ =>
    wpAny (model X.prog X.w) X.A (handleBy e X.env [.ExceptHandler (some (.Name x np)) (nm.map Prod.fst) (b₀ :: suite) po']) (SP X pins D) X.xe s₃) X.xe s₂) X.xe s₁
  have caught : Takes (X.tr (X.pn ++ pins) xe) fun cls d _ H => E cls d H := by
    intro u s1 air
    obtain ⟨a, B, sI, pins1, σ1, H1, cls, d, rfl, J0, ground, up1, sky, na, eos, bare1, w⟩ := air
    obtain ⟨b, ex1, yes, no⟩ := catch_ cls d H1 w
    have J : Inv X pins σ1 H1 sI := J0.ofTry ok
    show wpAny (model X.prog X.w) X.A (noteFrame (.ref a) X.env) _ _ _
    refine Sky.land (outer := X.outer) (L := X.env.locals) Zc.steady frames hfm (hst ▸ sky) fun h2 fl2 up2 => ?_
    have J2 : Inv X pins σ1 H1 { s1 with heap := h2 } := J.landed ground fl2.1 (up1.trans up2) eos bare1
    obtain ⟨oe2, vs2, there2, z2, data2⟩ := fl2.there
    have apart : a ∉ frs (X.env :: X.outer) := fun hm => by
      obtain ⟨_, o', e', notRec⟩ := fl2.2.2.1.mem hm
      cases there2.symm.trans e'
      exact notRec _ data2
    have fresh : sI.heap.get? a = none := by
      cases q : sI.heap.get? a with
      | none => rfl
      | some o =>
        have := ground a o q (by rw [show (X.tr (X.pn ++ pins) xe).stack = X.env :: X.outer from hst]; exact apart)
        rw [fl2.2.1] at this
        cases this
    have young : X.s_0.heap.get? a = none := by
      cases q : X.s_0.heap.get? a with
      | none => rfl
      | some o =>
        obtain ⟨o', e'⟩ := J.base.there a o q (by rw [hex]; simp)
        rw [fresh] at e'
        cases e'
    have nL : X.env.locals ≠ a := fun z => apart (by unfold frs; rw [List.filterMap_cons, hfm, ← z]; exact List.mem_cons_self)
    have nC : ∀ y k, X.env.cells.lookup y = some k → k ≠ a := fun y k e z => by
      obtain ⟨v, _, ec, _⟩ := J.cell y k e
      rw [z, fresh] at ec
      cases ec
    have nP : ∀ p ∈ X.pn ++ pins, p.1 ≠ a := fun p hp z => by
      have := (J.pin p hp).1
      rw [z, fresh] at this
      cases this
    refine wpAny_handleBy_cons (codeAny_handlers_test ?_) nofun
    have kind2 : PySem.W.Looks (model X.prog X.w) h2 (typeOf (.ref a)) cls := fun A Q E s k q => wpAny_typeOf_ref (k _ _ there2) (by rw [z2.1]; exact q)
    have look2 := PySem.W.exm_one (M := model X.prog X.w) J2.kIn kind2 ex1
    have S2 : Inv (X.suite a (X.pn ++ pins)) [] σ1 H1 { s1 with heap := h2 } := inv_into J2
    have named : ∀ {Q : Value → Shared → Prop} {E : Value → Shared → Prop}, Q c { s1 with heap := h2 } → wpAny (model X.prog X.w) (X.A.mark (some (.ref a))) (eval (.Name x np) X.env) Q E { s1 with heap := h2 } := fun q => by
      rcases hc with ⟨g1, g2, g3 | ⟨g3, g4, g5⟩⟩
      · exact ld_glob S2 g1 g3 q g2
      · exact ld_blt S2 g1 g3 g4 q g5 g2
    refine named (look2.here ?_)
    cases b with
    | false =>
      show wpAny _ X.A (handleBy (.ref a) X.env []) _ _ _
      refine wpAny_handleBy_nil ?_
      obtain ⟨_, _, _, oe, vs, T, oT, ts', g1, g2, g3, g4, _⟩ := id fl2
      unfold PySem.passOn
      refine wpAny_bind (wpAny_field g1 g3 g4 ?_)
      have hT : ¬ ((Value.ref T == Value.none) = true) := by simp
      rw [if_neg hT]
      have out : wpAny (model X.prog X.w) X.A (setFlight (.ref a) X.env.frame) (fun _ s3 => wpAny (model X.prog X.w) X.A (throw (.ref a) : Sem PySem.Flow) (SP X pins D) X.xe s3) X.xe { s1 with heap := h2 } := by
        rw [hfm]
        exact HandSPX.setFlight_upZ fl2 fun h3 held3 up3 => wpAny_throw (tk _ _ ⟨a, B, sI, pins, σ1, H1, cls, d, rfl, J, ground, (up1.trans up2).trans up3, .inr (.inr (hst.symm ▸ held3)), na, eos, bare1, no rfl⟩)
      first
        | exact wpAny_bind out
        | exact wpAny_bind (wpAny_pure (wpAny_bind out))
    | true =>
      have go : ∀ (h3 : Heap), HandSPX.FlyingZ B (X.env :: X.outer) a (Zc cls d) h3 → h2.UpToSlots h3 → ∃ oe, Zc cls d oe ∧ (∃ vs, oe.data = .fields vs) ∧ Inv (X.suite a (X.pn ++ pins)) [] σ1 (upd H1 a (kept oe)) { s1 with heap := h3 } := fun h3 fl3 up3 => by
        obtain ⟨oe3, vs3, there3, z3, data3⟩ := fl3.there
        have J3 : Inv X pins σ1 H1 { s1 with heap := h3 } := J.landed ground fl3.1 ((up1.trans up2).trans up3) eos bare1
        exact ⟨oe3, z3, ⟨_, data3⟩, inv_into (inv_lay J3 there3 na young nL nC nP)⟩
      cases nm with
      | none =>
        refine codeAny_handlers_suite (HandSPX.lands_againZ fl2 fun h3 fl3 up3 => ?_)
        obtain ⟨oe, z3, data3, S3⟩ := go h3 fl3 up3
        exact wpAny_mono ((hsu a (X.pn ++ pins)).run [] _ _ _ _ S3 (yes rfl a oe σ1 na z3 data3 J.len)) (fun fl s4 hsp => clause_end (po' := po') (M := model X.prog X.w) (A := X.A) (E := X.xe) ok nd hnm hsp) fun _ _ z => False.elim z
      | some p =>
        obtain ⟨n, i⟩ := p
        obtain ⟨h1, h2'⟩ := hnm n i rfl
        refine codeAny_handlers_suite_as (HandSPX.lands_againZ fl2 fun h3 fl3 up3 => ?_)
        obtain ⟨oe, z3, data3, S3⟩ := go h3 fl3 up3
        refine store_ok (X := X.suite a (X.pn ++ pins)) (v := .ref a) S3 nd h1 (.inl h2') rfl (fun s4 S4 => ?_) (.inr h2')
        exact wpAny_mono ((hsu a (X.pn ++ pins)).run [] s4 _ _ _ S4 (yes rfl a oe σ1 na z3 data3 J.len)) (fun fl s5 hsp => clause_end (po' := po') (M := model X.prog X.w) (A := X.A) (E := X.xe) ok nd hnm hsp) fun _ _ z => False.elim z
  refine wpAny_mono ((hb E (X.pn ++ pins) xe caught PassesOwn.looking).run [] s σ H D (I.toTry _) hE) (fun fl s1 h1 => ?_) fun _ _ h => h
  cases fl with
  | next =>
    obtain ⟨σ1, H1, J, q⟩ := h1
    exact wpAny_execs_nil ⟨σ1, H1, J.ofTry ok, q⟩
  | brk => exact h1.elim fun σ1 z => z.elim fun H1 z => ⟨σ1, H1, z.1.ofTry ok, z.2⟩
  | cont => exact h1.elim fun σ1 z => z.elim fun H1 z => ⟨σ1, H1, z.1.ofTry ok, z.2⟩
  | ret u =>
    obtain ⟨v, σ1, H1, J, r, q⟩ := h1
    exact ⟨v, σ1, H1, J.ofTry ok, r, q⟩
end

/-! ### try in the language -/
section
variable {F : Fx} {Ew : XK} {X : Cx} {C : Call} {a b c : Ex} {ea eb ec : Expr} {pos : Pos} {μ μ' : List Addr} {L L' : Addr → Prop} {H H' : Hp} {st st' : Sto} {G : VK}
/-- what the suite name = .. puts -/
noncomputable def putT (k : Nat) (e : Option Nat) (sv : Addr → V) (a : Addr) : TS := fun D σ H => (∀ i, e = some i → σ[i]? = some (some (.ref a))) ∧ D.nx (σ.set k (some (sv a))) H
theorem suite_as {k i : Nat} {z n : Str} {zp np ap : Pos} {a : Addr} {pn : List (Addr × Obj)} (nd : X.N.Nodup) (hk : X.N[k]? = some z) (hz : Loc X.env.scope z ∧ (X.fn z = true ∨ X.env.scope.names.lookup z = some .local)) (hi : X.N[i]? = some n) (hn : X.env.scope.names.lookup n = some .local)
    (d1 : (n == ("__debug__" : Str)) = false) (d2 : (n == ("__classdict__" : Str)) = false) : PSs (X.suite a pn) [.Assign [.Name z zp] (.Name n np) ap] (putT k (some i) V.ref a) :=
  (pss_cons (ps_set (X := X.suite a pn) nd hk hz.1 (pe_var (X := X.suite a pn) hi (.inl hn) d1 d2) rfl hz.2) pss_nil).imp fun D σ H h => ⟨_, h.1 i rfl, h.2⟩
theorem suite_true {k j : Nat} {z : Str} {zp np ap : Pos} {a : Addr} {pn : List (Addr × Obj)} (nd : X.N.Nodup) (hk : X.N[k]? = some z) (hz : Loc X.env.scope z ∧ (X.fn z = true ∨ X.env.scope.names.lookup z = some .local)) :
    PSs (X.suite a pn) [.Assign [.Name z zp] (.Constant (.bool true) j np) ap] (putT k none (fun _ => .bl true) a) :=
  (pss_cons (ps_set (X := X.suite a pn) nd hk hz.1 pe_bl rfl hz.2) pss_nil).imp fun D σ H h => h.2
theorem rel_blank {ρ : Nv} {σ : L2.St} {k : Nat} {v : V} {w : W} (hl : ρ.length ≤ σ.length) (hv : k < ρ.length → σ[k]? = some (some v)) (r : RepW F μ L H v w) : RelE F μ L H σ ((List.replicate ρ.length none).set k (some w)) := by
  refine ⟨by simpa using hl, fun j u e => ?_⟩
  by_cases hj : k = j
  · subst hj
    have hk : k < ρ.length := by
      have := (List.getElem?_eq_some_iff.mp e).1
      simpa using this
    rw [List.getElem?_set_self (by simpa using hk)] at e
    cases e
    exact ⟨v, hv hk, r⟩
  · rw [List.getElem?_set_ne hj, List.getElem?_replicate] at e
    split at e <;> cases e
theorem x_tryA {k : Nat} {e : Option Nat} {x : Str} {yes no : List Nat} {cc : Nat} {sb : Sms} {body : List Stmt} {suite : Stmt} {np po' : Pos} {sv : Addr → V} (nm : Option (Str × Nat)) (hst : X.stack = X.env :: X.outer) (hfm : X.env.frame = some X.env.locals) (hex : X.ex = []) (nd : X.N.Nodup)
    (hnm : ∀ n i, nm = some (n, i) → X.N[i]? = some n ∧ X.env.kindOf n = some .local) (hnk : nm.map Prod.snd = e) (hek : e ≠ some k) (hkN : ∃ z, X.N[k]? = some z) (hsv : (∃ i, e = some i ∧ sv = V.ref) ∨ (e = none ∧ sv = fun _ => .bl true))
    (hc : Names X x (.ref (F.Cl cc))) (tk : Takes X fun cls d _ H => Ew cls d H) (hyes : ∀ c ∈ yes, PySem.W.exmOne X.K (.ref (F.Cl c)) (.ref (F.Cl cc)) = some true) (hno : ∀ c ∈ no, PySem.W.exmOne X.K (.ref (F.Cl c)) (.ref (F.Cl cc)) = some false)
    (hb : ∀ (E : XK) (pn : List (Addr × Obj)) (xe : Value → Shared → Prop), (Takes (X.tr pn xe) fun cls d _ H => E cls d H) → PassesOwn (model X.prog X.w) X.A X.env xe → PSs (X.tr pn xe) body (tS F E (evSs C sb)))
    (hsu : ∀ (a : Addr) (pn : List (Addr × Obj)), PSs (X.suite a pn) [suite] (putT k e sv a)) :
    PS X (.Try body [.ExceptHandler (some (.Name x np)) (nm.map Prod.fst) [suite] po'] [] [] pos) (tS F Ew (evS C (.tryA k e x yes no sb))) :=
  (ps_tryK (b₀ := suite) (suite := []) nm hst hfm hex nd hnm hc tk hb hsu).imp fun D σ H ⟨μ, L, ρ, st, R, RE, h⟩ => by
    intro hlen
    rw [evS] at h
    refine ⟨fun cls d H' => ∃ c' st' μ' L', cls = .ref (F.Cl c') ∧ d = none ∧ evSs C sb ρ st = .exc c' st' ∧ Ext μ L H st μ' L' H' st' ∧ Rel F μ' L' H' st', ⟨μ, L, ρ, st, R, RE, ?_⟩, ?_⟩
    · cases q : evSs C sb ρ st with
      | ok o s => rw [q] at h; exact h
      | err => rw [q] at h; exact h
      | exc c' s => exact fun μ' L' H' e R' => ⟨c', s, μ', L', rfl, rfl, rfl, e, R'⟩
    · rintro cls d H' ⟨c', st', μ', L', rfl, rfl, q, ex, R'⟩
      simp only [q] at h
      by_cases hy : c' ∈ yes
      · rw [if_pos hy] at h
        refine ⟨true, hyes c' hy, fun _ a oe σ' na z data hl' => ?_, nofun⟩
        have R2 : Rel F μ' (fun b => L' b ∨ b = a) (upd H' a (kept oe)) st' := Rel.val R' na
        have e2 := ex.trans (Ext.val R' (u := kept oe) na)
        have fin := h μ' _ _ e2 R2
        have rl : ρ.length ≤ σ'.length := by rw [hl', ← hlen]; exact RE.1
        obtain ⟨z', hz'⟩ := hkN
        have hk : k < σ'.length := by rw [hl']; exact (List.getElem?_eq_some_iff.mp hz').1
        have ro : RepW F μ' (fun b => L' b ∨ b = a) (upd H' a (kept oe)) (.ref a) (.p (.exn c')) := .p (.exn (.inr rfl) upd_same z.1 z.2 data)
        rcases hsv with ⟨i, rfl, rfl⟩ | ⟨rfl, rfl⟩
        · cases nm with
          | none => cases hnk
          | some p =>
            obtain ⟨n, i'⟩ := p
            cases hnk
            have hi : i' < σ'.length := by rw [hl']; exact (List.getElem?_eq_some_iff.mp (hnm n i' rfl).1).1
            have hik : i' ≠ k := fun e => hek (by rw [e])
            refine ⟨fun j hj => (by cases hj; exact List.getElem?_set_self hi), ?_⟩
            refine fin _ (rel_blank (by simpa [onN] using rl) (fun _ => ?_) ro)
            show (((σ'.set i' (some (.ref a))).set k (some (.ref a))).set i' none)[k]? = _
            rw [List.getElem?_set_ne hik, List.getElem?_set_self (by simpa using hk)]
        · cases nm with
          | some p => cases hnk
          | none =>
            refine ⟨nofun, ?_⟩
            exact fin _ (rel_blank (by simpa [onN] using rl) (fun _ => List.getElem?_set_self hk) (.p (.bl true)))
      · rw [if_neg hy] at h
        by_cases hn : c' ∈ no
        · rw [if_pos hn] at h
          exact ⟨false, hno c' hn, nofun, fun _ => h μ' L' H' ex R'⟩
        · rw [if_neg hn] at h
          exact h.elim

/-! ### isinstance(caught, X) -/
/-- a class whose exceptions are caught -/
structure ExcR (F : Fx) (c : Nat) : Prop where
  cl : ExcC F.K (F.Cl c)
  self : PySem.W.subIn F.K (.ref (F.Cl c)) (.ref (F.Cl c)) = some true
  val : PySem.W.subIn F.K (.ref (F.Cl c)) (.type "ValueError") = some true
theorem kit_exc {K : PySem.W.Frag} {A B : Addr} {b : Bool} (h0 : PySem.W.subIn K (.ref A) (.ref A) = some true) (h : PySem.W.subIn K (.ref A) (.ref B) = some b) (hd : PySem.W.hasDictIn K B = true) (ty : PySem.W.typeIn K (.ref B) = some (.type "type")) : PySem.W.kitOne K (.ref A) (.ref B) = some b := by
  unfold PySem.W.kitOne
  by_cases e : A = B
  · subst e
    rw [h0] at h
    cases h
    rw [if_pos (beq_self_eq_true _)]
  · have ne : ¬ ((Value.ref A == Value.ref B) = true) := fun z => e (Value.ref.inj (beq_iff_eq.mp z))
    rw [if_neg ne]
    obtain ⟨cd, hc, _⟩ := PySem.W.any_some hd
    show (if ((PySem.W.clsIn K B).isSome && PySem.W.typeIn K (.ref B) == some (.type "type")) = true then PySem.W.subIn K (.ref A) (.ref B) else none) = some b
    have t2 : ((PySem.W.clsIn K B).isSome && PySem.W.typeIn K (.ref B) == some (.type "type")) = true := by rw [hc, ty] <;> rfl
    rw [if_pos t2]
    exact h
theorem kit_val {K : PySem.W.Frag} {A : Addr} {b : Bool} (h : PySem.W.subIn K (.ref A) (.type "ValueError") = some b) : PySem.W.kitOne K (.ref A) (.type "ValueError") = some b := by
  show (if (Value.ref A == Value.type "ValueError") = true then some true else PySem.W.kitCls K (.ref A) (.type "ValueError")) = some b
  have n : (Value.ref A == Value.type "ValueError") = false := rfl
  rw [n, if_neg Bool.false_ne_true]
  show (if PySem.W.kitMeta "ValueError" = true then PySem.W.subIn K (.ref A) (.type "ValueError") else none) = some b
  rw [if_pos (by decide +kernel)]
  exact h
theorem kit_non {K : PySem.W.Frag} {B : Addr} (hd : PySem.W.hasDictIn K B = true) (ty : PySem.W.typeIn K (.ref B) = some (.type "type")) : PySem.W.kitOne K (.type "NoneType") (.ref B) = some false := by
  obtain ⟨cd, hc, _⟩ := PySem.W.any_some hd
  show (if ((PySem.W.clsIn K B).isSome && PySem.W.typeIn K (.ref B) == some (.type "type")) = true then PySem.W.subIn K (.type "NoneType") (.ref B) else none) = some false
  have t2 : ((PySem.W.clsIn K B).isSome && PySem.W.typeIn K (.ref B) == some (.type "type")) = true := by rw [hc, ty] <;> rfl
  rw [if_pos t2]
  rfl
theorem kit_nonV {K : PySem.W.Frag} : PySem.W.kitOne K (.type "NoneType") (.type "ValueError") = some false := kit_ty (by decide +kernel)
/-- an exception that was kept, asked for a class -/
noncomputable def rIsX (F : Fx) : List V → Hp → VK → Prop := fun xs H Q => ∃ (a : Addr) (oe : Obj) (c : Nat) (cv : V) (u : Value) (b : Bool), xs = [.ref a, cv] ∧ ClsV cv u ∧ H a = some (kept oe) ∧ oe.cls = .ref (F.Cl c) ∧ oe.dict = none ∧ (∃ vs, oe.data = .fields vs) ∧
  ExcC F.K (F.Cl c) ∧ PySem.W.kitOne F.K (.ref (F.Cl c)) u = some b ∧ Q (.bl b) H
theorem call_isX (hK : X.K = F.K) : CallR X (.builtin "isinstance") (rIsX F) := by
  intro pins s σ H xs us Q I r h
  obtain ⟨a, oe, c, cv, u, b, rfl, k, hH, h1, h2, ⟨vs, h3⟩, hE, hk, q⟩ := h
  obtain ⟨u1, u2, rfl, r1, r2⟩ := vals2 r
  cases (show u1 = Value.ref a from r1)
  cases k.eq r2
  obtain ⟨hg, _⟩ := I.hok a _ hH
  have J : PySem.W.InstAt s.heap a oe (F.Cl c) none := by
    obtain ⟨oc, od, oda, osl⟩ := oe
    dsimp only at h1 h2 h3
    subst h1 h2 h3
    exact ⟨hg, rfl, rfl, trivial⟩
  rw [← hK] at hE hk
  exact PySem.W.kia_one (PySem.W.handS_kitx_exc hE.hg hE.hk hE.hs hE.hd hE.ha hE.hn hE.ht hE.hm) I.kIn J hk nofun fun tk => ⟨.bl b, H, I.tok tk, rfl, q⟩
theorem lookup_in {c : Nat} {b : Bool} : ∀ {cs : List (Nat × Bool)}, cs.lookup c = some b → (c, b) ∈ cs
  | [], e => by cases e
  | (c', b') :: r, e => by
    rw [List.lookup_cons] at e
    split at e
    · rename_i q
      cases e
      rw [beq_iff_eq.mp q]
      exact List.mem_cons_self
    · exact List.mem_cons_of_mem _ (lookup_in e)
theorem s_isE {x y : Str} {p q : Pos} {cs : List (Nat × Bool)} {cv : V} {u : Value} (hK : X.K = F.K) (hg : Gl X x) (hm : X.mg x = none) (hx : x = "isinstance") (hn : x ≠ "__name__") (hd : (x == ("__debug__" : Str)) = false)
    (hy : PE X (.Name y q) (tC cv)) (hcv : ClsV cv u) (h0 : PySem.W.kitOne F.K (.type "NoneType") u = some false) (hcs : ∀ c b, (c, b) ∈ cs → ExcC F.K (F.Cl c) ∧ PySem.W.kitOne F.K (.ref (F.Cl c)) u = some b)
    (ha : PE X ea (tE F Ew (evE C a))) (hp : plainX ea = true) : PE X (.Call (.Name x p) [ea, .Name y q] [] pos) (tE F Ew (evE C (.isE a y cs))) := by
  have hv : bootBuiltins x = some (.builtin "isinstance") := by rw [hx]; exact PyProof.Rows.boot_isinstance
  refine (pe_callB ((call_isX hK).or call_isi) hg hm hv (pa_cons ha (pa_cons hy pa_nil rfl) (star_plain hp)) hn hd (star_plain hp) rfl).imp ?_
  rintro σ H Q ⟨μ, L, ρ, st, R, RE, h⟩
  rw [evE] at h
  refine in_E R RE h fun x v μ1 L1 H1 st1 e1 R1 RE1 r1 h1 => ?_
  cases x with
  | r n => exact h1.elim
  | p d =>
    cases d <;> try (exact h1.elim)
    · cases r1 with
      | p r =>
        cases r
        simp only at h1
        exact .inr ⟨.non, cv, .type "NoneType", u, false, rfl, hcv, .base .non, by rw [hK]; exact h0, fin_bl R1 h1⟩
    · rename_i c
      cases r1 with
      | p r =>
        cases r with
        | exn hL f c1 c2 c3 =>
          simp only at h1
          cases e : cs.lookup c with
          | none => rw [e] at h1; exact h1.elim
          | some b =>
            rw [e] at h1
            have hm : (c, b) ∈ cs := lookup_in e
            obtain ⟨g1, g2⟩ := hcs c b hm
            exact .inl ⟨_, _, c, cv, u, b, rfl, hcv, f, c1, c2, c3, g1, g2, fin_bl R1 h1⟩
end
end T

set_option maxRecDepth 100000
set_option maxHeartbeats 4000000
/-! T: a tuple turned about; remove; names set in pairs -/
namespace HT
open PySem PySem.Spec PyProof.Rows
section
variable {prog : Program} {w : World} {A : Around} {E : Value → Shared → Prop} {s : Shared}
theorem adjust_rev (n : Nat) : Builtin.Slice.sliceAdjust none none (-1) (n : Int) = ((n : Int) - 1, -1) := rfl
theorem places_rev (n : Nat) : Builtin.Slice.slicePlaces ((n : Int) - 1) (-1) (-1) = n := by
  unfold Builtin.Slice.slicePlaces
  have h1 : ¬ ((-1 : Int) > 0) := by decide
  simp only [h1, if_false, Int.neg_neg, Int.ediv_one]
  split <;> omega
theorem fm_congr {α β : Type} {f g : α → Option β} : ∀ l : List α, (∀ x ∈ l, f x = g x) → l.filterMap f = l.filterMap g
  | [], _ => rfl
  | x :: l, h => by rw [List.filterMap_cons, List.filterMap_cons, h x List.mem_cons_self, fm_congr l fun y hy => h y (List.mem_cons_of_mem _ hy)]
theorem pick_rev (xs : Array Value) : ((List.range xs.size).filterMap fun (k : Nat) => xs[(((xs.size : Nat) : Int) - 1 + (k : Int) * (-1)).toNat]?).toArray = xs.toList.reverse.toArray := by
  have e : ((List.range xs.size).filterMap fun (k : Nat) => xs[(((xs.size : Nat) : Int) - 1 + (k : Int) * (-1)).toNat]?) = ((List.range xs.size).map fun k => xs.size - 1 - k).filterMap (xs[·]?) := by
    rw [List.filterMap_map]
    refine fm_congr _ fun k hk => ?_
    have := List.mem_range.mp hk
    have e : (((xs.size : Nat) : Int) - 1 + (k : Int) * (-1)).toNat = xs.size - 1 - k := by omega
    rw [e]
    rfl
  rw [e, PySem.W.krv_range, List.filterMap_reverse, PySem.W.krv_all]
theorem sliceApplied_rev {sl : Addr} {vl vu vs : Value} {n : Nat} {Q : Int × Int × Nat → Shared → Prop} (hs : s.heap.IsSliceOf sl vl vu vs) (pl : IsPart vl none) (pu : IsPart vu none) (ps : IsPart vs (some (-1)))
    (h : Q ((n : Int) - 1, -1, n) s) : wpAny (model prog w) A (Builtin.Slice.sliceApplied (.ref sl) (pure (n : Int))) Q E s := by
  obtain ⟨os, hos, hcs, hds⟩ := id hs
  unfold Builtin.Slice.sliceApplied Builtin.Slice.sliceFields
  refine wpAny_bind (wpAny_bind (wpAny_field hos hds (x := vl) rfl (wpAny_bind (wpAny_field hos hds (x := vu) rfl (wpAny_bind (wpAny_field hos hds (x := vs) rfl (wpAny_pure ?_)))))))
  refine wpAny_bind (slicePart_ ps ?_)
  show wpAny _ _ (if ((-1 : Int) == 0) = true then _ else _) _ _ s
  rw [if_neg (by decide)]
  refine wpAny_bind (slicePart_ pl (wpAny_bind (slicePart_ pu (wpAny_bind (wpAny_pure ?_)))))
  show wpAny _ _ (match Builtin.Slice.sliceAdjust none none (-1) (n : Int) with | (lo, hi) => pure (lo, (-1 : Int), Builtin.Slice.slicePlaces lo hi (-1))) _ _ s
  rw [adjust_rev n]
  show wpAny _ _ (pure ((n : Int) - 1, (-1 : Int), Builtin.Slice.slicePlaces ((n : Int) - 1) (-1) (-1))) _ _ s
  rw [places_rev]
  exact wpAny_pure h
theorem getItem_tuple_rev {t sl : Addr} {items : Array Value} {vl vu vs : Value} {Q : Value → Shared → Prop} (ht : IsTup s.heap t items) (hs : s.heap.IsSliceOf sl vl vu vs) (pl : IsPart vl none) (pu : IsPart vu none) (ps : IsPart vs (some (-1)))
    (h : Q (.ref s.heap.objs.size) { s with heap := s.heap.push { cls := .type "tuple", data := .seq items.toList.reverse.toArray } })
    (hsz : items.size ≤ sizeLine) : wpAny (model prog w) A (getItem (.ref t) (.ref sl)) Q E s := by
  have htake : sizeOk (.seq items.toList.reverse.toArray) := by
    show items.toList.reverse.toArray.size ≤ sizeLine
    rw [List.size_toArray, List.length_reverse, Array.length_toList]
    exact hsz
  obtain ⟨os, hos, hcs, hds⟩ := id hs
  have hTs : s.TypeIs (.ref sl) "slice" := ⟨os, hos, hcs⟩
  unfold getItem
  try with_reducible refine wpAny_holding ?_
  first | refine wpAny_bind (wpAny_pure ?_) | skip
  refine wpAny_bind (wpAny_sequenceKey ht.typeIs (by decide) ?_)
  refine wpAny_bind (wpAny_callSpecial?_slot (name := Str.ofString "__getitem__") ht.typeIs PyProof.Rows.slot_tuple_getitem
    (wpAny_call_entry PyProof.Rows.slot_tuple_getitem ht.typeIs entry_tuple_getitem ?_ (args_tuple_getitem _ _)))
  show wpAny _ _ (Builtin.Tuple.tupleItemsOf (.ref t) >>= _) _ _ s
  refine wpAny_bind (tupleItemsOf_ ht ?_)
  refine wpAny_bind (wpAny_typeOf hTs ?_)
  rw [if_pos (by decide)]
  refine wpAny_bind (sliceApplied_rev hs pl pu ps ?_)
  have hno : ¬ ((((items.size : Nat) : Int) - 1 == 0 && (-1 : Int) == 1 && items.size == items.size) = true) := by
    intro q
    rw [Bool.and_eq_true, Bool.and_eq_true] at q
    exact absurd q.1.2 (by decide)
  show wpAny _ _ (if ((((items.size : Nat) : Int) - 1 == 0 && (-1 : Int) == 1 && items.size == items.size) = true) then _ else _) _ _ s
  rw [if_neg hno, pick_rev]
  first
    | exact wpAny_bind (m := Builtin.Tuple.tupleExact _) (wpAny_newObj_type (wpAny_pure ⟨_, rfl, wpAny_pure h⟩) htake)
    | exact wpAny_bind (m := Builtin.Tuple.tupleExact _) (wpAny_newObj_type (wpAny_bind (wpAny_pure (wpAny_pure ⟨_, rfl, wpAny_pure h⟩))) htake)
    | exact wpAny_bind (wpAny_bind (m := Builtin.Tuple.tupleExact _) (wpAny_newObj_type (wpAny_pure (wpAny_pure ⟨_, rfl, wpAny_pure h⟩)) htake))
    | exact wpAny_bind (wpAny_bind (m := Builtin.Tuple.tupleExact _) (wpAny_newObj_type (wpAny_pure (wpAny_pure ⟨_, rfl, wpAny_pure h⟩)) htake))
end
end HT
namespace L2
open PySem PySem.Spec PyProof.Rows
section
variable {X : Cx}
noncomputable def tRevT (K : PySem.W.Frag) (te : TE) : TE := fun σ H Q => te σ H fun x H1 => ∃ a xs, x = .ref a ∧ SqT K H1 a xs ∧ ∀ p, H1 p = none → Q (.ref p) (upd H1 p (.tup xs.reverse))
theorem pe_revT {e : Expr} {te : TE} {k : Nat} {p1 p2 p3 pos : Pos} (he : PE X e te) : PE X (.Subscript e (.Slice none none (some (.UnaryOp .USub (.Constant (.int 1) k p1) p2)) p3) pos) (tRevT X.K te) := by
  refine ⟨fun pins s σ H Q I h => ?_⟩
  refine Subscript_ (thn (he.run pins s σ H _ I h) fun v s1 ⟨x, H1, I1, r1, q1⟩ => ?_)
  obtain ⟨a, xs, ex, hx, q⟩ := q1
  subst ex
  cases r1
  have hst : PO X (some (.UnaryOp .USub (.Constant (.int 1) k p1) p2)) (tPart (tUn (rU fun i => .int (-i)) (tC (.int 1)))) := po_some (pe_un un_neg pe_int)
  refine wpAny_Slice (thn (po_none.run pins s1 σ H1 (fun o H2 => o = none ∧ H2 = H1) I1 ⟨rfl, rfl⟩) fun vl s2 ⟨l, H2, I2, pl, el, e2⟩ => ?_)
  subst el e2
  refine thn (po_none.run pins s2 σ H2 (fun o H3 => o = none ∧ H3 = H2) I2 ⟨rfl, rfl⟩) fun vu s3 ⟨u, H3, I3, pu, eu, e3⟩ => ?_
  subst eu e3
  refine thn (hst.run pins s3 σ H3 (fun o H4 => o = some (-1) ∧ H4 = H3) I3 ⟨1, rfl, -1, rfl, rfl, rfl⟩) fun vs s4 ⟨o, H4, I4, ps, eo, e4⟩ => ?_
  subst eo e4
  have I5 : Inv X pins σ H4 { s4 with heap := s4.heap.push { cls := .type "slice", data := .fields #[vl, vu, vs] } } := I4.kept (t' := s4.toks) fun b ob q => Heap.get?_push_of_some _ q
  obtain ⟨its, r, ht, hz⟩ := I5.tuple hx
  have hlen := r.length
  show wpAny (model X.prog X.w) X.A (subscriptTail e (.Slice none none (some (.UnaryOp .USub (.Constant (.int 1) k p1) p2)) p3) (.ref a) (.ref s4.heap.objs.size)) (EP X pins σ Q) X.xe { s4 with heap := s4.heap.push { cls := .type "slice", data := .fields #[vl, vu, vs] } }
  refine tail_any (ops := [.ref a, .ref s4.heap.objs.size]) ht.typeIs (PyProof.Rows.slot_tuple_getitem.lookup) ?_ (by with_unfolding_all rfl)
  refine HT.getItem_tuple_rev ht (Heap.IsSliceOf.new _ vl vu vs) pl pu ps ?_ (by rw [List.size_toArray]; omega)
  refine ⟨.ref _, _, I5.laid (t' := s4.toks) (o := .tup xs.reverse) (fun b ob q => Heap.get?_push_of_some _ q) (Nat.le_refl _) ?_, rfl, q _ (I5.hok.fresh (Nat.le_refl _))⟩
  exact ⟨by rw [List.length_reverse]; exact hz, _, r.reverse, IsTup.new _ _⟩
end
end L2
namespace T
open PySem L2
section
variable {F : Fx} {Ew : XK} {X : Cx} {C : Call} {a b c : Ex} {ea eb ec : Expr} {pos : Pos} {μ μ' : List Addr} {L L' : Addr → Prop} {H H' : Hp} {st st' : Sto} {G : VK} {σ : L2.St} {ρ : Nv}
theorem s_revT {k : Nat} {p1 p2 p3 : Pos} (hK : X.K = F.K) (ha : PE X ea (tE F Ew (evE C a))) : PE X (.Subscript ea (.Slice none none (some (.UnaryOp .USub (.Constant (.int 1) k p1) p2)) p3) pos) (tE F Ew (evE C (.revT a))) :=
  (pe_revT ha).imp fun σ H Q ⟨μ, L, ρ, st, R, RE, h⟩ => by
    rw [evE] at h
    refine in_E R RE h fun x v μ1 L1 H1 st1 e1 R1 RE1 r1 h1 => ?_
    cases x with
    | r n => exact h1.elim
    | p d =>
      cases d <;> try (exact h1.elim)
      cases r1 with
      | p r =>
        cases r with
        | tup hL f rr =>
          exact ⟨_, _, rfl, SqT.of f, fun p' hp => fin_tup R1 h1 hp (reps_rev rr)⟩
theorem s_remI {apos : Pos} (hK : X.K = F.K) (hc : X.calm = true) (tk : Takes X fun cls d _ H => Ew cls d H) (ha : PE X ea (tE F Ew (evE C a))) (hb : PE X eb (tE F Ew (evE C b))) (h1 : plainB ea = true) (hp : plainX eb = true) (h4 : (apos.endLine == pos.line) = true) :
    PE X (.Call (.Attribute ea "remove" apos) [eb] [] pos) (tE F Ew (evE C (.remI a b))) := by
  refine (pe_remX hc tk ha hb (base_plain h1 _ _) ?_ h4 (star_plain hp) rfl).imp ?_
  · rw [allStar (by simp [hp])]
    rfl
  rintro σ H Q ⟨μ, L, ρ, st, R, RE, h⟩
  rw [evE] at h
  refine in_E R RE h fun x v μ1 L1 H1 st1 e1 R1 RE1 r1 h1 => ?_
  split at h1
  · rename_i z
    rw [hK]
    refine ⟨lstR_ty R1 r1 z, in_E R1 RE1 h1 fun y u μ2 L2 H2 st2 e2 R2 RE2 r2 h2 => ?_⟩
    cases q : remW st2 x y with
    | none => simp only [q] at h2; exact h2.elim
    | some s' =>
      simp only [q] at h2
      unfold remW at q
      split at q
      · rename_i n i
        cases e : st2[n]? with
        | none => rw [e] at q; cases q
        | some ob =>
          rw [e] at q
          cases ob <;> try (cases q; done)
          rename_i ws
          simp only at q
          obtain ⟨l, rfl, hl, ⟨vs, g1, g2⟩, _⟩ := R2.thg (e2.wv R1 r1) e rfl
          cases z1 : (unW ws).bind allI with
          | none => rw [z1] at q; cases q
          | some ns =>
            rw [z1] at q
            simp only at q
            split at q
            · rename_i hi
              cases q
              cases r2 with
              | p r2 =>
                cases r2
                obtain ⟨ds, y1, y2⟩ := Option.bind_eq_some_iff.mp z1
                have ev := allI_v (unW_reps g2 y1) y2
                subst ev
                have rr : RepWs F μ2 L2 H2 ((ns.erase i).map V.int) ((ns.erase i).map fun j => W.p (.int j)) := by
                  generalize ns.erase i = ms
                  induction ms with
                  | nil => exact .nil
                  | cons m ms ih => exact .cons (.p (.int m)) ih
                obtain ⟨e', R'⟩ := set_lst (vs := ns.map V.int) R2 e hl rr
                exact ⟨l, ns, i, rfl, rfl, g1, fun _ => h2 _ _ _ e' R' _ (.p .non), fun hn => absurd hi hn⟩
            · cases q
      · cases q
  · exact h1.elim
/-! ### statements -/
/-- t, o[i] = e -/
theorem x_asgTI (hu : X.A.units + 66 < cLine) {t : Nat} {x : Str} {k : Nat} {p p1 p2 : Pos} (hK : X.K = F.K) (hcalm : X.calm = true) (nd : X.N.Nodup) (hN : X.N[t]? = some x) (hl : Loc X.env.scope x) (hf : X.fn x = true ∨ X.env.scope.names.lookup x = some .local)
    (hx : plainX ec = true) (ht : swappedStores [.Tuple [.Name x p1, .Subscript eb ec p2] k p] ea X.env = pure none) (hpl : plainX ea = true) (hlc : notLc ea = true)
    (hv : PE X ea (tE F Ew (evE C a))) (ho : PE X eb (tE F Ew (evE C b))) (hi : PE X ec (tE F Ew (evE C c))) :
    PS X (.Assign [.Tuple [.Name x p1, .Subscript eb ec p2] k p] ea pos) (tS F Ew (evS C (.asgTI t b c a))) := by
  have gs : PG X (.Subscript eb ec p2) (gSub (tE F Ew (evE C b)) (tE F Ew (evE C c)) sAny) := pg_sub ho hi (set_any hu) (by intro v; cases ec <;> first | rfl | cases hx)
  have g2 : PGs X [.Name x p1, .Subscript eb ec p2] (gCons (gName t) (gCons (gSub (tE F Ew (evE C b)) (tE F Ew (evE C c)) sAny) gNil)) := pgs_cons (pg_name nd hN hl hf) (pgs_cons gs pgs_nil)
  refine (ps_asg hv (pg_tup (n := 2) (k := k) (pos := p) hcalm g2) (show swapsWith ea (some (.Tuple [.Name x p1, .Subscript eb ec p2] k p)) pos.line X.env = pure false from swap_plain hpl hlc _ _) ht rfl).imp fun D σ H ⟨μ, L, ρ, st, R, RE, h⟩ => ?_
  rw [evS] at h
  refine in_S R RE h fun w v μ1 L1 H1 st1 e1 R1 RE1 r1 h1 => ?_
  cases q : tupI st1 w with
  | none => simp only [q] at h1; exact h1.elim
  | some ws =>
    simp only [q] at h1
    obtain ⟨ad, ys, rfl, g1, g2⟩ := tupI_rep R1 r1 q
    cases g2 with
    | nil => exact h1.elim
    | cons s1 g2 =>
    cases g2 with
    | nil => exact h1.elim
    | cons s2 g2 =>
    cases g2 with
    | cons _ _ => exact h1.elim
    | nil =>
      rename_i v1 w1 v2 w2
      rw [hK]
      refine ⟨ad, [v1, v2], rfl, SqT.of g1, rfl, v1, [v2], rfl, ?_⟩
      show gCons (gSub (tE F Ew (evE C b)) (tE F Ew (evE C c)) sAny) gNil [v2] (σ.set t (some v1)) H1 D.nx
      refine ⟨v2, [], rfl, ?_⟩
      have RE2 := RE1.set (i := t) s1
      refine in_S R1 RE2 h1 fun x' v' μ2 L2 H2 st2 e2 R2 RE3 r2 h2 => ?_
      refine in_S R2 RE3 h2 fun y' u' μ3 L3 H3 st3 e3 R3 RE4 r3 h3 => ?_
      cases z : setW st3 x' y' w2 with
      | none => simp only [z] at h3; exact h3.elim
      | some s' =>
        simp only [z] at h3
        exact setW_ok R3 (e3.wv R2 r2) r3 (e3.wv R2 (e2.wv R1 s2)) z fun H' e' R' => ⟨rfl, (Post.from e' h3) μ3 L3 H' .refl R' _ (e'.env R3 RE4)⟩
/-- x, y = a, b: names of a def -/
theorem x_par {i j : Nat} {x y : Str} {k k2 : Nat} {px py p p2 : Pos} (hcalm : X.calm = true) (nd : X.N.Nodup) (hi : X.N[i]? = some x) (hj : X.N[j]? = some y) (hij : i ≠ j) (lx : X.env.scope.names.lookup x = some .local) (ly : X.env.scope.names.lookup y = some .local)
    (hw : swappedStores [.Tuple [.Name x px, .Name y py] k p] (.Tuple [ea, eb] k2 p2) X.env = pure (some [x, y]))
    (h1 : plainX ea = true) (h2 : plainX eb = true) (ha : PE X ea (tE F Ew (evE C a))) (hb : PE X eb (tE F Ew (evE C b))) :
    PS X (.Assign [.Tuple [.Name x px, .Name y py] k p] (.Tuple [ea, eb] k2 p2) pos) (tS F Ew (evS C (.par i j a b))) :=
  (ps_par hcalm nd hi hj hij lx ly (pa_cons ha (pa_cons hb pa_nil (star_plain h2)) (star_plain h1)) hw).imp fun D σ H ⟨μ, L, ρ, st, R, RE, h⟩ => by
    rw [evS] at h
    refine in_S R RE h fun w v μ1 L1 H1 st1 e1 R1 RE1 r1 h1 => ?_
    refine in_S R1 RE1 h1 fun w' v' μ2 L2 H2 st2 e2 R2 RE2 r2 h2 => ?_
    exact ⟨v, v', rfl, Post.here R2 h2 _ ((RE2.set (e2.wv R1 r1)).set r2)⟩
end
end T

set_option maxRecDepth 100000
set_option maxHeartbeats 4000000
/-! T: a dict of the store walked by its keys (it may be read meanwhile, not written); an exception made as a value -/
namespace T
open PySem L2
section
variable {F : Fx} {Ew : XK} {X : Cx} {C : Call} {a b c : Ex} {ea eb ec : Expr} {pos : Pos} {μ μ' : List Addr} {L L' : Addr → Prop} {H H' : Hp} {st st' : Sto} {G : VK} {σ : L2.St} {ρ : Nv} {D : Ends}
theorem kD_rep (k : Key) : RepD F L H (kV k) (kD k) := by
  cases k with
  | inl i => exact .int i
  | inr x => exact .str x
theorem kDs_rep : ∀ ks : List Key, RepDs F L H (ks.map kV) (ks.map kD)
  | [] => .nil
  | k :: r => .cons (kD_rep k) (kDs_rep r)
theorem repe_keys {κ : Type} : ∀ {vs : List (κ × V)} {ws : List (κ × W)}, T.RepE F μ L H vs ws → vs.map (·.1) = ws.map (·.1)
  | _, _, .nil => rfl
  | _, _, .cons r t => by rw [List.map_cons, List.map_cons, repe_keys t]
/-- a locked dict stands apart from all that may change -/
theorem lk_apart (R : Rel F μ L H st) {n : Nat} {a : Addr} {o : O} (hn : st[n]? = some o) (hl : o.alive = false) (ht : o.there = true) (ha : μ[n]? = some a) : ¬ At μ st a := fun ⟨m, lm, em⟩ => by
  have := R.inj m n a lm.t ⟨_, hn, ht⟩ em ha
  subst this
  obtain ⟨u, e1, al⟩ := lm
  rw [hn] at e1
  cases e1
  rw [hl] at al
  cases al
theorem walks_ldk {n : Nat} {a : Addr} {od : Obj} {vs : List (Key × V)} {kvs : List (Key × W)} (R : Rel F μ L H st) (hn : st[n]? = some (.ldk kvs)) (ha : μ[n]? = some a) (hH : H a = some (.frz od (.dK vs))) (hk : vs.map (·.1) = kvs.map (·.1)) :
    Walks F μ L H st (kvs.map fun kv => W.p (kD kv.1)) (Itk a od vs) := by
  intro i μ' L' H' st' e R'
  have hH' := e.keep a _ hH (lk_apart R hn rfl rfl ha)
  have hl : vs.length = kvs.length := by have := congrArg List.length hk; rwa [List.length_map, List.length_map] at this
  refine ⟨fun w hw => ?_, fun hi => ⟨hH', by rw [hl]; simpa using hi⟩⟩
  rw [List.getElem?_map] at hw
  cases q : kvs[i]? with
  | none => rw [q] at hw; cases hw
  | some kv =>
    rw [q] at hw
    cases hw
    have lt := (List.getElem?_eq_some_iff.mp q).1
    refine ⟨⟨hH', by rw [hl]; exact lt⟩, fun x H'' ⟨eH, k, v, q1, ex⟩ => ?_⟩
    subst eH ex
    have e1 : (vs.map (·.1))[i]? = some k := by rw [List.getElem?_map, q1]; rfl
    have e2 : (kvs.map (·.1))[i]? = some kv.1 := by rw [List.getElem?_map, q]; rfl
    rw [hk, e2] at e1
    cases e1
    exact ⟨L', .refl, R', .p (kD_rep _)⟩
theorem walks_ldt {n : Nat} {a : Addr} {od : Obj} {vs : List (List Key × V)} {kvs : List (List Key × W)} (R : Rel F μ L H st) (hn : st[n]? = some (.ldt kvs)) (ha : μ[n]? = some a) (hH : H a = some (.frz od (.dT vs))) (hk : vs.map (·.1) = kvs.map (·.1)) :
    Walks F μ L H st (kvs.map fun kv => W.p (.tup (kv.1.map kD))) (Itkt a od vs) := by
  intro i μ' L' H' st' e R'
  have hH' := e.keep a _ hH (lk_apart R hn rfl rfl ha)
  have hl : vs.length = kvs.length := by have := congrArg List.length hk; rwa [List.length_map, List.length_map] at this
  refine ⟨fun w hw => ?_, fun hi => ⟨hH', by rw [hl]; simpa using hi⟩⟩
  rw [List.getElem?_map] at hw
  cases q : kvs[i]? with
  | none => rw [q] at hw; cases hw
  | some kv =>
    rw [q] at hw
    cases hw
    have lt := (List.getElem?_eq_some_iff.mp q).1
    refine ⟨⟨hH', by rw [hl]; exact lt⟩, fun x H'' ⟨eH, k, v, p, q1, ex, hp⟩ => ?_⟩
    subst eH ex
    have e1 : (vs.map (·.1))[i]? = some k := by rw [List.getElem?_map, q1]; rfl
    have e2 : (kvs.map (·.1))[i]? = some kv.1 := by rw [List.getElem?_map, q]; rfl
    rw [hk, e2] at e1
    cases e1
    exact ⟨L', .refl, R', .p (.tup (.inr rfl) hp (kDs_rep _))⟩
/-- what stands at the lock, u: and what it was -/
inductive LkOf (F : Fx) (μ : List Addr) (L : Addr → Prop) (H : Hp) : HO → O → O → Prop where
  | k {vs : List (Key × V)} {kvs : List (Key × W)} : T.RepE F μ L H vs kvs → LkOf F μ L H (.dK vs) (.dic kvs) (.ldk kvs)
  | t {vs : List (List Key × V)} {kvs : List (List Key × W)} : T.RepE F μ L H vs kvs → LkOf F μ L H (.dT vs) (.dit kvs) (.ldt kvs)
theorem lock_of (R : Rel F μ L H st) {r : Res W} {n : Nat} {o : O} (h : lockW st r = some (n, o)) : ∃ o0 a u, st[n]? = some o0 ∧ μ[n]? = some a ∧ H a = some u ∧ o0.alive = true ∧ o0.isT = false ∧ LkOf F μ L H u o0 o := by
  unfold lockW at h
  split at h
  · rename_i k s
    cases e : st[k]? with
    | none => rw [e] at h; cases h
    | some o0 =>
      rw [e] at h
      obtain ⟨a, ha⟩ := R.addr e
      cases o0 <;> try (cases h; done)
      · cases h
        obtain ⟨nL, vs, h1, h2⟩ := R.obj _ _ _ e ha rfl
        exact ⟨_, _, _, e, ha, h1, rfl, rfl, .k h2⟩
      · cases h
        obtain ⟨nL, vs, h1, h2⟩ := R.obj _ _ _ e ha rfl
        exact ⟨_, _, _, e, ha, h1, rfl, rfl, .t h2⟩
  · cases h
theorem LkOf.mut {u : HO} {o0 o : O} (h : LkOf F μ L H u o0 o) : Mut (some u) := by
  cases h <;> exact trivial
/-- locked -/
theorem lock_rel (R : Rel F μ L H st) {n : Nat} {a : Addr} {u : HO} {od : Obj} {o0 o : O} (hn : st[n]? = some o0) (ha : μ[n]? = some a) (al : o0.alive = true) (nt : o0.isT = false) (k : LkOf F μ L H u o0 o) :
    Ext μ L H st μ L (upd H a (.frz od u)) (st.set n o) ∧ Rel F μ L (upd H a (.frz od u)) (st.set n o) := by
  have e := Ext.set (u := .frz od u) (o' := o) R hn al ha nt
  refine ⟨e, ?_⟩
  cases k with
  | k r => exact Rel.set R hn al ha ⟨_, ⟨od, upd_same⟩, r.mono (e.kp R) e.pre⟩ nt
  | t r => exact Rel.set R hn al ha ⟨_, ⟨od, upd_same⟩, r.mono (e.kp R) e.pre⟩ nt
theorem lock_walks (R : Rel F μ L H st) {n : Nat} {a : Addr} {u : HO} {od : Obj} {o0 o : O} {ws : List W} (hn : st[n]? = some o0) (ha : μ[n]? = some a) (al : o0.alive = true) (nt : o0.isT = false) (k : LkOf F μ L H u o0 o) {μ' : List Addr} {L' : Addr → Prop} {H' : Hp} {st' : Sto} {v : V} {x : W}
    (e : Ext μ L (upd H a (.frz od u)) (st.set n o) μ' L' H' st') (R' : Rel F μ' L' H' st') (r : RepW F μ' L' H' v x) (hs : keysR n st' x = some ws) : v = .ref a ∧ ((∃ vs, H' a = some (.frz od (.dK vs)) ∧ Walks F μ' L' H' st' ws (Itk a od vs)) ∨ (∃ vs, H' a = some (.frz od (.dT vs)) ∧ Walks F μ' L' H' st' ws (Itkt a od vs))) := by
  obtain ⟨_, R1⟩ := lock_rel (od := od) R hn ha al nt k
  have hlt := (List.getElem?_eq_some_iff.mp hn).1
  have h1 : (st.set n o)[n]? = some o := List.getElem?_set_self hlt
  have ha' := e.pre n a ha
  have nal : o.alive = false ∧ o.there = true := by cases k <;> exact ⟨rfl, rfl⟩
  have hH' := e.keep a _ upd_same (lk_apart R1 h1 nal.1 nal.2 ha)
  unfold keysR at hs
  split at hs
  · rename_i hx
    refine ⟨?_, ?_⟩
    · cases x with
      | p d => cases hx
      | r m =>
        rw [of_decide_eq_true hx] at r
        cases r with
        | r m => rw [ha'] at m; cases m; rfl
    · obtain ⟨y, hy, hk⟩ := Option.bind_eq_some_iff.mp hs
      cases y <;> try (cases hk; done)
      · cases hk
        obtain ⟨nL, vs, ⟨od', z⟩, rr⟩ := R'.obj n _ a hy ha' rfl
        rw [hH'] at z
        cases z
        exact .inl ⟨vs, hH', walks_ldk R' hy ha' hH' (repe_keys rr)⟩
      · cases hk
        obtain ⟨nL, vs, ⟨od', z⟩, rr⟩ := R'.obj n _ a hy ha' rfl
        rw [hH'] at z
        cases z
        exact .inr ⟨vs, hH', walks_ldt R' hy ha' hH' (repe_keys rr)⟩
  · cases hs
/-- unlocked -/
theorem unlock_rel (R : Rel F μ L H st) {n : Nat} {a : Addr} {u : HO} {od : Obj} {o0 o : O} (hn : st[n]? = some o0) (ha : μ[n]? = some a) (al : o0.alive = true) (nt : o0.isT = false) (hH : H a = some u) (k : LkOf F μ L H u o0 o) {μ' : List Addr} {L' : Addr → Prop} {H' : Hp} {s : Sto} {o' : O}
    (e : Ext μ L (upd H a (.frz od u)) (st.set n o) μ' L' H' s) (R' : Rel F μ' L' H' s) (ho : (s[n]?).bind unlockO = some o') :
    H' a = some (.frz od u) ∧ Ext μ L H st μ' L' (upd H' a u) (s.set n o') ∧ Rel F μ' L' (upd H' a u) (s.set n o') ∧ Kp L' H' L' (upd H' a u) := by
  obtain ⟨e1, R1⟩ := lock_rel (od := od) R hn ha al nt k
  have hlt := (List.getElem?_eq_some_iff.mp hn).1
  have h1 : (st.set n o)[n]? = some o := List.getElem?_set_self hlt
  have nal : o.alive = false ∧ o.there = true := by cases k <;> exact ⟨rfl, rfl⟩
  have hH' := e.keep a _ upd_same (lk_apart R1 h1 nal.1 nal.2 ha)
  have ha' := e.pre n a ha
  obtain ⟨x, hx, hu⟩ := Option.bind_eq_some_iff.mp ho
  have hsn := (List.getElem?_eq_some_iff.mp hx).1
  have xt : x.there = true ∧ x.isT = false := by cases x <;> first | exact ⟨rfl, rfl⟩ | cases hu
  obtain ⟨nL, rx⟩ := R'.obj n x a hx ha' xt.1
  have kp : Kp L' H' L' (upd H' a u) := ⟨⟨fun _ h => h, fun b xs h => by rw [upd_ne fun q => rx.ntup xt.2 xs (by rw [← q]; exact h)]; exact h⟩, fun b w hb h => by rw [upd_ne fun q => nL (by rw [← q]; exact hb)]; exact h⟩
  have atS : ∀ b, At μ (st.set n o) b → At μ st b := fun b ⟨m, lm, em⟩ => by
    rcases set_live lm with lm | rfl
    · exact ⟨m, lm, em⟩
    · rw [ha] at em; cases em
      exact ⟨m, ⟨o0, hn, al⟩, ha⟩
  have atST : ∀ b, AtT μ (st.set n o) b → AtT μ st b := fun b ⟨m, lm, em⟩ => by
    rcases set_livT lm with lm | rfl
    · exact ⟨m, lm, em⟩
    · rw [ha] at em; cases em
      exact ⟨m, ⟨o0, hn, alive_there al⟩, ha⟩
  have ata : At μ st a := ⟨n, ⟨o0, hn, al⟩, ha⟩
  have non : ∀ b, upd H a (.frz od u) b = none → H b = none := fun b h => by
    by_cases q : b = a
    · rw [q, upd_same] at h; cases h
    · rw [upd_ne q] at h; exact h
  refine ⟨hH', ⟨fun b w h nA => ?_, fun b xs h => ?_, e.up, fun b h => ?_, e.pre, fun b h => ?_, fun b h => ?_⟩, ⟨by simp [R'.len], fun k w b ek m alw => ?_, fun k m b hk hm ek em => ?_, fun b h => ?_⟩, kp⟩
  · have ne : b ≠ a := fun q => nA (by rw [q]; exact ata)
    rw [upd_ne ne]
    exact e.keep b w (by rw [upd_ne ne]; exact h) fun q => nA (atS b q)
  · have ne : b ≠ a := fun q => (R.obj n o0 a hn ha (alive_there al)).2.ntup nt xs (by rw [← q]; exact h)
    rw [upd_ne ne]
    exact e.tups b xs (by rw [upd_ne ne]; exact h)
  · rcases e.new b h with q | q | q
    · exact .inl q
    · exact .inr (.inl (non b q))
    · exact .inr (.inr (atS b q))
  · obtain ⟨k, hk, em⟩ := h
    rcases set_live hk with hk | rfl
    · rcases e.live b ⟨k, hk, em⟩ with q | q
      · exact .inl (non b q)
      · exact .inr (atS b q)
    · rw [ha'] at em; cases em
      exact .inr ata
  · obtain ⟨k, hk, em⟩ := h
    rcases set_livT hk with hk | rfl
    · rcases e.livT b ⟨k, hk, em⟩ with q | q
      · exact .inl (non b q)
      · exact .inr (atST b q)
    · rw [ha'] at em; cases em
      exact .inr ata.t
  · by_cases hk : n = k
    · subst hk
      rw [List.getElem?_set_self hsn] at ek
      cases ek
      rw [ha'] at m; cases m
      refine ⟨nL, ?_⟩
      cases x <;> first | (cases hu; done) | skip
      · cases hu
        obtain ⟨vs, ⟨od', z⟩, r⟩ := rx
        rw [hH'] at z
        cases z
        exact ⟨_, upd_same, r.mono kp fun _ _ h => h⟩
      · cases hu
        obtain ⟨vs, ⟨od', z⟩, r⟩ := rx
        rw [hH'] at z
        cases z
        exact ⟨_, upd_same, r.mono kp fun _ _ h => h⟩
    · rw [List.getElem?_set_ne hk] at ek
      obtain ⟨x1, y1⟩ := R'.obj k w b ek m alw
      have ne : b ≠ a := fun q => by
        subst q
        exact hk (R'.inj n k b ⟨x, hx, xt.1⟩ ⟨w, ek, alw⟩ ha' m)
      exact ⟨x1, y1.mono kp (fun _ _ h => h) fun v hv => by rw [upd_ne ne]; exact hv⟩
  · have aux : ∀ j, LivT (s.set n o') j → LivT s j := fun j hj => by
      rcases set_livT hj with h | rfl
      · exact h
      · exact ⟨x, hx, xt.1⟩
    exact R'.inj k m b (aux k hk) (aux m hm) ek em
  · by_cases ne : b = a
    · subst ne; exact ⟨_, upd_same⟩
    · rw [upd_ne ne]; exact R'.told b h
/-- what is asked behind the walk, told within it -/
noncomputable def lkD (D : Ends) (a : Addr) (od : Obj) (u : HO) : Ends := ⟨fun σ' H' => H' a = some (.frz od u) ∧ D.nx σ' (upd H' a u), fun v H' => H' a = some (.frz od u) ∧ D.rt v (upd H' a u), fun σ' H' => H' a = some (.frz od u) ∧ D.bk σ' (upd H' a u), fun σ' H' => H' a = some (.frz od u) ∧ D.ct σ' (upd H' a u)⟩
theorem post_unlk (R : Rel F μ L H st) {n : Nat} {a : Addr} {u : HO} {od : Obj} {o0 o : O} (hn : st[n]? = some o0) (ha : μ[n]? = some a) (al : o0.alive = true) (nt : o0.isT = false) (hH : H a = some u) (k : LkOf F μ L H u o0 o) {r : Res (Flow × Nv)}
    (h : Post F Ew μ L H st (unlk n r) (QD F D)) : Post F Ew μ L (upd H a (.frz od u)) (st.set n o) r (QD F (lkD D a od u)) := by
  obtain ⟨e1, R1⟩ := lock_rel (od := od) R hn ha al nt k
  cases r with
  | err => exact h
  | exc c s => exact fun μ' L' H' e R' => h μ' L' H' (e1.trans e) R'
  | ok x s =>
    intro μ' L' H' e R'
    unfold unlk at h
    simp only at h
    cases q : (s[n]?).bind unlockO with
    | none => rw [q] at h; exact h.elim
    | some o' =>
      rw [q] at h
      simp only at h
      obtain ⟨g1, g2, g3, kp⟩ := unlock_rel R hn ha al nt hH k e R' q
      have f := h μ' L' _ g2 g3
      obtain ⟨fl, ρ'⟩ := x
      cases fl with
      | nx => exact fun σ RE => ⟨g1, f σ (RE.mono kp fun _ _ h => h)⟩
      | bk => exact fun σ RE => ⟨g1, f σ (RE.mono kp fun _ _ h => h)⟩
      | ct => exact fun σ RE => ⟨g1, f σ (RE.mono kp fun _ _ h => h)⟩
      | rt w => exact fun v rv => ⟨g1, f v (rv.mono kp fun _ _ h => h)⟩
theorem post_unlkE (R : Rel F μ L H st) {n : Nat} {a : Addr} {u : HO} {od : Obj} {o0 o : O} (hn : st[n]? = some o0) (ha : μ[n]? = some a) (al : o0.alive = true) (nt : o0.isT = false) (hH : H a = some u) (k : LkOf F μ L H u o0 o) {r : Res W} {Q : VK}
    (h : Post F Ew μ L H st (unlk n r) fun w μ' L' H' _ => ∀ v, RepW F μ' L' H' v w → Q v H') : Post F Ew μ L (upd H a (.frz od u)) (st.set n o) r fun w μ' L' H' _ => ∀ v, RepW F μ' L' H' v w → H' a = some (.frz od u) ∧ Q v (upd H' a u) := by
  obtain ⟨e1, R1⟩ := lock_rel (od := od) R hn ha al nt k
  cases r with
  | err => exact h
  | exc c s => exact fun μ' L' H' e R' => h μ' L' H' (e1.trans e) R'
  | ok x s =>
    intro μ' L' H' e R'
    unfold unlk at h
    simp only at h
    cases q : (s[n]?).bind unlockO with
    | none => rw [q] at h; exact h.elim
    | some o' =>
      rw [q] at h
      simp only at h
      obtain ⟨g1, g2, g3, kp⟩ := unlock_rel R hn ha al nt hH k e R' q
      have f := h μ' L' _ g2 g3
      exact fun v rv => ⟨g1, f v (rv.mono kp fun _ _ h => h)⟩
theorem x_forK {tg : Tg} {et ei : Expr} {sb : Sms} {pb : List Stmt} (hK : X.K = F.K) (hc : X.calm = true) (own : PassesOwn (model X.prog X.w) X.A X.env X.xe) (hp : plainX ei = true) (hi : PE X ei (tE F Ew (evE C a))) (hg : PG X et (gT F.K tg)) (hb : PSs X pb (tS F Ew (evSs C sb))) :
    PS X (.For et ei pb [] pos) (tS F Ew (evS C (.forK tg a sb))) :=
  (ps_lock (ps_for own hc (pi_keys hi) hg hb (fold_plain hp))).imp fun D σ H ⟨μ, L, ρ, st, R, RE, h⟩ => by
    rw [evS] at h
    cases q : lockW st (evE C a ρ st) with
    | none => rw [q] at h; exact h.elim
    | some x =>
      obtain ⟨n, o⟩ := x
      rw [q] at h
      simp only at h
      obtain ⟨o0, ad, u, hn, ha, hH, al, nt, k⟩ := lock_of R q
      refine ⟨ad, u, hH, k.mut, fun od => ?_⟩
      have h := post_unlk (od := od) R hn ha al nt hH k h
      obtain ⟨e1, R1⟩ := lock_rel (od := od) R hn ha al nt k
      refine in_E R1 (e1.env R RE) h fun y v μ2 L2 H2 st2 e2 R2 RE2 r2 h2 => ?_
      cases q2 : keysR n st2 y with
      | none => rw [q2] at h2; exact h2.elim
      | some ws =>
        rw [q2] at h2
        obtain ⟨rfl, ⟨vs, g1, wk⟩ | ⟨vs, g1, wk⟩⟩ := lock_walks R hn ha al nt k e2 R2 r2 q2
        · exact ⟨ad, od, rfl, .inl ⟨vs, g1, for_read (v := .fix ws) wk R2 RE2 h2⟩⟩
        · exact ⟨ad, od, rfl, .inr ⟨vs, g1, for_read (v := .fix ws) wk R2 RE2 h2⟩⟩
theorem lcK_read {m hc : Bool} {tg : Tg} {c e : Ex} {Q : VK} (h : tE F Ew (evE C (.lcK m tg a hc c e)) σ H Q) : tLockE (tLc (iKeys (tE F Ew (evE C a))) (gT F.K tg) (ttOf F C hc c) (tE F E0 (evE C e)) tg.slots) σ H Q := by
  obtain ⟨μ, L, ρ, st, R, RE, h⟩ := h
  rw [evE] at h
  cases q : lockW st (evE C a ρ st) with
  | none => rw [q] at h; exact h.elim
  | some x =>
    obtain ⟨n, o⟩ := x
    rw [q] at h
    simp only at h
    obtain ⟨o0, ad, u, hn, ha, hH, al, nt, k⟩ := lock_of R q
    refine ⟨ad, u, hH, k.mut, fun od => ?_⟩
    have h := post_unlkE (od := od) R hn ha al nt hH k h
    obtain ⟨e1, R1⟩ := lock_rel (od := od) R hn ha al nt k
    refine in_E R1 (e1.env R RE) h fun y v μ2 L2 H2 st2 e2 R2 RE2 r2 h2 => ?_
    cases q2 : keysR n st2 y with
    | none => rw [q2] at h2; exact h2.elim
    | some ws =>
      rw [q2] at h2
      obtain ⟨rfl, ⟨vs, g1, wk⟩ | ⟨vs, g1, wk⟩⟩ := lock_walks R hn ha al nt k e2 R2 r2 q2
      · exact ⟨ad, od, rfl, .inl ⟨vs, g1, lc_in wk R2 RE2 h2⟩⟩
      · exact ⟨ad, od, rfl, .inr ⟨vs, g1, lc_in wk R2 RE2 h2⟩⟩
theorem unlk_bind {α β : Type} {n : Nat} {r : Res α} {g : α → β} : (unlk n r).bind (fun x s => .ok (g x) s) = unlk n (r.bind fun x s => .ok (g x) s) := by
  cases r with
  | ok x s =>
    show (unlk n (.ok x s)).bind _ = unlk n (.ok (g x) s)
    unfold unlk
    simp only
    cases (s[n]?).bind unlockO <;> rfl
  | exc => rfl
  | err => rfl
theorem asg_lcK {i : Nat} {m hc : Bool} {tg : Tg} {c e : Ex} (h : tS F Ew (evS C (.asg i (.lcK m tg a hc c e))) D σ H) : tLock (tAsg (tLc (iKeys (tE F Ew (evE C a))) (gT F.K tg) (ttOf F C hc c) (tE F E0 (evE C e)) tg.slots) (gName i)) D σ H := by
  obtain ⟨μ, L, ρ, st, R, RE, h⟩ := h
  rw [evS, evE] at h
  cases q : lockW st (evE C a ρ st) with
  | none => rw [q] at h; exact h.elim
  | some x =>
    obtain ⟨n, o⟩ := x
    rw [q] at h
    simp only at h
    rw [unlk_bind] at h
    obtain ⟨o0, ad, u, hn, ha, hH, al, nt, k⟩ := lock_of R q
    refine ⟨ad, u, hH, k.mut, fun od => ?_⟩
    have h := post_unlk (od := od) R hn ha al nt hH k h
    rw [Res.bind_assoc] at h
    obtain ⟨e1, R1⟩ := lock_rel (od := od) R hn ha al nt k
    refine in_E R1 (e1.env R RE) h fun y v μ2 L2 H2 st2 e2 R2 RE2 r2 h2 => ?_
    cases q2 : keysR n st2 y with
    | none => rw [q2] at h2; exact h2.elim
    | some ws =>
      rw [q2] at h2
      have h3 := (show Post F Ew μ2 L2 H2 st2 (((lcLoop (lcStep C ρ tg hc c e) ws [] st2).bind (lcEnd m)).bind fun w s => .ok (Flow.nx, ρ.set i (some w)) s) _ from h2).bind.mono (Q' := fun w μ' L' H' _ => ∀ v, RepW F μ' L' H' v w → gName i v σ H' (lkD D ad od u).nx) fun x μ1 L1 H1 st1 e3 R3 q3 v r3 => Post.here R3 q3 _ ((e3.env R2 RE2).set r3)
      obtain ⟨rfl, ⟨vs, g1, wk⟩ | ⟨vs, g1, wk⟩⟩ := lock_walks R hn ha al nt k e2 R2 r2 q2
      · exact ⟨ad, od, rfl, .inl ⟨vs, g1, lc_in wk R2 RE2 h3⟩⟩
      · exact ⟨ad, od, rfl, .inr ⟨vs, g1, lc_in wk R2 RE2 h3⟩⟩
/-! ### an exception made as a value -/
theorem pe_excK {K0 : Addr} {bmB : List Value} {B newId initId : String} {x : Str} {e : Expr} {ta : TE} {p pos : Pos} (Fb : ExcBaseFacts B newId initId bmB) (q : PySem.W.excIn X.K K0 bmB newId = true) (gC : X.mg x = some (.ref K0)) (kC : PySem.W.keepIn X.K (.ref K0) = true) (hg : Gl X x)
    (he : PE X e ta) (hs : starEach [e] X.env = (false, eval e X.env) :: starEach [] X.env) (hdb : (x == ("__debug__" : Str)) = false) :
    PE X (.Call (.Name x p) [e] [] pos) (fun σ H Q => ta σ H fun _ H1 => ∀ a oe, H1 a = none → oe.cls = .ref K0 → oe.dict = none → (∃ vs, oe.data = .fields vs) → Q (.ref a) (upd H1 a (kept oe))) := by
  refine ⟨fun pins s σ H Q I h => ?_⟩
  refine wpAny_Call_Name_kw (ld_glob I hg gC ?_ hdb)
  refine PySem.W.callWith_K (h₀ := X.base) I.ok.mod.kin kC ?_ hs (by rfl)
  rw [hs]
  show wpAny _ _ (spliced ((false, eval e X.env) :: backTo pos (starEach [] X.env))) _ _ s
  refine Calls.spliced_cons (thn (he.run pins s σ H _ I h) fun u s1 ⟨v, H1, I1, r1, q1⟩ => ?_)
  refine Calls.spliced_nil ⟨I1.kIn, ?_⟩
  show wpAny _ _ (call (.ref K0) [u]) _ _ _
  obtain ⟨bm, N, nm, qn, bs, hdct, sn, sub, ab, col, dd, k0, k1, k2, k3, k5, mN, hC, hN, hni, T⟩ := exc_obj I1.kIn q
  refine wpAny_call_exc_subT Fb T hC hN hni (fun h' a hm => ?_) (by show 1 ≤ sizeLine; rw [sizeLine_eq]; omega)
  have hn : H1 a = none := I1.hok.gone hm.new
  obtain ⟨t, ht, _, _⟩ := hm.there
  exact ⟨.ref a, upd H1 a (kept _), I1.laidN hm.keeps hm.new hn ⟨ht, trivial, ⟨_, ht⟩, fun _ _ _ _ => trivial⟩, rfl, q1 a _ hn rfl rfl ⟨_, rfl⟩⟩
theorem s_mkE {cid : Nat} {x : Str} {e : Ex} {ee : Expr} {p : Pos} {bmB : List Value} {B newId initId : String} (hK : X.K = F.K) (Fb : ExcBaseFacts B newId initId bmB) (q : PySem.W.excIn F.K (F.Cl cid) bmB newId = true) (gC : X.mg x = some (.ref (F.Cl cid))) (kC : PySem.W.keepIn F.K (.ref (F.Cl cid)) = true) (hg : Gl X x)
    (he : PE X ee (tE F Ew (evE C e))) (hp : plainX ee = true) (hdb : (x == ("__debug__" : Str)) = false) : PE X (.Call (.Name x p) [ee] [] pos) (tE F Ew (evE C (.mkE cid e))) :=
  (pe_excK Fb (by rw [hK]; exact q) gC (by rw [hK]; exact kC) hg he (star_plain hp) hdb).imp fun σ H Q ⟨μ, L, ρ, st, R, RE, h⟩ => by
    rw [evE] at h
    refine in_E R RE h fun y v μ1 L1 H1 st1 e1 R1 RE1 r1 h1 => ?_
    intro a oe hn c1 c2 c3
    exact Post.val R1 h1 hn (.exn (.inr rfl) upd_same c1 c2 c3)
end
end T

set_option maxRecDepth 100000
set_option maxHeartbeats 4000000
/-! T: {k: v, ..}.get(a, d) of written texts -/
namespace T
open PySem L2
noncomputable def nodS : List (Str × Str) → Bool
  | [] => true
  | e :: r => !(r.any fun x => decide (x.1 = e.1)) && nodS r
noncomputable def kS (kvs : List (Str × Str)) : List (Key × V) := kvs.map fun e => ((.inr e.1 : Key), V.str e.2)
noncomputable def keyEs : List (Option Expr) → List Expr → List (Str × Str) → Bool
  | some (.Constant (.str k) _ _) :: ks, (.Constant (.str v) _ _) :: vs, (k', v') :: r => decide (k = k') && decide (v = v') && keyEs ks vs r
  | [], [], [] => true
  | _, _, _ => false
theorem merge_S : ∀ (kvs : List (Str × Str)) (acc : List (Key × V)), nodS kvs = true → (∀ e ∈ kvs, (acc.any fun kv => decide (kv.1 = (.inr e.1 : Key))) = false) → mergeK acc (kS kvs) = acc ++ kS kvs
  | [], acc, _, _ => (List.append_nil _).symm
  | e :: r, acc, h, ha => by
    rw [nodS, Bool.and_eq_true, Bool.not_eq_true'] at h
    show mergeK (L2.putK acc (.inr e.1) (V.str e.2)) (kS r) = _
    have p : L2.putK acc (.inr e.1) (V.str e.2) = acc ++ [(.inr e.1, V.str e.2)] := by
      unfold L2.putK
      rw [if_neg (by rw [ha e List.mem_cons_self]; exact Bool.false_ne_true)]
    rw [p, merge_S r _ h.2 fun x hx => ?_, List.append_assoc]
    · rfl
    · rw [List.any_append, ha x (List.mem_cons_of_mem _ hx), Bool.false_or, List.any_cons, List.any_nil, Bool.or_false]
      refine decide_eq_false fun q => ?_
      have q : e.1 = x.1 := Sum.inr.inj q
      have := List.any_eq_false.mp h.1 x hx
      exact this (decide_eq_true q.symm)
theorem merge_S0 {kvs : List (Str × Str)} (h : nodS kvs = true) : mergeK [] (kS kvs) = kS kvs := merge_S kvs [] h fun _ _ => rfl
theorem valV_S (k : Str) : ∀ kvs : List (Str × Str), valV (kS kvs) (.inr k : Key) = ((kvs.find? fun e => decide (e.1 = k)).map (·.2)).map V.str
  | [] => rfl
  | e :: r => by
    have ih := valV_S k r
    unfold valV kS at ih ⊢
    rw [List.map_cons, List.find?_cons, List.find?_cons]
    have : decide ((.inr e.1 : Key) = .inr k) = decide (e.1 = k) := by
      by_cases q : e.1 = k
      · rw [q, decide_eq_true rfl, decide_eq_true rfl]
      · rw [decide_eq_false q, decide_eq_false fun z => q (Sum.inr.inj z)]
    rw [this]
    cases decide (e.1 = k) with
    | true => rfl
    | false => exact ih
section
variable {F : Fx} {Ew : XK} {X : Cx} {C : Call} {a : Ex} {ea : Expr} {pos : Pos} {σ : L2.St} {H : Hp}
theorem pps_S : ∀ {ks : List (Option Expr)} {vs : List Expr} {kvs : List (Str × Str)}, keyEs ks vs kvs = true → PPs X pos ks vs (kvs.map fun e => (tC (.str e.1), tC (.str e.2))) ∧ ks.all (·.isSome) = true ∧ ks.length = vs.length ∧ ks.length = kvs.length
  | some (.Constant (.str k) _ _) :: ks, (.Constant (.str v) _ _) :: vs, (k', v') :: r, h => by
    rw [keyEs, Bool.and_eq_true, Bool.and_eq_true, decide_eq_true_eq, decide_eq_true_eq] at h
    obtain ⟨⟨rfl, rfl⟩, h⟩ := h
    obtain ⟨a, b, c, d⟩ := pps_S h
    exact ⟨pps_cons pe_str pe_str a, by rw [List.all_cons, b]; rfl, by rw [List.length_cons, List.length_cons, c], by rw [List.length_cons, List.length_cons, d]⟩
  | [], [], [], _ => ⟨pps_nil, rfl, rfl, rfl⟩
  | [], [], _ :: _, h => by cases h
  | [], _ :: _, _, h => by cases h
  | none :: _, _, _, h => by cases h
  | some e :: _, [], _, h => by
    rw [keyEs.eq_def] at h
    split at h <;> first | (rename_i q _; cases q; done) | (cases h; done) | simp_all
  | some e :: _, v :: _, [], h => by
    rw [keyEs.eq_def] at h
    split at h <;> first | (cases h; done) | simp_all
  | some e :: ks, v :: vs, kv :: r, h => by
    rw [keyEs.eq_def] at h
    split at h
    · rename_i k _ _ ks' v _ _ vs' k' v' r' q1 q2 q3
      cases q1
      cases q2
      cases q3
      rw [Bool.and_eq_true, Bool.and_eq_true, decide_eq_true_eq, decide_eq_true_eq] at h
      obtain ⟨⟨rfl, rfl⟩, h⟩ := h
      obtain ⟨a, b, c, d⟩ := pps_S h
      exact ⟨pps_cons pe_str pe_str a, by rw [List.all_cons, b]; rfl, by rw [List.length_cons, List.length_cons, c], by rw [List.length_cons, List.length_cons, d]⟩
    · rename_i q _ _
      cases q
    · cases h
theorem tp_S : ∀ (kvs : List (Str × Str)) {Q : List (V × V) → Hp → Prop}, Q (kvs.map fun e => (V.str e.1, V.str e.2)) H → tPairs (kvs.map fun e => (tC (.str e.1), tC (.str e.2))) σ H Q
  | [], _, h => h
  | e :: r, Q, h => by
    show tPairs (r.map fun e => (tC (.str e.1), tC (.str e.2))) σ H fun ps H3 => Q ((V.str e.1, V.str e.2) :: ps) H3
    exact tp_S r h
theorem s_dsg {ks : List (Option Expr)} {vs : List Expr} {kvs : List (Str × Str)} {d : Str} {j : Nat} {dp p apos : Pos} (hu : X.A.units + 1 < cLine) (h1 : keyEs ks vs kvs = true) (h2 : nodS kvs = true) (h3 : kvs ≠ []) (h4 : kvs.length ≤ 15) (hl : (apos.endLine == pos.line) = true) (hp : plainX ea = true)
    (ha : PE X ea (tE F Ew (evE C a))) : PE X (.Call (.Attribute (.Dict ks vs p) "get" apos) [ea, .Constant (.str d) j dp] [] pos) (tE F Ew (evE C (.dsg kvs a d))) := by
  obtain ⟨b1, b2, b3, b4⟩ := pps_S (pos := p) (X := X) h1
  have n0 : ks ≠ [] := fun q => h3 (List.eq_nil_of_length_eq_zero (by rw [← b4, q]; rfl))
  have hd := pe_disp b1 b2 b3 n0 (by rw [b4]; exact h4)
  have pc : plainX (.Constant (.str d) j dp) = true := rfl
  have m : M2 X (.Dict ks vs p) "get" apos ea (.Constant (.str d) j dp) pos := by
    refine ⟨rfl, ?_, hl, ?_⟩
    · rw [allStar (by rw [List.all_cons, hp, List.all_cons, pc]; rfl)]
      rfl
    · rw [star_plain hp, star_plain pc]
      rfl
  refine (pe_dget2 hu hd ha (pe_str (x := d) (j := j) (pos := dp)) m).imp fun σ H Q ⟨μ, L, ρ, st, R, RE, h⟩ => ?_
  rw [evE] at h
  intro q hq
  refine tp_S kvs ?_
  refine ⟨upd_same, kS kvs, by unfold kS; rw [List.map_map]; rfl, by unfold kS; rw [List.length_map]; exact h4, q, rfl, .inl ⟨_, .inl upd_same⟩, ?_⟩
  rw [upd_upd, merge_S0 h2]
  have nA : ¬ AtT μ st q := fun ⟨_, l, z⟩ => by obtain ⟨u, hu⟩ := R.atT l z; rw [hq] at hu; cases hu
  have e0 : Ext μ L H st μ L (upd H q (.dK (kS kvs))) st := Ext.setAside .refl hq
  have R0 := Rel.setAside (u := .dK (kS kvs)) R nA (R.fresh hq) fun xs z => by rw [hq] at z; cases z
  refine in_E R0 (e0.env R RE) (h.from e0) fun y v μ1 L1 H1 st1 e1 R1 RE1 r1 h1 => ?_
  cases r1 with
  | r n => exact h1.elim
  | p r =>
    cases r <;> try (exact h1.elim)
    rename_i k
    have hk : H1 q = some (.dK (kS kvs)) := e1.keep q _ upd_same fun z => nA z.t
    refine ⟨_, DGet.k (k := (.inr k : Key)) hk, ?_⟩
    have := Post.here R1 h1 (V.str (getS kvs k d)) (.p (.str _))
    have e : (valV (kS kvs) (.inr k : Key)).getD (V.str d) = V.str (getS kvs k d) := by
      rw [valV_S]
      unfold getS
      cases (kvs.find? fun e => decide (e.1 = k)).map (·.2) <;> rfl
    rw [e]
    exact this
end
end T

set_option maxRecDepth 100000
set_option maxHeartbeats 4000000
/-! T: calls by names alone -/
namespace T
open PySem L2
theorem reo_len {α : Type} {ws : List α} : ∀ (inv : List Nat), (∀ i ∈ inv, i < ws.length) → (reo inv ws).length = inv.length
  | [], _ => rfl
  | i :: inv, h => by
    have ih := reo_len inv fun j hj => h j (List.mem_cons_of_mem _ hj)
    unfold reo at ih ⊢
    rw [List.filterMap_cons, List.getElem?_eq_getElem (h i List.mem_cons_self)]
    show List.length (_ :: _) = _
    rw [List.length_cons, List.length_cons, ih]
theorem vals_at : ∀ {vs : List V} {us : List Value} (i : Nat), Vals vs us → (vs[i]? = none ∧ us[i]? = none) ∨ ∃ v u, vs[i]? = some v ∧ us[i]? = some u ∧ RelV v u
  | _, _, i, .nil => .inl ⟨rfl, rfl⟩
  | _, _, 0, .cons r _ => .inr ⟨_, _, rfl, rfl, r⟩
  | _, _, i + 1, .cons _ t => vals_at i t
theorem reo_vals {vs : List V} {us : List Value} (r : Vals vs us) : ∀ inv : List Nat, Vals (reo inv vs) (reo inv us)
  | [] => .nil
  | i :: inv => by
    have ih := reo_vals r inv
    unfold reo at ih ⊢
    rw [List.filterMap_cons, List.filterMap_cons]
    rcases vals_at i r with ⟨e1, e2⟩ | ⟨v, u, e1, e2, q⟩
    · rw [e1, e2]; exact ih
    · rw [e1, e2]; exact .cons q ih
section
variable {F : Fx} {Ew : XK} {X : Cx} {C : Call} {a : Ex} {ea : Expr} {pos : Pos} {μ : List Addr} {L : Addr → Prop} {H : Hp} {st : Sto} {σ : L2.St}
theorem repws_at : ∀ {vs : List V} {ws : List W} (i : Nat), RepWs F μ L H vs ws → (vs[i]? = none ∧ ws[i]? = none) ∨ ∃ v u, vs[i]? = some v ∧ ws[i]? = some u ∧ RepW F μ L H v u
  | _, _, i, .nil => .inl ⟨rfl, rfl⟩
  | _, _, 0, .cons r _ => .inr ⟨_, _, rfl, rfl, r⟩
  | _, _, i + 1, .cons _ t => repws_at i t
theorem reo_repws {vs : List V} {ws : List W} (r : RepWs F μ L H vs ws) : ∀ inv : List Nat, RepWs F μ L H (reo inv vs) (reo inv ws)
  | [] => .nil
  | i :: inv => by
    have ih := reo_repws r inv
    unfold reo at ih ⊢
    rw [List.filterMap_cons, List.filterMap_cons]
    rcases repws_at i r with ⟨e1, e2⟩ | ⟨v, u, e1, e2, q⟩
    · rw [e1, e2]; exact ih
    · rw [e1, e2]; exact .cons q ih
/-- how a def's names are bound by these names -/
structure KwB (fd : FuncData) (ps ks : List Str) (inv : List Nat) : Prop where
  n : inv.length = ps.length
  ne : ps ≠ []
  l : ks.length = ps.length
  lt : (inv.all fun i => decide (i < ks.length)) = true
  b : ∀ ws : List Value, ws.length = ks.length → bindArgs fd ⟨[], ks.zip ws⟩ = pure (ps.zip (reo inv ws))
noncomputable def kg {α : Type} (n : Nat) (inv : List Nat) (us ws : List α) : List α := if us.length = 0 ∧ ws.length = n then reo inv ws else []
theorem KwB.kb {K : PySem.W.Frag} {fd : FuncData} {ps ks : List Str} {inv : List Nat} (h : KwB fd ps ks inv) : KBinds K fd ps ks (kg ks.length inv) (kg ks.length inv) := by
  refine ⟨fun s us ws _ hl => ?_, fun {vs us zs ws} r1 r2 => ?_⟩
  · unfold kg at hl ⊢
    by_cases q : us.length = 0 ∧ ws.length = ks.length
    · rw [if_pos q]
      obtain rfl := List.eq_nil_of_length_eq_zero q.1
      exact BindsTo.of_eq (h.b ws q.2)
    · rw [if_neg q] at hl
      exact absurd (List.eq_nil_of_length_eq_zero hl.symm) h.ne
  · unfold kg
    rw [r1.length, r2.length]
    split
    · exact reo_vals r2 inv
    · exact .nil
theorem PK.imp {kws : List Keyword} {t t' : TA} (h : PK X kws t) (i : ∀ σ H Q, t' σ H Q → t σ H Q) : PK X kws t' := ⟨fun pos pins s σ H Q I q => h.run pos pins s σ H Q I (i _ _ _ q)⟩
theorem k_nil : PK X [] (tA F Ew (evEs C .nil)) := PK.imp pk_nil fun σ H Q ⟨μ, L, ρ, st, R, RE, h⟩ => by
  rw [evEs] at h
  exact Post.here R h _ .nil
theorem k_cons {es : Exs} {nm : Option Str} {kp : Pos} {kws : List Keyword} (ha : PE X ea (tE F Ew (evE C a))) (hb : PK X kws (tA F Ew (evEs C es))) : PK X (⟨nm, ea, kp⟩ :: kws) (tA F Ew (evEs C (.cons a es))) :=
  PK.imp (pk_cons ha hb) fun σ H Q ⟨μ, L, ρ, st, R, RE, h⟩ => by
    rw [evEs] at h
    refine in_E R RE h fun x v μ1 L1 H1 st1 e1 R1 RE1 r1 h1 => ?_
    refine in_A R1 RE1 h1 fun xs vs μ2 L2 H2 st2 e2 R2 RE2 r2 h2 => ?_
    exact Post.here R2 h2 _ (.cons (e2.wv R1 r1) r2)
theorem kw_names (env : PySem.Env) (pos : Pos) : ∀ kws : List Keyword, (backToKw pos (keywordEach kws env)).map (·.1) = kws.map (·.arg)
  | [] => rfl
  | ⟨nm, e, p⟩ :: r => by
    have ih := kw_names env pos r
    unfold backToKw at ih ⊢
    rw [keywordEach, List.map_cons, List.map_cons, List.map_cons, ih]
theorem all_some {β : Type} : ∀ {l : List (Option Str × β)} {ks : List Str}, l.map (·.1) = ks.map some → l.all (·.1.isSome) = true ∧ l.filterMap (·.1) = ks ∧ l.any (·.1.isNone) = false
  | [], [], _ => ⟨rfl, rfl, rfl⟩
  | [], _ :: _, h => by cases h
  | _ :: _, [], h => by cases h
  | (a, b) :: l, k :: ks, h => by
    rw [List.map_cons, List.map_cons, List.cons.injEq] at h
    obtain ⟨h1, h2⟩ := h
    obtain ⟨q1, q2, q3⟩ := all_some h2
    have h1 : a = some k := h1
    subst h1
    refine ⟨by rw [List.all_cons, q1]; rfl, by rw [List.filterMap_cons]; show k :: _ = _; rw [q2], by rw [List.any_cons, q3]; rfl⟩
theorem pe_callK0 {CX : CXT} {k : Nat} {f : Addr} {fd : FuncData} {ps ks : List Str} {sp : Sp} {E : XK} {x : Str} {p : Pos} {kws : List Keyword} {tk : TA} {g : List Value → List Value → List Value} {gV : List V → List V → List V} (Fn : FnOk X.prog X.w X.K X.mg X.base CX k f fd ps sp) (hr : Room k X.A) (hg : Gl X x) (hm : X.mg x = some (.ref f)) (hk : PySem.W.keepIn X.K (.ref f) = true) (hb : KBinds X.K fd ps ks g gV) (hx : Passes CX X E)
    (hkw : PK X kws tk) (hks : kws.map (·.arg) = ks.map some) (hdb : (x == ("__debug__" : Str)) = false) : PE X (.Call (.Name x p) [] kws pos) (fun σ H Q => tk σ H fun zs H2 => sp (gV [] zs) H2 Q E) := by
  obtain ⟨q1, q2, q3⟩ := all_some ((kw_names X.env pos kws).trans hks)
  refine ⟨fun pins s σ H Q I h => ?_⟩
  refine wpAny_Call_Name_kw (ld_glob I hg hm ?_ hdb)
  refine PySem.W.callWith_KW0 (h₀ := X.base) I.ok.mod.kin hk q1 (thn (hkw.run pos pins s σ H _ I h) fun ws s2 ⟨zs, H2, I2, rz, q⟩ => ⟨I2.kIn, ?_⟩) (by rw [q3, Bool.or_false]; rfl)
  rw [q2]
  exact run_fnk (us := []) (vs := []) Fn hr hb hx I2 .nil rz q
theorem s_calK {fid k : Nat} {f : Addr} {fd : FuncData} {ps ks : List Str} {inv : List Nat} {x : Str} {p : Pos} {es : Exs} {kws : List Keyword} (A : FnAt F C X k fid f fd ps) (kp : PySem.W.keepIn X.K (.ref f) = true) (hr : Room k X.A) (hx : Passes (CX X.prog X.w) X Ew)
    (hg : Gl X x) (hm : X.mg x = some (.ref f)) (hd : (x == ("__debug__" : Str)) = false) (hl : es.len = ks.length) (B : KwB fd ps ks inv) (ha : PK X kws (tA F Ew (evEs C es))) (hks : kws.map (·.arg) = ks.map some) :
    PE X (.Call (.Name x p) [] kws pos) (tE F Ew (evE C (.calK fid inv es))) :=
  (pe_callK0 A.ok hr hg hm kp (B.kb (K := X.K)) hx ha hks hd).imp fun σ H Q ⟨μ, L, ρ, st, R, RE, h⟩ => by
    rw [evE] at h
    refine in_Es R RE h fun ws vs μ1 L1 H1 st1 hw e1 R1 RE1 r1 h1 => ?_
    have lv : vs.length = ks.length := by rw [repws_len r1, hw, hl]
    show spF F C fid ps.length (kg ks.length inv [] vs) H1 Q Ew
    unfold kg
    rw [if_pos ⟨rfl, lv⟩]
    refine calM_ok false R1 (reo_repws r1 inv) ?_ h1
    rw [reo_len inv fun i hi => by rw [lv]; exact of_decide_eq_true (List.all_eq_true.mp B.lt i hi), B.n]
/-- a, b, .. = a list -/
theorem pg_namesL {is : List Nat} {es : List Expr} {k : Nat} {p : Pos} (hK : X.K = F.K) (hc : X.calm = true) (nd : X.N.Nodup) (h : ∀ (k i : Nat), is[k]? = some i → ∃ x p, es[k]? = some (.Name x p) ∧ X.N[i]? = some x ∧ Loc X.env.scope x ∧ (X.fn x = true ∨ X.env.scope.names.lookup x = some .local)) (hl : is.length = es.length) :
    PG X (.Tuple es k p) (gLst F.K is.length (gNames is)) := by
  obtain ⟨a1, a2⟩ := names_each (env := X.env) (is := is) (es := es) (fun k i hk => by obtain ⟨x, p, e, _⟩ := h k i hk; exact ⟨x, p, e⟩) hl
  have := pg_lst (k := k) (pos := p) hc (pgs_names nd h hl) a1 a2
  rw [hK] at this
  exact this
theorem x_asgL {is : List Nat} {es : List Expr} {k : Nat} {p : Pos} (hg : PG X (.Tuple es k p) (gLst F.K is.length (gNames is))) (hp : plainX ea = true) (hl : notLc ea = true) (ht : swappedStores [.Tuple es k p] ea X.env = pure none) (ha : PE X ea (tE F Ew (evE C a))) :
    PS X (.Assign [.Tuple es k p] ea pos) (tS F Ew (evS C (.asgL is a))) :=
  (ps_asg ha hg (show swapsWith ea (some (.Tuple es k p)) pos.line X.env = pure false from swap_plain hp hl _ _) ht rfl).imp fun D σ H ⟨μ, L, ρ, st, R, RE, h⟩ => by
    rw [evS] at h
    refine in_S R RE h fun x v μ1 L1 H1 st1 e1 R1 RE1 r1 h1 => ?_
    cases r1 with
    | r m => exact h1.elim
    | p r =>
      cases r <;> try (exact h1.elim)
      rename_i ad xs ds q1 q2 q3
      simp only at h1
      cases z : setTs is (ds.map W.p) ρ with
      | none => simp only [z] at h1; exact h1.elim
      | some ρ' =>
        simp only [z] at h1
        have g2 := reps_map (F := F) (μ := μ1) (L := L1) (H := H1) q3
        exact ⟨ad, xs, rfl, SqL.of q2, by rw [repws_len g2, ← setTs_len z], names_ok (zs := []) is g2 z (RE1.toB _) fun σ2 h2 hw => Post.here R1 h1 σ2 h2.toE⟩
end
end T

set_option maxRecDepth 100000
set_option maxHeartbeats 4000000
/-! T: try: name = f(..) except C as e: name2 = e; the other names stay -/
namespace T
open PySem L2 PySem.Spec PyProof.Rows
/-- what is told of an exception of the body, the names as it was raised -/
noncomputable def CatchS (X : Cx) (c : Value) (n : Str × Nat) (ts : Addr → TS) (Eo : XK) (D : Ends) (cls : Value) (d : Option Addr) (σ : L2.St) (H : Hp) : Prop :=
  ∃ b, PySem.W.exmOne X.K cls c = some b ∧ (b = true → ∀ (a : Addr) (oe : Obj), H a = none → Zc cls d oe → (∃ vs, oe.data = .fields vs) → σ.length = X.N.length → ts a (offN D (some n)) (onN σ a (some n)) (upd H a (kept oe))) ∧ (b = false → Eo cls d H)
section
variable {X : Cx} {x : Str} {c : Value} {body suite : List Stmt} {b₀ : Stmt} {np po po' : Pos} {tb : WX → TS} {ts : Addr → TS} {Eo : XK}
theorem ps_tryS (n : Str) (i : Nat) (hst : X.stack = X.env :: X.outer) (hfm : X.env.frame = some X.env.locals) (hex : X.ex = []) (nd : X.N.Nodup) (h1 : X.N[i]? = some n) (h2' : X.env.kindOf n = some .local)
    (hc : Names X x c) (tk : Takes X fun cls d _ H => Eo cls d H)
    (hb : ∀ (E : WX) (pn : List (Addr × Obj)) (xe : Value → Shared → Prop), Takes (X.tr pn xe) E → PassesOwn (model X.prog X.w) X.A X.env xe → PSs (X.tr pn xe) body (tb E))
    (hsu : ∀ (a : Addr) (pn : List (Addr × Obj)), PSs (X.suite a pn) (b₀ :: suite) (ts a)) :
    PS X (.Try body [.ExceptHandler (some (.Name x np)) (some n) (b₀ :: suite) po'] [] [] po) fun D σ H => ∃ E : WX, tb E D σ H ∧ ∀ cls d σ' H', E cls d σ' H' → CatchS X c (n, i) ts Eo D cls d σ' H' := by
  refine ⟨fun pins s σ H D I h => ?_⟩
  obtain ⟨E, hE, catch_⟩ := h
  have ok := I.ok
  have frames : X.A.frames = some (X.env :: X.outer) := by rw [← hst]; exact ok.frames
  refine wpAny_Try_except ?_
  let xe : Value → Shared → Prop := fun e s₁ => wpAny (model X.prog X.w) X.A (noteFrame e X.env) (fun _ s₂ => wpAny (model X.prog X.w) X.A (setFlight e none) (fun _ s₃ =>
    wpAny (model X.prog X.w) X.A (handleBy e X.env [.ExceptHandler (some (.Name x np)) (some n) (b₀ :: suite) po']) (SP X pins D) X.xe s₃) X.xe s₂) X.xe s₁
  have caught : Takes (X.tr (X.pn ++ pins) xe) E := by
    intro u s1 air
    obtain ⟨a, B, sI, pins1, σ1, H1, cls, d, rfl, J0, ground, up1, sky, na, eos, bare1, w⟩ := air
    obtain ⟨b, ex1, yes, no⟩ := catch_ cls d σ1 H1 w
    have J : Inv X pins σ1 H1 sI := J0.ofTry ok
    show wpAny (model X.prog X.w) X.A (noteFrame (.ref a) X.env) _ _ _
    refine Sky.land (outer := X.outer) (L := X.env.locals) Zc.steady frames hfm (hst ▸ sky) fun h2 fl2 up2 => ?_
    have J2 : Inv X pins σ1 H1 { s1 with heap := h2 } := J.landed ground fl2.1 (up1.trans up2) eos bare1
    obtain ⟨oe2, vs2, there2, z2, data2⟩ := fl2.there
    have apart : a ∉ frs (X.env :: X.outer) := fun hm => by
      obtain ⟨_, o', e', notRec⟩ := fl2.2.2.1.mem hm
      cases there2.symm.trans e'
      exact notRec _ data2
    have fresh : sI.heap.get? a = none := by
      cases q : sI.heap.get? a with
      | none => rfl
      | some o =>
        have := ground a o q (by rw [show (X.tr (X.pn ++ pins) xe).stack = X.env :: X.outer from hst]; exact apart)
        rw [fl2.2.1] at this
        cases this
    have young : X.s_0.heap.get? a = none := by
      cases q : X.s_0.heap.get? a with
      | none => rfl
      | some o =>
        obtain ⟨o', e'⟩ := J.base.there a o q (by rw [hex]; simp)
        rw [fresh] at e'
        cases e'
    have nL : X.env.locals ≠ a := fun z => apart (by unfold frs; rw [List.filterMap_cons, hfm, ← z]; exact List.mem_cons_self)
    have nC : ∀ y k, X.env.cells.lookup y = some k → k ≠ a := fun y k e z => by
      obtain ⟨v, _, ec, _⟩ := J.cell y k e
      rw [z, fresh] at ec
      cases ec
    have nP : ∀ p ∈ X.pn ++ pins, p.1 ≠ a := fun p hp z => by
      have := (J.pin p hp).1
      rw [z, fresh] at this
      cases this
    refine wpAny_handleBy_cons (codeAny_handlers_test ?_) nofun
    have kind2 : PySem.W.Looks (model X.prog X.w) h2 (typeOf (.ref a)) cls := fun A Q E s k q => wpAny_typeOf_ref (k _ _ there2) (by rw [z2.1]; exact q)
    have look2 := PySem.W.exm_one (M := model X.prog X.w) J2.kIn kind2 ex1
    have S2 : Inv (X.suite a (X.pn ++ pins)) [] σ1 H1 { s1 with heap := h2 } := inv_into J2
    have named : ∀ {Q : Value → Shared → Prop} {E : Value → Shared → Prop}, Q c { s1 with heap := h2 } → wpAny (model X.prog X.w) (X.A.mark (some (.ref a))) (eval (.Name x np) X.env) Q E { s1 with heap := h2 } := fun q => by
      rcases hc with ⟨g1, g2, g3 | ⟨g3, g4, g5⟩⟩
      · exact ld_glob S2 g1 g3 q g2
      · exact ld_blt S2 g1 g3 g4 q g5 g2
    refine named (look2.here ?_)
    cases b with
    | false =>
      show wpAny _ X.A (handleBy (.ref a) X.env []) _ _ _
      refine wpAny_handleBy_nil ?_
      obtain ⟨_, _, _, oe, vs, T, oT, ts', g1, g2, g3, g4, _⟩ := id fl2
      unfold PySem.passOn
      refine wpAny_bind (wpAny_field g1 g3 g4 ?_)
      have hT : ¬ ((Value.ref T == Value.none) = true) := by simp
      rw [if_neg hT]
      have out : wpAny (model X.prog X.w) X.A (setFlight (.ref a) X.env.frame) (fun _ s3 => wpAny (model X.prog X.w) X.A (throw (.ref a) : Sem PySem.Flow) (SP X pins D) X.xe s3) X.xe { s1 with heap := h2 } := by
        rw [hfm]
        exact HandSPX.setFlight_upZ fl2 fun h3 held3 up3 => wpAny_throw (tk _ _ ⟨a, B, sI, pins, σ1, H1, cls, d, rfl, J, ground, (up1.trans up2).trans up3, .inr (.inr (hst.symm ▸ held3)), na, eos, bare1, no rfl⟩)
      first
        | exact wpAny_bind out
        | exact wpAny_bind (wpAny_pure (wpAny_bind out))
    | true =>
      refine codeAny_handlers_suite_as (HandSPX.lands_againZ fl2 fun h3 fl3 up3 => ?_)
      obtain ⟨oe3, vs3, there3, z3, data3⟩ := fl3.there
      have J3 : Inv X pins σ1 H1 { s1 with heap := h3 } := J.landed ground fl3.1 ((up1.trans up2).trans up3) eos bare1
      have S3 : Inv (X.suite a (X.pn ++ pins)) [] σ1 (upd H1 a (kept oe3)) { s1 with heap := h3 } := inv_into (inv_lay J3 there3 na young nL nC nP)
      refine store_ok (X := X.suite a (X.pn ++ pins)) (v := .ref a) S3 nd h1 (.inl h2') rfl (fun s4 S4 => ?_) (.inr h2')
      exact wpAny_mono ((hsu a (X.pn ++ pins)).run [] s4 _ _ _ S4 (yes rfl a oe3 na z3 ⟨_, data3⟩ J.len)) (fun fl s5 hsp => clause_end (nm := some (n, i)) (po' := po') (M := model X.prog X.w) (A := X.A) (E := X.xe) ok nd (fun m j e => by cases e; exact ⟨h1, h2'⟩) hsp) fun _ _ z => False.elim z
  refine wpAny_mono ((hb E (X.pn ++ pins) xe caught PassesOwn.looking).run [] s σ H D (I.toTry _) hE) (fun fl s1 h1 => ?_) fun _ _ h => h
  cases fl with
  | next =>
    obtain ⟨σ1, H1, J, q⟩ := h1
    exact wpAny_execs_nil ⟨σ1, H1, J.ofTry ok, q⟩
  | brk => exact h1.elim fun σ1 z => z.elim fun H1 z => ⟨σ1, H1, z.1.ofTry ok, z.2⟩
  | cont => exact h1.elim fun σ1 z => z.elim fun H1 z => ⟨σ1, H1, z.1.ofTry ok, z.2⟩
  | ret u =>
    obtain ⟨v, σ1, H1, J, r, q⟩ := h1
    exact ⟨v, σ1, H1, J.ofTry ok, r, q⟩
end
section
variable {F : Fx} {Ew : XK} {X : Cx} {C : Call} {pos : Pos} {μ μ' : List Addr} {L L' : Addr → Prop} {H H' : Hp} {st st' : Sto}
theorem RelE.gone {σ : L2.St} {ρ : Nv} {i : Nat} {x : Option V} (h : RelE F μ L H σ ρ) : RelE F μ L H (σ.set i x) (ρ.set i none) := by
  refine ⟨by simpa using h.1, fun j u e => ?_⟩
  by_cases hj : i = j
  · subst hj
    have hl : i < ρ.length := by
      have := (List.getElem?_eq_some_iff.mp e).1
      simpa using this
    rw [List.getElem?_set_self hl] at e
    cases e
  · rw [List.getElem?_set_ne hj] at e
    obtain ⟨v', e', r'⟩ := h.2 j u e
    exact ⟨v', by rw [List.getElem?_set_ne hj]; exact e', r'⟩
theorem x_tryC {k i t fid kk : Nat} {es : Exs} {x g : Str} {yes no : List Nat} {cc : Nat} {f : Addr} {fd : FuncData} {ps : List Str} {ees : List Expr} {n kz z : Str} {zp gp cp ap np po' zq nq aq : Pos}
    (A : FnAt F C X kk fid f fd ps) (kp : PySem.W.keepIn X.K (.ref f) = true) (hr : Room kk X.A) (hg : Gl X g) (hm : X.mg g = some (.ref f)) (hd : (g == ("__debug__" : Str)) = false) (hl : es.len = ps.length)
    (ha : ∀ (pn : List (Addr × Obj)) (xe : Value → Shared → Prop), PassesOwn (model X.prog X.w) X.A X.env xe → PA (X.tr pn xe) ees (tA F (fun _ _ _ => False) (evEs C es))) (hp : ees.all plainX = true) (he : ees.isEmpty = false)
    (hst : X.stack = X.env :: X.outer) (hfm : X.env.frame = some X.env.locals) (hex : X.ex = []) (nd : X.N.Nodup) (hi : X.N[i]? = some n) (hn : X.env.scope.names.lookup n = some .local) (hnk : X.env.kindOf n = some .local)
    (hk : X.N[k]? = some kz) (hkz : Loc X.env.scope kz ∧ (X.fn kz = true ∨ X.env.scope.names.lookup kz = some .local)) (ht : X.N[t]? = some z) (htz : Loc X.env.scope z ∧ (X.fn z = true ∨ X.env.scope.names.lookup z = some .local)) (hik : i ≠ k)
    (d1 : (n == ("__debug__" : Str)) = false) (d2 : (n == ("__classdict__" : Str)) = false)
    (hc : Names X x (.ref (F.Cl cc))) (tk : Takes X fun cls d _ H => Ew cls d H) (hyes : ∀ c ∈ yes, PySem.W.exmOne X.K (.ref (F.Cl c)) (.ref (F.Cl cc)) = some true) (hno : ∀ c ∈ no, PySem.W.exmOne X.K (.ref (F.Cl c)) (.ref (F.Cl cc)) = some false) :
    PS X (.Try [.Assign [.Name z zp] (.Call (.Name g gp) ees [] cp) ap] [.ExceptHandler (some (.Name x np)) (some n) [.Assign [.Name kz zq] (.Name n nq) aq] po'] [] [] pos) (tS F Ew (evS C (.tryC k i t fid es x yes no))) := by
  cases ees with
  | nil => cases he
  | cons e ees =>
    rw [List.all_cons, Bool.and_eq_true] at hp
    refine (ps_tryS (tb := fun E D σ H => tCallS (spF F C fid ps.length) (WE E) (tA F (fun _ _ _ => False) (evEs C es)) σ H fun v H1 => D.nx (σ.set t (some v)) H1) n i hst hfm hex nd hi hnk hc tk (fun E pn xe tk' po => ?_) (fun a pn => suite_as (k := k) nd hk hkz hi hn d1 d2)).imp fun D σ H ⟨μ, L, ρ, st, R, RE, h⟩ => ?_
    · exact (pss_cons (ps_set (X := X.tr pn xe) nd ht htz.1 (pe_callS (X := X.tr pn xe) (E := WE E) A.ok hr hg hm kp A.bd (fun σ => passAt tk' σ) (ha pn xe po) hd (star_plain hp.1) (noStar hp.2)) rfl htz.2) pss_nil).imp fun D σ H h => h
    · rw [evS] at h
      refine ⟨fun cls d σ' H' => σ' = σ ∧ ∃ c' st' μ' L' ws st1, cls = .ref (F.Cl c') ∧ d = none ∧ evEs C es ρ st = .ok ws st1 ∧ calM false C fid ws st1 = .exc c' st' ∧ Ext μ L H st μ' L' H' st' ∧ Rel F μ' L' H' st', ?_, ?_⟩
      · refine ⟨μ, L, ρ, st, R, RE, ?_⟩
        cases q : evEs C es ρ st with
        | err => rw [q] at h; exact h.elim
        | exc c s => rw [q] at h; exact h.elim
        | ok ws st1 =>
          rw [q] at h
          intro μ1 L1 H1 e1 R1 vs r1
          refine calM_ok false R1 r1 (by rw [repws_len r1, evEs_len q, hl]) ?_
          dsimp only at h
          show Post _ _ _ _ _ _ _ _
          cases q2 : calM false C fid ws st1 with
          | err => rw [q2] at h; exact h.elim
          | exc c' s2 => exact fun μ2 L2 H2 e2 R2 => ⟨rfl, c', s2, μ2, L2, ws, st1, rfl, rfl, by first | exact q | rfl, q2, e1.trans e2, R2⟩
          | ok w s2 =>
            rw [q2] at h
            intro μ2 L2 H2 e2 R2 v rv
            have := h μ2 L2 H2 (e1.trans e2) R2
            exact this _ (((e1.trans e2).env R RE).set rv)
      · rintro cls d σ' H' ⟨rfl, c', st', μ', L', ws, st1, rfl, rfl, q, q2, ex, R'⟩
        rw [q] at h
        dsimp only at h
        rw [q2] at h
        dsimp only at h
        by_cases hy : c' ∈ yes
        · rw [if_pos hy] at h
          refine ⟨true, hyes c' hy, fun _ a oe na z data hl' => ?_, nofun⟩
          have R2 : Rel F μ' (fun b => L' b ∨ b = a) (upd H' a (kept oe)) st' := Rel.val R' na
          have e2 := ex.trans (Ext.val R' (u := kept oe) na)
          have fin := h μ' _ _ e2 R2
          have ro : RepW F μ' (fun b => L' b ∨ b = a) (upd H' a (kept oe)) (.ref a) (.p (.exn c')) := .p (.exn (.inr rfl) upd_same z.1 z.2 data)
          have hil : i < σ'.length := by rw [hl']; exact (List.getElem?_eq_some_iff.mp hi).1
          refine ⟨fun j hj => (by cases hj; exact List.getElem?_set_self hil), ?_⟩
          exact fin _ ((((e2.env R RE).gone (i := i) (x := some (.ref a))).set (i := k) ro).gone (i := i) (x := none))
        · rw [if_neg hy] at h
          by_cases hn' : c' ∈ no
          · rw [if_pos hn'] at h
            exact ⟨false, hno c' hn', nofun, fun _ => h μ' L' H' ex R'⟩
          · rw [if_neg hn'] at h
            exact h.elim
/-- d.clear() -/
theorem s_dclr {o : Ex} {eo : Expr} {apos : Pos} (hK : X.K = F.K) (ho : PE X eo (tE F Ew (evE C o))) (hb : plainB eo = true) (h4 : (apos.endLine == pos.line) = true) :
    PE X (.Call (.Attribute eo "clear" apos) [] [] pos) (tE F Ew (evE C (.dclr o))) :=
  (pe_dclear ho (base_plain hb _ _) h4).imp fun σ H Q ⟨μ, L, ρ, st, R, RE, h⟩ => by
    rw [evE] at h
    refine in_E R RE h fun x v μ1 L1 H1 st1 e1 R1 RE1 r1 h1 => ?_
    cases x with
    | p d => exact h1.elim
    | r n =>
      unfold dclrW at h1
      cases q : st1[n]? with
      | none => simp only [q] at h1; exact h1.elim
      | some ob =>
        cases ob <;> simp only [q] at h1 <;> try (exact h1.elim)
        rename_i kvs
        obtain ⟨a, rfl, ha, ⟨vs, g1, g2⟩, _⟩ := R1.thg r1 q rfl
        have e := Ext.set (u := .dK []) (o' := .dic []) R1 q rfl ha
        have R' : Rel F μ1 L1 (upd H1 a (.dK [])) (st1.set n (.dic [])) := Rel.set R1 q rfl ha ⟨[], upd_same, .nil⟩
        exact ⟨.inr (.inr (.inl ⟨rfl, .inl ⟨_, g1⟩⟩)), a, vs, rfl, rfl, g1, h1 _ _ _ e R' _ (.p .non)⟩
end
end T

set_option maxRecDepth 100000
set_option maxHeartbeats 4000000
/-! T: dict(pairs) and dict(d) where the keys are tuples -/
namespace T
open PySem PySem.Spec L2 PyProof.Rows
section
variable {prog : Program} {w : World} {K : Type} [DecidableEq K] {knd : HeapKind prog w K} {A : Around} {E : Value → Shared → Prop} {s : Shared}
theorem call_dictH {o : Addr} {more : List (K × Addr × Value)} {Q : Value → Shared → Prop} (hu : knd.room A.in1.in1) (hoS : (o == sysModules) = false) (ho : s.heap.DictOfH knd o more) (hty : ∀ x ∈ more, s.TypeIs (.ref x.2.1) "tuple") (hap : (more.map fun x => knd.hash x.1).Nodup)
    (hst : ∀ h', (∀ b o, s.heap.get? b = some o → h'.get? b = some o) → ∀ x ∈ more, knd.is h' x.1 x.2.1) (hsz : more.length ≤ sizeLine)
    (h : ∀ h', h'.DictOfH knd s.heap.objs.size more → (∀ b o, s.heap.get? b = some o → h'.get? b = some o) → Q (.ref s.heap.objs.size) { s with heap := h' }) :
    wpAny (model prog w) A (call (.type "dict") [.ref o]) Q E s := by
  refine callType_codes (Q₁ := fun obj s₁ => obj = .ref s.heap.objs.size ∧ s₁ = { s with heap := s.heap.push { cls := .type "dict", data := .dict #[] } }) F.kt_called_dict (F.kt_typeCall_dict_1 _) F.entry_dict_init (kt_code_dict_new _ ⟨rfl, rfl⟩) ?_
  rintro obj s₁ ⟨rfl, rfl⟩
  have hnew : (s.heap.push { cls := .type "dict", data := .dict #[] }).DictOfH knd s.heap.objs.size [] := Heap.DictOfH.new s.heap
  have up : ∀ b o, s.heap.get? b = some o → (s.heap.push { cls := .type "dict", data := .dict #[] }).get? b = some o := fun b o e => Heap.get?_push_of_some _ e
  have ho' : (s.heap.push { cls := .type "dict", data := .dict #[] }).DictOfH knd o more := ho.at' (up o) (hst _ up)
  have hdo : s.heap.objs.size ≠ o := fun e => absurd ho.lt_size (by rw [e]; exact Nat.lt_irrefl _)
  refine ⟨hnew.typeIs, F.args_dict_init_2 _ _, ?_⟩
  unfold Builtin.«dict.__init__»
  refine wpAny_bind ?_
  unfold Builtin.Dict.selfAndRest
  refine wpAny_bind (wpAny_notOrdered_dict hnew.typeIs ?_)
  show wpAny _ _ (pure (s.heap.objs.size, [Value.ref o])) _ _ _
  refine wpAny_pure ?_
  refine updateFrom_dictH (A := A.in1) (knd := knd) (kvs := []) .none hu hdo hoS hnew ho' (.inr ⟨fun x hx => ?_, hap⟩) (by simpa using hsz) fun h' hd' _ hs' => ?_
  · obtain ⟨o, e1, e2⟩ := hty x hx
    exact ⟨o, up _ _ e1, e2⟩
  · rw [storedAllH_nil_of_nodup more ho.nodup] at hd'
    exact ⟨rfl, h h' hd' fun b u e => (hs'.2 b (Nat.ne_of_lt (Heap.lt_size e))).trans (up b u e)⟩
end
theorem key_up {P : Program} {w : World} {h h' : Heap} {ks : List Key} {a : Addr} (x : (tupleKind (mixKind P w)).is h ks a) (k : ∀ b o, h.get? b = some o → h'.get? b = some o) : (tupleKind (mixKind P w)).is h' ks a := by
  obtain ⟨o, its, n, h1, h2⟩ := x
  exact ⟨o, its, n, k _ _ h1, h2⟩
theorem key_ty {P : Program} {w : World} {s : Shared} {ks : List Key} {a : Addr} (x : (tupleKind (mixKind P w)).is s.heap ks a) : s.TypeIs (.ref a) "tuple" := by
  obtain ⟨o, its, n, h1, h2, _⟩ := x
  exact ⟨o, h1, h2⟩
noncomputable def tH (g n : Int) : Int := reduceHash (Builtin.Tuple.tupleHashOf [hashInt g, hashInt n])
noncomputable def grid : List (Int × Int) := ((List.range 5).map fun (g : Nat) => (List.range 10).map fun (n : Nat) => ((g : Int), (n : Int))).flatten
theorem grid_inj : (grid.all fun a => grid.all fun b => decide (tH a.1 a.2 = tH b.1 b.2 → a = b)) = true := by decide +kernel
theorem grid_mem {g n : Int} (h : gridB [.inl g, .inl n] = true) : (g, n) ∈ grid := by
  unfold gridB at h
  simp only [Bool.and_eq_true, decide_eq_true_eq] at h
  obtain ⟨⟨⟨h1, h2⟩, h3⟩, h4⟩ := h
  refine List.mem_flatten.mpr ⟨_, List.mem_map.mpr ⟨g.toNat, List.mem_range.mpr (by omega), rfl⟩, List.mem_map.mpr ⟨n.toNat, List.mem_range.mpr (by omega), ?_⟩⟩
  rw [Int.toNat_of_nonneg h1, Int.toNat_of_nonneg h3]
theorem hash_inj {P : Program} {w : World} {k1 k2 : List Key} (h1 : gridB k1 = true) (h2 : gridB k2 = true) (e : (tupleKind (mixKind P w)).hash k1 = (tupleKind (mixKind P w)).hash k2) : k1 = k2 := by
  have sh : ∀ {k : List Key}, gridB k = true → ∃ g n, k = [.inl g, .inl n] := fun {k} h => by
    unfold gridB at h
    split at h
    · exact ⟨_, _, rfl⟩
    · cases h
  obtain ⟨g, n, rfl⟩ := sh h1
  obtain ⟨g', n', rfl⟩ := sh h2
  have e : tH g n = tH g' n' := e
  have z := List.all_eq_true.mp grid_inj _ (grid_mem h1)
  have z := of_decide_eq_true (List.all_eq_true.mp z _ (grid_mem h2)) e
  cases z
  rfl
section
variable {X : Cx}
theorem kt_key {H : Hp} : ∀ {kvs : List (List Key × V)} {xs : List (List Key × Addr × Value)}, KT H kvs xs → ∀ x ∈ xs, ∃ kv ∈ kvs, kv.1 = x.1
  | _, _, .nil, x, hx => by cases hx
  | _, _, .cons h t, x, hx => by
    rcases List.mem_cons.mp hx with rfl | hx
    · exact ⟨_, List.mem_cons_self, h.1⟩
    · obtain ⟨kv, m, e⟩ := kt_key t x hx
      exact ⟨kv, List.mem_cons_of_mem _ m, e⟩
theorem call_dictDT (hu : X.A.units + 66 < cLine) : CallR X (.type "dict") (fun xs H Q => ∃ (a : Addr) (kvs : List (List Key × V)), xs = [.ref a] ∧ Rd H a (.dT kvs) ∧ (∀ kv ∈ kvs, gridB kv.1 = true) ∧ ∀ p, H p = none → Q (.ref p) (upd H p (.dT kvs))) := by
  intro pins s σ H xs us Q I r q
  obtain ⟨a, kvs, ex, hd, hg, q⟩ := q
  subst ex
  obtain ⟨u, eu, rx⟩ := vals1 r
  subst eu
  cases rx
  obtain ⟨z, lo, ys, rel, dd⟩ := dt_rd I.hok hd
  obtain ⟨o, es, ep, e1, e2, e3, e4, his, nd⟩ := id dd
  have hm : (s.heap.objs.size == sysModules) = false := beq_eq_false_iff_ne.mpr (Nat.ne_of_gt I.big)
  have fresh := I.hok.fresh (Nat.le_refl s.heap.objs.size)
  refine call_dictH (knd := tupleKind (mixKind X.prog X.w)) (show X.A.in1.in1.units < cLine by simp only [units_in1]; omega) lo dd (fun x hx => key_ty (his x hx)) ?_ (fun h' k x hx => key_up (his x hx) k) (by rw [← rel.length]; exact z) fun h' d' k => ?_
  · have nd' := List.pairwise_map.mp nd
    refine List.pairwise_map.mpr (List.Pairwise.imp_of_mem (fun {x y} hx hy ne e => ne ?_) nd')
    obtain ⟨p, hp, ep⟩ := kt_key rel x hx
    obtain ⟨p', hp', ep'⟩ := kt_key rel y hy
    exact hash_inj (by rw [← ep]; exact hg p hp) (by rw [← ep']; exact hg p' hp') e
  · obtain ⟨o', es', ep', f1, f2, f3, f4, _, f5⟩ := d'
    have rel' : KT (upd H s.heap.objs.size (.dT kvs)) kvs ys := rel.keeps fun b ys' e => by
      have : b ≠ s.heap.objs.size := fun z => by rw [z, fresh] at e; cases e
      rw [upd_ne this]
      exact e
    exact ⟨.ref s.heap.objs.size, upd H s.heap.objs.size (.dT kvs), I.laid (t' := s.toks) k (Nat.le_refl _) ⟨z, hm, ys, rel', o', es', ep', f1, f2, f3, f4, f5⟩, rfl, q _ fresh⟩
/-- pairs of a tuple and a thing -/
theorem pairs_ofT {pins : List (Addr × Obj)} {σ : L2.St} {H : Hp} {s : Shared} (I : Inv X pins σ H s) : ∀ {ps : List Addr} {kvs : List (List Key × V)}, Paired (fun p kv => ∃ b, SqT X.K H p [.ref b, kv.2] ∧ H b = some (.tup (kv.1.map kV))) ps kvs →
    ∃ prs : List (List Key × Addr × Value), KT H kvs prs ∧ prs.length = ps.length ∧ ∀ (j : Nat) (q : List Key × Addr × Value), prs[j]? = some q → ∃ p : Addr, ps[j]? = some p ∧ IsTup s.heap p #[.ref q.2.1, q.2.2]
  | _, _, .nil => ⟨[], .nil, rfl, fun j q e => by simp at e⟩
  | _, _, .cons (a := p) (b := kv) h t => by
    obtain ⟨prs, r, hl, hp⟩ := pairs_ofT I t
    obtain ⟨b, hs, hb⟩ := h
    obtain ⟨its, rv, ht, _⟩ := I.tuple hs
    obtain ⟨u, y, ei, ru, ry⟩ := vals2 rv
    subst ei
    cases (show u = Value.ref b from ru)
    refine ⟨(kv.1, b, y) :: prs, .cons ⟨rfl, hb, ry⟩ r, by rw [List.length_cons, List.length_cons, hl], fun j q e => ?_⟩
    cases j with
    | zero =>
      have e' : (kv.1, b, y) = q := Option.some.inj e
      subst e'
      exact ⟨p, rfl, ht⟩
    | succ j =>
      obtain ⟨p', e1, e2⟩ := hp j q (by simpa using e)
      exact ⟨p', by simpa using e1, e2⟩
theorem kt_keys {H : Hp} : ∀ {kvs : List (List Key × V)} {xs : List (List Key × Addr × Value)}, KT H kvs xs → xs.map (·.1) = kvs.map (·.1)
  | _, _, .nil => rfl
  | _, _, .cons h t => by rw [List.map_cons, List.map_cons, kt_keys t, h.1]
theorem kt_tup {H : Hp} : ∀ {kvs : List (List Key × V)} {xs : List (List Key × Addr × Value)}, KT H kvs xs → ∀ x ∈ xs, H x.2.1 = some (.tup (x.1.map kV))
  | _, _, .nil, x, hx => by cases hx
  | _, _, .cons h t, x, hx => by
    rcases List.mem_cons.mp hx with rfl | hx
    · rw [← h.1]; exact h.2.1
    · exact kt_tup t x hx
theorem call_dictPT (hcalm : X.calm = true) (hu : X.A.units + 66 < cLine) : CallR X (.type "dict") (fun xs H Q => ∃ (a : Addr) (ps : List Addr) (kvs : List (List Key × V)), xs = [.ref a] ∧ SqL X.K H a (ps.map V.ref) ∧ (Paired (fun p kv => ∃ b, SqT X.K H p [.ref b, kv.2] ∧ H b = some (.tup (kv.1.map kV))) ps kvs) ∧
    (kvs.map (·.1)).Nodup ∧ ∀ p, H p = none → Q (.ref p) (upd H p (.dT kvs))) := by
  intro pins s σ H xs us Q I r q
  obtain ⟨a, ps, kvs, ex, hq, hp, nd, q⟩ := q
  subst ex
  obtain ⟨u, eu, rx⟩ := vals1 r
  subst eu
  cases rx
  obtain ⟨its, rv, pl, hz⟩ := I.list hq
  have ei := refs_at rv
  subst ei
  rw [List.length_map] at hz
  obtain ⟨prs, rel, hl, hpr⟩ := pairs_ofT I hp
  obtain ⟨o, n, ho, hc, hd, hdat⟩ := pl
  have hm : (s.heap.objs.size == sysModules) = false := beq_eq_false_iff_ne.mpr (Nat.ne_of_gt I.big)
  have fresh := I.hok.fresh (Nat.le_refl s.heap.objs.size)
  let pv : List (Value × Value) := prs.map fun x => (.ref x.2.1, x.2.2)
  have pvl : pv.length = prs.length := List.length_map _
  have ok : PlainSeq "list" s.heap a (ps.map Value.ref).toArray ∧ PairItems s.heap (ps.map Value.ref).toArray (fun j => ps.getD j 0) pv := by
    refine ⟨⟨o, n, ho, hc, hd, hdat⟩, by rw [pvl, hl]; simp, fun j k v e => ?_⟩
    rw [List.getElem?_map] at e
    cases q1 : prs[j]? with
    | none => rw [q1] at e; cases e
    | some x =>
      rw [q1] at e
      cases e
      obtain ⟨p, e1, e2⟩ := hpr j x q1
      have e3 : ps.getD j 0 = p := by rw [List.getD_eq_getElem?_getD, e1]; rfl
      refine ⟨by simp [e1, e3], .inl ?_⟩
      show s.heap.IsTuple (ps.getD j 0) _
      rw [e3]
      exact e2
  refine call_dict_pairsH (knd := tupleKind (mixKind X.prog X.w)) (ps := prs) (PairArg.list a (ps.map Value.ref).toArray (fun j => ps.getD j 0) pv) (I.ok.hd hcalm) (show X.A.in1.in1.units < cLine by simp only [units_in1]; omega) ok ⟨pvl.symm, fun i k v e => ?_⟩ (fun h' hk x hx => ?_) (by rw [pvl, hl]; exact hz) fun h' tk d' k => ?_
  · have e : (prs.map fun x => (Value.ref x.2.1, x.2.2))[i]? = some (k, v) := e
    rw [List.getElem?_map] at e
    cases q1 : prs[i]? with
    | none => rw [q1] at e; cases e
    | some x =>
      rw [q1] at e
      cases e
      exact ⟨x.1, x.2.1, rfl, rfl⟩
  · have := key_of (P := X.prog) (w := X.w) I.hok (kt_tup rel x hx)
    obtain ⟨o', its', n', g1, g2⟩ := this
    exact ⟨o', its', n', hk _ _ (fun z => by have := Heap.lt_size g1; rw [z] at this; exact Nat.lt_irrefl _ this) (by simp) g1, g2⟩
  · rw [storedAllH_nil_of_nodup prs (by rw [kt_keys rel]; exact nd)] at d'
    obtain ⟨o', es', ep', f1, f2, f3, f4, _, f5⟩ := d'
    have rel' : KT (upd H s.heap.objs.size (.dT kvs)) kvs prs := rel.keeps fun b ys' e => by
      have : b ≠ s.heap.objs.size := fun z => by rw [z, fresh] at e; cases e
      rw [upd_ne this]
      exact e
    exact ⟨.ref s.heap.objs.size, upd H s.heap.objs.size (.dT kvs), I.laid (t' := tk) (fun b o e => k b o (by simp) e) (Nat.le_refl _) ⟨by rw [rel.length, hl]; exact hz, hm, prs, rel', o', es', ep', f1, f2, f3, f4, f5⟩, rfl, q _ fresh⟩
end
section
variable {F : Fx} {Ew : XK} {X : Cx} {C : Call} {pos : Pos} {μ : List Addr} {L : Addr → Prop} {H : Hp} {st : Sto}
theorem repe_fst {κ : Type} : ∀ {vs : List (κ × V)} {ws : List (κ × W)}, T.RepE F μ L H vs ws → vs.map (·.1) = ws.map (·.1)
  | _, _, .nil => rfl
  | _, _, .cons _ t => by rw [List.map_cons, List.map_cons, repe_fst t]
theorem fin_dit {G : VK} {vs : List (List Key × V)} {ws : List (List Key × W)} {p : Addr} (R : Rel F μ L H st) (h : PostW F Ew μ L H st (newO (.dit ws) st) G) (hp : H p = none) (r : T.RepE F μ L H vs ws) : G (.ref p) (upd H p (.dT vs)) :=
  Post.thing R h hp ⟨vs, upd_same, RepE.mono ((Ext.thing (o := .dit ws) R hp).kp R) (Ext.thing (u := .dT vs) (o := .dit ws) R hp).pre r⟩
/-- pairs that are told: each a tuple of a tuple and a thing -/
theorem pairs_rep : ∀ {vs : List V} {ds : List D} {es : List (List Key × D)}, RepDs F L H vs ds → pairsT ds = some es →
    ∃ (ps : List Addr) (kvs : List (List Key × V)), vs = ps.map V.ref ∧ (Paired (fun p kv => ∃ b, SqT F.K H p [.ref b, kv.2] ∧ H b = some (.tup (kv.1.map kV))) ps kvs) ∧ T.RepE F μ L H kvs (es.map fun e => (e.1, W.p e.2))
  | _, _, _, .nil, h => by
    rw [pairsT] at h
    cases h
    exact ⟨[], [], rfl, .nil, .nil⟩
  | _, _, _, .cons (d := d) (ds := ds) r t, h => by
    rw [pairsT] at h
    cases q1 : pairT d with
    | none => simp only [q1] at h; cases h
    | some e =>
      cases q2 : pairsT ds with
      | none => simp only [q1, q2] at h; cases h
      | some es =>
        simp only [q1, q2] at h
        cases h
        obtain ⟨ps, kvs, rfl, pr, re⟩ := pairs_rep t q2
        unfold pairT at q1
        split at q1
        · rename_i ks v
          cases q3 : keysD ks with
          | none => rw [q3] at q1; cases q1
          | some kk =>
            rw [q3] at q1
            cases q1
            cases r with
            | tup hL ht rs =>
              cases rs with
              | cons r1 rs =>
                cases rs with
                | cons r2 rs =>
                  cases rs
                  cases r1 with
                  | tup hL1 ht1 rs1 =>
                    have e1 := keys_v rs1 q3
                    subst e1
                    exact ⟨_ :: ps, (kk, _) :: kvs, rfl, .cons ⟨_, .inl (.inl ht), ht1⟩ pr, .cons (.p r2) re⟩
        · cases q1
theorem s_dcT {a : Ex} {ea : Expr} {x : Str} {p : Pos} (hK : X.K = F.K) (hc : X.calm = true) (hu : X.A.units + 66 < cLine) (hx : x = ("dict" : Str)) (hg : Gl X "dict") (hm : X.mg "dict" = none) (ha : PE X ea (tE F Ew (evE C a))) (hp : plainX ea = true) :
    PE X (.Call (.Name x p) [ea] [] pos) (tE F Ew (evE C (.dcT a))) := by
  subst hx
  refine (pe_callTy ((call_dictDT hu).or (call_dictPT hc hu)) hg hm boot_dict (pa_cons ha pa_nil (star_plain hp)) (by decide) (by decide) (star_plain hp) rfl).imp ?_
  rintro σ H Q ⟨μ, L, ρ, st, R, RE, h⟩
  rw [evE] at h
  refine in_E R RE h fun x v μ1 L1 H1 st1 e1 R1 RE1 r1 h1 => ?_
  cases x with
  | r n =>
    unfold dcTW at h1
    cases q : st1[n]? with
    | none => simp only [q] at h1; exact h1.elim
    | some ob =>
      cases ob <;> simp only [q] at h1 <;> try (exact h1.elim)
      rename_i kvs
      split at h1
      · rename_i g
        obtain ⟨a, rfl, ha, ⟨vs, g1, g2⟩, _⟩ := R1.thg r1 q rfl
        refine .inl ⟨a, vs, rfl, .inl g1, fun kv hkv => ?_, fun p hp => fin_dit R1 h1 hp g2⟩
        have : kv.1 ∈ kvs.map (·.1) := by rw [← repe_fst g2]; exact List.mem_map.mpr ⟨kv, hkv, rfl⟩
        obtain ⟨kw, hkw, e⟩ := List.mem_map.mp this
        rw [← e]
        exact List.all_eq_true.mp g kw hkw
      · exact h1.elim
  | p d =>
    cases d <;> try (exact h1.elim)
    rename_i ds
    unfold dcTW at h1
    cases q : pairsT ds with
    | none => simp only [q] at h1; exact h1.elim
    | some es =>
      simp only [q] at h1
      split at h1
      · rename_i nd
        cases r1 with
        | p r1 =>
          cases r1 with
          | lst hL hl rs =>
            obtain ⟨ps, kvs, rfl, pr, re⟩ := pairs_rep (μ := μ1) rs q
            refine .inr ⟨_, ps, kvs, rfl, .inl (.inl hl), by rw [hK]; exact pr, ?_, fun p hp => fin_dit R1 h1 hp re⟩
            rw [repe_fst re, List.map_map]
            exact nd
      · exact h1.elim
end
end T

set_option maxRecDepth 100000
set_option maxHeartbeats 4000000
/-! T: a call of a def that wants that nothing is being shown -/
namespace T
open PySem PySem.Spec L2 PyProof.Rows
/-- what a def promises to a caller below which nothing is being shown -/
structure FnG (P : Program) (w : World) (K : PySem.W.Frag) (mg : Str → Option Value) (base : Heap) (Z : CXT) (k : Nat) (f : Addr) (fd : FuncData) (ps : List Str) (sp : Sp) : Prop where
  len : ∀ zs H Q E, sp zs H Q E → zs.length = ps.length
  run : ∀ (A : Around) (low : List Env) (s : Shared) (H : Hp) (g : Args) (us : List Value) (zs : List V) (Q : VK) (E : XK), A.guards = some [] → Room k A → Env0 P w K mg base A low s H →
    BindsTo s fd g (ps.zip us) → Vals zs us → sp zs H Q E → codeAny (model P w) A (.call (.ref f) g) (CR Z low P w H s Q E) s
section
variable {X : Cx} {Z : CXT} {k : Nat} {f : Addr} {fd : FuncData} {ps : List Str} {sp : Sp} {E : XK}
/-- the callee runs -/
theorem run_fnG {pins : List (Addr × Obj)} {σ : L2.St} {H : Hp} {s : Shared} {Q : VK} {us : List Value} {vs : List V} (F : FnG X.prog X.w X.K X.mg X.base Z k f fd ps sp) (hr : Room k X.A) (gd : X.A.guards = some []) (hb : Binds X.K fd ps []) (hx : Passes Z X E)
    (I : Inv X pins σ H s) (r : Vals vs us) (h : sp vs H Q E) : wpAny (model X.prog X.w) X.A (call (.ref f) us) (EP X pins σ Q) X.xe s := by
  have hl : us.length = ps.length := by rw [← r.length]; exact F.len _ _ _ _ h
  have bs := hb s us I.kIn (by rw [List.append_nil]; exact hl)
  rw [List.append_nil] at bs
  refine wpAny_call (codeAny_mono (F.run X.A X.stack s H ⟨us, []⟩ us vs Q E gd hr I.env0 bs r h) fun r s' hq => ?_)
  cases r with
  | error e => exact hx pins σ H s e s' I hq
  | ok fl =>
    cases fl with
    | ret u => exact I.after hq
    | next => exact False.elim hq
    | brk => exact False.elim hq
    | cont => exact False.elim hq
end
section
variable {F : Fx} {Ew : XK} {X : Cx} {C : Call} {pos : Pos}
theorem s_calG (m : Bool) {fid k : Nat} {f : Addr} {fd : FuncData} {ps : List Str} {x : Str} {p : Pos} {es : Exs} {ees : List Expr} (ok : FnG X.prog X.w X.K X.mg X.base (CX X.prog X.w) k f fd ps (spF F C fid ps.length)) (bd : Binds X.K fd ps []) (kp : PySem.W.keepIn X.K (.ref f) = true) (hr : Room k X.A) (gd : X.A.guards = some []) (hx : Passes (CX X.prog X.w) X Ew)
    (hg : Gl X x) (hm : X.mg x = some (.ref f)) (hd : (x == ("__debug__" : Str)) = false) (hl : es.len = ps.length) (ha : PA X ees (tA F Ew (evEs C es))) (hp : ees.all plainX = true) (he : ees.isEmpty = false) :
    PE X (.Call (.Name x p) ees [] pos) (tE F Ew (evE C (.cal m fid es))) := by
  have key : ∀ σ H Q, tE F Ew (evE C (.cal m fid es)) σ H Q → tA F Ew (evEs C es) σ H fun vs H1 => spF F C fid ps.length vs H1 Q Ew := by
    rintro σ H Q ⟨μ, L, ρ, st, R, RE, h⟩
    rw [evE] at h
    refine in_Es R RE h fun ws vs μ1 L1 H1 st1 hw e1 R1 RE1 r1 h1 => ?_
    exact calM_ok m R1 r1 (by rw [repws_len r1, hw, hl]) h1
  cases ees with
  | nil => cases he
  | cons e ees =>
    rw [List.all_cons, Bool.and_eq_true] at hp
    refine ⟨fun pins s σ H Q I h => ?_⟩
    refine wpAny_Call_Name_kw (ld_glob I hg hm ?_ hd)
    exact PySem.W.callWith_K (h₀ := X.base) I.ok.mod.kin kp (thn (ha.run pos pins s σ H _ I (key σ H Q h)) fun us s1 ⟨vs, H1, I1, r, q⟩ => ⟨I1.kIn, run_fnG ok hr gd bd hx I1 r q⟩) (star_plain hp.1) (noStar hp.2)
end
end T

set_option maxRecDepth 100000
set_option maxHeartbeats 4000000
/-! T: is the term what the text says? -/
namespace T
open PySem L2

/-! ### values of constants -/
mutual
noncomputable def dEq : D → D → Bool
  | .non, .non => true
  | .bl a, .bl b => decide (a = b)
  | .int i, .int j => decide (i = j)
  | .str x, .str y => decide (x = y)
  | .tup xs, .tup ys => dsEq xs ys
  | .ctup xs, .ctup ys => dsEq xs ys
  | .lst xs, .lst ys => dsEq xs ys
  | _, _ => false
noncomputable def dsEq : List D → List D → Bool
  | [], [] => true
  | x :: xs, y :: ys => dEq x y && dsEq xs ys
  | _, _ => false
end
mutual
theorem dEq_ok : ∀ (a b : D), dEq a b = true → a = b
  | a, b, h => by
    cases a <;> cases b <;> simp only [dEq, decide_eq_true_eq, Bool.false_eq_true] at h <;> first
      | rfl
      | (cases h; rfl)
      | (rw [dsEq_ok _ _ h])
theorem dsEq_ok : ∀ (a b : List D), dsEq a b = true → a = b
  | [], [], _ => rfl
  | [], _ :: _, h => by simp [dsEq] at h
  | _ :: _, [], h => by simp [dsEq] at h
  | x :: xs, y :: ys, h => by
    simp only [dsEq, Bool.and_eq_true] at h
    rw [dEq_ok _ _ h.1, dsEq_ok _ _ h.2]
end

noncomputable def kvEq : List (Str × D) → List (Str × D) → Bool
  | [], [] => true
  | (x, d) :: r, (y, e) :: t => decide (x = y) && dEq d e && kvEq r t
  | _, _ => false
theorem kvEq_ok : ∀ (a b : List (Str × D)), kvEq a b = true → a = b
  | [], [], _ => rfl
  | [], _ :: _, h => by cases h
  | _ :: _, [], h => by cases h
  | (x, d) :: r, (y, e) :: t, h => by
    simp only [kvEq, Bool.and_eq_true, decide_eq_true_eq] at h
    rw [h.1.1, dEq_ok _ _ h.1.2, kvEq_ok _ _ h.2]
/-! ### what the text's top holds -/
inductive Gk where
  | blt | fn (f ar : Nat) | cls (c : Nat) | con (d : D) | exc (c : Nat) | dct (kvs : List (Str × D)) | fnG (f ar : Nat)
structure Gtab where
  gl : Str → Option Gk
  ini : Nat → Option (Nat × Nat)
  met : Nat → Str → Option (Nat × Nat)
  fok : Nat → Str → Bool
  rp : Bool := false
  xr : Nat → Bool := fun _ => false
  xs : Nat → Nat → Option Bool := fun _ _ => none
  kw : Nat → List Str → Option (List Nat) := fun _ _ => none
structure FnIs (F : Fx) (C : Call) (k : Nat) (P : Program) (w : World) (mg : Str → Option Value) (base : Heap) (fid ar : Nat) (f : Addr) : Prop where
  ex : ∃ fd ps, ps.length = ar ∧ FnOk P w F.K mg base (CX P w) k f fd ps (spF F C fid ps.length) ∧ Binds F.K fd ps []
/-- .. called where no such code stands below -/
structure FnGIs (F : Fx) (C : Call) (k : Nat) (P : Program) (w : World) (mg : Str → Option Value) (base : Heap) (fid ar : Nat) (f : Addr) : Prop where
  ex : ∃ fd ps, ps.length = ar ∧ FnG P w F.K mg base (CX P w) k f fd ps (spF F C fid ps.length) ∧ Binds F.K fd ps []
/-- .. called by these names -/
structure FnKw (F : Fx) (C : Call) (k : Nat) (P : Program) (w : World) (mg : Str → Option Value) (base : Heap) (fid ar : Nat) (f : Addr) (ks : List Str) (inv : List Nat) : Prop where
  ex : ∃ fd ps, ps.length = ar ∧ FnOk P w F.K mg base (CX P w) k f fd ps (spF F C fid ps.length) ∧ Binds F.K fd ps [] ∧ KwB fd ps ks inv
/-- an own exception class -/
structure ExcIs (F : Fx) (mg : Str → Option Value) (x : Str) (c : Nat) : Prop where
  gl : mg x = some (.ref (F.Cl c))
  base : ∃ (B newId initId : String) (bmB : List Value), ExcBaseFacts B newId initId bmB ∧ PySem.W.excIn F.K (F.Cl c) bmB newId = true
  kp : PySem.W.keepIn F.K (.ref (F.Cl c)) = true
  sub : PySem.W.subIn F.K (.ref (F.Cl c)) (.type "BaseException") = some true
  ty : PySem.W.typeIn F.K (.ref (F.Cl c)) = some (.type "type")
  hd : PySem.W.hasDictIn F.K (F.Cl c) = true
structure GOk (T : Gtab) (F : Fx) (C : Call) (k : Nat) (P : Program) (w : World) (mg : Str → Option Value) (base : Heap) : Prop where
  blt : ∀ x, T.gl x = some .blt → mg x = none
  fn : ∀ x fid ar, T.gl x = some (.fn fid ar) → ∃ f, mg x = some (.ref f) ∧ PySem.W.keepIn F.K (.ref f) = true ∧ FnIs F C k P w mg base fid ar f
  cls : ∀ x c, T.gl x = some (.cls c) → mg x = some (.ref (F.Cl c))
  con : ∀ x d, T.gl x = some (.con d) → ∃ v u, mg x = some u ∧ RelV v u ∧ ∀ L H, RepD F L H v d
  exc : ∀ x c, T.gl x = some (.exc c) → ExcIs F mg x c
  dct : ∀ x kvs, T.gl x = some (.dct kvs) → ∃ p, mg x = some (.ref p) ∧ DctIs F w.params p kvs
  ini : ∀ c fid ar, T.ini c = some (fid, ar) → ∃ f, Mk F.K (F.Cl c) f ∧ FnIs F C k P w mg base fid ar f
  met : ∀ c m fid ar, T.met c m = some (fid, ar) → Cls F.K (F.Cl c) ∧ ∃ f, Meth F.K (F.Cl c) m f ∧ FnIs F C k P w mg base fid ar f
  fok : ∀ c x, T.fok c x = true → Cls F.K (F.Cl c) ∧ NoAttr F.K (F.Cl c) x
  xr : ∀ c, T.xr c = true → ExcR F c
  xs : ∀ c c' b, T.xs c c' = some b → PySem.W.subIn F.K (.ref (F.Cl c)) (.ref (F.Cl c')) = some b
  kw : ∀ x fid ar ks inv, T.gl x = some (.fn fid ar) → T.kw fid ks = some inv → ∃ f, mg x = some (.ref f) ∧ PySem.W.keepIn F.K (.ref f) = true ∧ FnKw F C k P w mg base fid ar f ks inv
  fng : T.rp = true → ∀ x fid ar, T.gl x = some (.fnG fid ar) → ∃ f, mg x = some (.ref f) ∧ PySem.W.keepIn F.K (.ref f) = true ∧ FnGIs F C k P w mg base fid ar f

/-! ### the text -/
noncomputable def nmOk (x : Str) : Bool := !(x == ("__debug__" : Str)) && !(x == ("__classdict__" : Str)) && decide (x ≠ "__name__")
noncomputable def visB (sc : Scope) (x : Str) : Bool := match sc.names.lookup x with
  | some .local => true
  | some .cell => true
  | some .free => true
  | _ => false
noncomputable def locB (sc : Scope) (x : Str) : Bool := match sc.names.lookup x with
  | some .local => true
  | some .cell => true
  | _ => false
noncomputable def glB (sc : Scope) (x : Str) : Bool := nmOk x && match sc.names.lookup x with
  | some .globalImplicit => true
  | _ => false
noncomputable def bltB (T : Gtab) (sc : Scope) (x : Str) : Bool := glB sc x && match T.gl x with
  | some .blt => true
  | _ => false
noncomputable def conD : Const → D → Bool
  | .none, .non => true
  | .bool a, .bl b => decide (a = b)
  | .int i, .int j => decide (i = j)
  | .str x, .str y => decide (x = y)
  | _, _ => false
/-- an argument-taking builtin's name -/
noncomputable def bfnN : Bfn → Option Str
  | .len => some "len" | .all => some "all" | .any => some "any" | .sum => some "sum"
  | .max1 => some "max" | .max2 => some "max" | .min1 => some "min" | .min2 => some "min"
  | .int => some "int" | .bool => some "bool" | .abs => some "abs" | .strI => some "str" | .lstM => some "list" | .lstP => some "list" | .tupl => some "tuple" | .srtP => some "sorted" | .srtD => some "sorted" | .minD => some "min" | .lstT => some "list"
  | _ => none
noncomputable def isiN : Bfn → Option Str
  | .isiInt => some "int" | .isiBool => some "bool" | .isiStr => some "str" | .isiTup => some "tuple" | .isiLst => some "list"
  | _ => none
noncomputable def bmtN : Bmt → Option Str
  | .append => some "append" | .extend => some "extend" | .popAt => some "pop" | .insert => some "insert"
  | _ => none
noncomputable def bmtN0 : Bmt → Option Str
  | .pop0 => some "pop" | .clear => some "clear"
  | _ => none
noncomputable def ownOf (N : List Str) (tg : Tg) : List (Str × Nat) := tg.slots.map fun i => (N.getD i "", i)
theorem ownOf_slots (N : List Str) (tg : Tg) : (ownOf N tg).map (·.2) = tg.slots := by
  unfold ownOf
  rw [List.map_map]
  exact List.map_id _
noncomputable def mNs (N : List Str) (sc : Scope) : List Nat → List Expr → Bool
  | [], [] => true
  | i :: is, .Name x _ :: es => decide (N[i]? = some x) && locB sc x && mNs N sc is es
  | _, _ => false
noncomputable def mTg (N : List Str) (sc : Scope) : Tg → Expr → Bool
  | .nm i, .Name x _ => decide (N[i]? = some x) && locB sc x
  | .tup is, .Tuple es _ _ => mNs N sc is es
  | _, _ => false
noncomputable def isTupE : Expr → Bool
  | .Tuple _ _ _ => true
  | _ => false
noncomputable def rgB (x : Str) (m t : Bool) : Bool := if t then decide (x = "tuple") && m == false else decide (x = "list")
mutual
noncomputable def mE (T : Gtab) (N : List Str) : Bool → Scope → Ex → Expr → Bool
  | t, sc, .and a b, pe => match pe with
    | .BoolOp .And (ea :: rest) p => mE T N t sc a ea && (match rest with
      | [] => false
      | [eb] => mE T N t sc b eb
      | _ :: _ :: _ => mE T N t sc b (.BoolOp .And rest p))
    | _ => false
  | t, sc, .or a b, pe => match pe with
    | .BoolOp .Or (ea :: rest) p => mE T N t sc a ea && (match rest with
      | [] => false
      | [eb] => mE T N t sc b eb
      | _ :: _ :: _ => mE T N t sc b (.BoolOp .Or rest p))
    | _ => false
  | t, sc, .not a, pe => match pe with
    | .UnaryOp .Not ea _ => mE T N t sc a ea
    | _ => false
  | _, sc, .cmp o a b, pe => match pe with
    | .Compare ea [op] [eb] _ => decide (op = cop o) && plainX eb && mE T N false sc a ea && mE T N false sc b eb
    | _ => false
  | _, sc, .chn o o' a b c, pe => match pe with
    | .Compare ea [op, op'] [eb, ec] _ => decide (op = cop o) && decide (op' = cop o') && plainX ec && mE T N false sc a ea && mE T N false sc b eb && mE T N false sc c ec
    | _ => false
  | t, sc, .var i, pe => (!t || plainT pe) && match pe with
    | .Name x _ => decide (N[i]? = some x) && visB sc x && nmOk x
    | _ => false
  | t, sc, .con d, pe => (!t || plainT pe) && match pe with
    | .Constant c _ _ => conD c d
    | _ => false
  | t, sc, .glo y d, pe => (!t || plainT pe) && match pe with
    | .Name x _ => decide (x = y) && glB sc x && (match T.gl x with
      | some (.con d') => dEq d' d
      | _ => false)
    | _ => false
  | t, sc, .bin o a b, pe => (!t || plainT pe) && match pe with
    | .BinOp ea op eb _ => decide (op = opB o) && mE T N false sc a ea && mE T N false sc b eb
    | _ => false
  | t, sc, .neg a, pe => (!t || plainT pe) && match pe with
    | .UnaryOp .USub ea _ => mE T N false sc a ea
    | _ => false
  | t, sc, .ite c a b, pe => (!t || plainT pe) && match pe with
    | .IfExp ec ea eb _ => mE T N true sc c ec && mE T N false sc a ea && mE T N false sc b eb
    | _ => false
  | t, sc, .tup es, pe => (!t || plainT pe) && match pe with
    | .Tuple ees _ _ => mEs T N sc es ees
    | _ => false
  | t, sc, .tupM es, pe => (!t || plainT pe) && match pe with
    | .Tuple ees _ _ => mEs T N sc es ees
    | _ => false
  | t, sc, .lst m es, pe => (!t || plainT pe) && match pe with
    | .List ees _ => mEs T N sc es ees
    | _ => false
  | t, sc, .dnw k, pe => (!t || plainT pe) && match pe with
    | .Dict [] [] _ => true
    | _ => false
  | t, sc, .ix a b, pe => (!t || plainT pe) && match pe with
    | .Subscript ea eb _ => plainX eb && mE T N false sc a ea && mE T N false sc b eb
    | _ => false
  | t, sc, .sli a lo hi, pe => (!t || plainT pe) && match pe with
    | .Subscript ea (.Slice elo ehi none _) _ => mE T N false sc a ea && mO T N sc lo elo && mO T N sc hi ehi
    | _ => false
  | t, sc, .sliM a lo hi, pe => (!t || plainT pe) && match pe with
    | .Subscript ea (.Slice elo ehi none _) _ => mE T N false sc a ea && mO T N sc lo elo && mO T N sc hi ehi
    | _ => false
  | t, sc, .fld c a f, pe => (!t || plainT pe) && match pe with
    | .Attribute ea x _ => decide (x = f) && T.fok c f && plainB ea && mE T N false sc a ea
    | _ => false
  | t, sc, .cal m f es, pe => (!t || plainT pe) && match pe with
    | .Call (.Name x _) ees [] _ => glB sc x && (match T.gl x with
      | some (.fn f' ar) => decide (f' = f) && decide (es.len = ar)
      | some (.fnG f' ar) => decide (f' = f) && decide (es.len = ar) && T.rp && !ees.isEmpty
      | _ => false) && mEs T N sc es ees
    | _ => false
  | t, sc, .calB f es, pe => (!t || plainT pe) && match pe with
    | .Call (.Name x _) ees [] _ => glB sc x && (match T.gl x with
      | some (.fn f' ar) => decide (f' = f) && decide (es.len = ar)
      | _ => false) && !ees.isEmpty && mEs T N sc es ees
    | _ => false
  | t, sc, .mth c m f o es, pe => (!t || plainT pe) && match pe with
    | .Call (.Attribute eo x ap) ees [] p => decide (x = m) && (match T.met c m with
      | some (f', ar) => decide (f' = f) && decide (es.len + 1 = ar)
      | none => false) && plainB eo && decide (ees.length < 29) && (ap.endLine == p.line) && mE T N false sc o eo && mEs T N sc es ees
    | _ => false
  | t, sc, .mak c f es, pe => (!t || plainT pe) && match pe with
    | .Call (.Name x _) ees [] _ => glB sc x && (match T.gl x with
      | some (.cls c') => decide (c' = c)
      | _ => false) && (match T.ini c with
      | some (f', ar) => decide (f' = f) && decide (es.len + 1 = ar)
      | none => false) && mEs T N sc es ees
    | _ => false
  | t, sc, .bfn b es, pe => (!t || plainT pe) && match pe with
    | .Call (.Name x _) ees [] _ => bltB T sc x && (match bfnN b with
      | some y => decide (x = y) && !ees.isEmpty && mEs T N sc es ees
      | none => match isiN b with
        | some z => decide (x = "isinstance") && (match ees with
          | [ea, .Name y _] => decide (y = z) && bltB T sc y && mEs T N sc es [ea]
          | _ => false)
        | none => false)
    | _ => false
  | t, sc, .rgl m k a, pe => (!t || plainT pe) && match pe with
    | .Call (.Name x _) [.Call (.Name y _) [ea] [] _] [] _ => rgB x m k && decide (y = "range") && bltB T sc x && bltB T sc y && plainX ea && mE T N false sc a ea
    | _ => false
  | t, sc, .bmt b o es, pe => (!t || plainT pe) && match pe with
    | .Call (.Attribute eo x ap) ees [] p => plainB eo && decide (ees.length < 29) && (ap.endLine == p.line) && mE T N false sc o eo && mEs T N sc es ees && (match bmtN b with
      | some y => decide (x = y) && !ees.isEmpty
      | none => match bmtN0 b with
        | some y => decide (x = y) && ees.isEmpty
        | none => false)
    | _ => false
  | t, sc, .lc m tg it hc c e, pe => (!t || plainT pe) && match pe with
    | .ListComp elt [⟨etg, ei, ifs, 0⟩] scope p => plainX ei && blkC N sc scope (ownOf N tg) && mI T N sc it etg ei && mTg N scope tg etg && (match ifs with
      | [] => !hc
      | [ec] => hc && mE T N true scope c ec
      | _ => false) && mE T N false scope e elt
    | _ => false
  | t, sc, .frz a, pe => (!t || plainT pe) && mE T N false sc a pe
  | t, sc, .gdx y kvs e, pe => (!t || plainT pe) && match pe with
    | .Subscript (.Name x _) eb _ => decide (x = y) && glB sc x && (match T.gl x with
      | some (.dct kvs') => kvEq kvs' kvs
      | _ => false) && plainX eb && mE T N false sc e eb
    | _ => false
  | t, sc, .rev m a, pe => (!t || plainT pe) && match pe with
    | .Subscript ea (.Slice none none (some (.UnaryOp .USub (.Constant (.int i) _ _) _)) _) _ => decide (i = 1) && mE T N false sc a ea
    | _ => false
  | t, sc, .revT a, pe => (!t || plainT pe) && match pe with
    | .Subscript ea (.Slice none none (some (.UnaryOp .USub (.Constant (.int i) _ _) _)) _) _ => decide (i = 1) && mE T N false sc a ea
    | _ => false
  | t, sc, .remI a b, pe => (!t || plainT pe) && match pe with
    | .Call (.Attribute ea x ap) [eb] [] p => decide (x = "remove") && plainB ea && plainX eb && (ap.endLine == p.line) && mE T N false sc a ea && mE T N false sc b eb
    | _ => false
  | t, sc, .idx a b, pe => (!t || plainT pe) && match pe with
    | .Call (.Attribute ea x ap) [eb] [] p => decide (x = "index") && plainB ea && plainX eb && (ap.endLine == p.line) && mE T N false sc a ea && mE T N false sc b eb
    | _ => false
  | t, sc, .idxR a b, pe => (!t || plainT pe) && match pe with
    | .Call (.Attribute ea x ap) [eb] [] p => decide (x = "index") && plainB ea && plainX eb && (ap.endLine == p.line) && mE T N false sc a ea && mE T N false sc b eb
    | _ => false
  | t, sc, .cntL a b, pe => (!t || plainT pe) && match pe with
    | .Call (.Attribute ea x ap) [eb] [] p => decide (x = "count") && plainB ea && plainX eb && (ap.endLine == p.line) && mE T N false sc a ea && mE T N false sc b eb
    | _ => false
  | t, sc, .addM a b, pe => (!t || plainT pe) && match pe with
    | .BinOp ea op eb _ => decide (op = .Add) && mE T N false sc a ea && mE T N false sc b eb
    | _ => false
  | t, sc, .sst m a, pe => (!t || plainT pe) && match pe with
    | .Call (.Name x _) [.Call (.Name y _) [ea] [] _] [] _ => decide (x = "sorted") && decide (y = "set") && bltB T sc x && bltB T sc y && plainX ea && mE T N false sc a ea
    | _ => false
  | t, sc, .rpr a, pe => (!t || plainT pe) && match pe with
    | .Call (.Name x _) [ea] [] _ => decide (x = "repr") && T.rp && bltB T sc x && plainX ea && mE T N false sc a ea
    | _ => false
  | t, sc, .isE a y cs, pe => (!t || plainT pe) && match pe with
    | .Call (.Name x _) [ea, .Name z _] [] _ => decide (x = "isinstance") && decide (z = y) && bltB T sc x && plainX ea && mE T N false sc a ea && (match T.gl z with
      | some (.exc c') => glB sc z && cs.all (fun e => T.xr e.1 && decide (T.xs e.1 c' = some e.2))
      | some .blt => bltB T sc z && decide (z = "ValueError") && cs.all (fun e => T.xr e.1 && e.2)
      | _ => false)
    | _ => false
  | t, sc, .lcK m tg a hc c e, pe => (!t || plainT pe) && match pe with
    | .ListComp elt [⟨etg, ei, ifs, 0⟩] scope p => plainX ei && blkC N sc scope (ownOf N tg) && mE T N false sc a ei && mTg N scope tg etg && (match ifs with
      | [] => !hc
      | [ec] => hc && mE T N true scope c ec
      | _ => false) && mE T N false scope e elt
    | _ => false
  | t, sc, .calK f inv es, pe => (!t || plainT pe) && match pe with
    | .Call (.Name x _) [] kws _ => glB sc x && (match T.gl x with
      | some (.fn f' ar) => decide (f' = f) && kws.all (·.arg.isSome) && decide (T.kw f (kws.filterMap (·.arg)) = some inv) && decide (es.len = kws.length)
      | _ => false) && mEs T N sc es (kws.map (·.value))
    | _ => false
  | t, sc, .dsg kvs e d, pe => (!t || plainT pe) && match pe with
    | .Call (.Attribute (.Dict ks vs _) x ap) [eb, .Constant (.str d') _ _] [] p => decide (x = "get") && decide (d' = d) && keyEs ks vs kvs && nodS kvs && decide (kvs ≠ []) && decide (kvs.length ≤ 15) && (ap.endLine == p.line) && plainX eb && mE T N false sc e eb
    | _ => false
  | t, sc, .dclr o, pe => (!t || plainT pe) && match pe with
    | .Call (.Attribute eo x ap) [] [] p => decide (x = "clear") && plainB eo && (ap.endLine == p.line) && mE T N false sc o eo
    | _ => false
  | t, sc, .dcT a, pe => (!t || plainT pe) && match pe with
    | .Call (.Name x _) [ea] [] _ => decide (x = "dict") && bltB T sc x && plainX ea && mE T N false sc a ea
    | _ => false
  | t, sc, .mkE c e, pe => (!t || plainT pe) && match pe with
    | .Call (.Name x _) [ea] [] _ => glB sc x && plainX ea && (match T.gl x with
      | some (.exc c') => decide (c' = c)
      | _ => false) && mE T N false sc e ea
    | _ => false
noncomputable def mEs (T : Gtab) (N : List Str) : Scope → Exs → List Expr → Bool
  | _, .nil, ees => ees.isEmpty
  | sc, .cons e es, ees => match ees with
    | ee :: ees => plainX ee && mE T N false sc e ee && mEs T N sc es ees
    | [] => false
noncomputable def mO (T : Gtab) (N : List Str) : Scope → Opt → Option Expr → Bool
  | _, .none, eo => eo.isNone
  | sc, .some e, eo => match eo with
    | some ee => mE T N false sc e ee
    | none => false
noncomputable def mI (T : Gtab) (N : List Str) : Scope → Iter → Expr → Expr → Bool
  | sc, .ex a, _, pe => mE T N false sc a pe
  | sc, .rng1 a, _, pe => match pe with
    | .Call (.Name x _) [ea] [] _ => decide (x = "range") && bltB T sc x && plainX ea && mE T N false sc a ea
    | _ => false
  | sc, .rng2 a b, _, pe => match pe with
    | .Call (.Name x _) [ea, eb] [] _ => decide (x = "range") && bltB T sc x && plainX ea && plainX eb && mE T N false sc a ea && mE T N false sc b eb
    | _ => false
  | sc, .rng3 a b c, _, pe => match pe with
    | .Call (.Name x _) [ea, eb, ec] [] _ => decide (x = "range") && bltB T sc x && plainX ea && plainX eb && plainX ec && mE T N false sc a ea && mE T N false sc b eb && mE T N false sc c ec
    | _ => false
  | sc, .enu a, etg, pe => isTupE etg && match pe with
    | .Call (.Name x _) [ea] [] _ => decide (x = "enumerate") && bltB T sc x && plainX ea && mE T N false sc a ea
    | _ => false
  | sc, .zip a b, etg, pe => isTupE etg && match pe with
    | .Call (.Name x _) [ea, eb] [] _ => decide (x = "zip") && bltB T sc x && plainX ea && plainX eb && mE T N false sc a ea && mE T N false sc b eb
    | _ => false
  | _, .items _, _, _ => false
  | _, .keys _, _, _ => false
  | sc, .gks y kvs, _, pe => match pe with
    | .Name x _ => decide (x = y) && glB sc x && (match T.gl x with
      | some (.dct kvs') => kvEq kvs' kvs
      | _ => false)
    | _ => false
  | sc, .enuT a, etg, pe => isTupE etg && match pe with
    | .Call (.Name x _) [ea] [] _ => decide (x = "enumerate") && bltB T sc x && plainX ea && mE T N false sc a ea
    | _ => false
  | sc, .zipS a b, etg, pe => isTupE etg && match pe with
    | .Call (.Name x _) [ea, eb] [] _ => decide (x = "zip") && bltB T sc x && plainX ea && plainX eb && mE T N false sc a ea && mE T N false sc b eb
    | _ => false
end
/-! ### statements -/
/-- name = e -/
noncomputable def mAsg (sc : Scope) (x : Str) (p : Pos) : Expr → Bool
  | .ListComp _ _ scope q => (match sc.names.lookup x with
    | some .cell => true
    | some .local => (p.line == q.line) && !(scope.names.any fun (n, k) => n == x && (k == .local || k == .cell))
    | _ => false)
  | e => plainX e
noncomputable def notFrz : Ex → Bool
  | .frz _ => false
  | _ => true
noncomputable def notTup : Expr → Bool
  | .Tuple _ _ _ => false
  | _ => true
mutual
noncomputable def mS (T : Gtab) (N : List Str) (sc : Scope) : Sm → Stmt → Bool
  | .exp e, ps => match ps with
    | .Expr ea _ => plainX ea && notLc ea && mE T N false sc e ea
    | _ => false
  | .asg i e, ps => match ps with
    | .Assign [.Name x p] ea _ => decide (N[i]? = some x) && locB sc x && mAsg sc x p ea && (notLc ea || notFrz e) && mE T N false sc e ea
    | _ => false
  | .asgT is e, ps => match ps with
    | .Assign [.Tuple es k p] ea _ => mNs N sc is es && plainX ea && notLc ea && (notTup ea || decide (4 ≤ es.length)) && mE T N false sc e ea
    | _ => false
  | .asgL is e, ps => match ps with
    | .Assign [.Tuple es k p] ea _ => mNs N sc is es && plainX ea && notLc ea && (notTup ea || decide (4 ≤ es.length)) && mE T N false sc e ea
    | _ => false
  | .asgI o i e, ps => match ps with
    | .Assign [.Subscript eo ei p] ea _ => plainX ei && mE T N false sc o eo && mE T N false sc i ei && mE T N false sc e ea
    | _ => false
  | .asgF c o f e, ps => match ps with
    | .Assign [.Attribute eo x p] ea _ => decide (x = f) && T.fok c f && mE T N false sc o eo && mE T N false sc e ea
    | _ => false
  | .par i j a b, ps => match ps with
    | .Assign [.Tuple [.Name x px, .Name y py] _ _] (.Tuple [ea, eb] _ _) _ => decide (N[i]? = some x) && decide (N[j]? = some y) && decide (i ≠ j) && decide (sc.names.lookup x = some .local) && decide (sc.names.lookup y = some .local) && (py.line == px.line) && decide (x ≠ y)
      && plainX ea && plainX eb && !(foldedForSure 8 ea && foldedForSure 8 eb) && !(constantsAlone 8 ea && constantsAlone 8 eb) && mE T N false sc a ea && mE T N false sc b eb
    | _ => false
  | .asgTI t o i e, ps => match ps with
    | .Assign [.Tuple [.Name x _, .Subscript eo ei _] _ _] ea _ => decide (N[t]? = some x) && locB sc x && plainX ei && plainX ea && notLc ea && notTup ea && mE T N false sc o eo && mE T N false sc i ei && mE T N false sc e ea
    | _ => false
  | .ret e, ps => match ps with
    | .Return (some ea) _ => mE T N false sc e ea
    | _ => false
  | .retN, ps => match ps with
    | .Return none _ => true
    | _ => false
  | .ifs t a b, ps => match ps with
    | .If et pa pb _ => mE T N true sc t et && mSs T N sc a pa && mSs T N sc b pb
    | _ => false
  | .whl t b, ps => match ps with
    | .While et pb [] _ => mE T N true sc t et && mSs T N sc b pb
    | _ => false
  | .forr tg it b, ps => match ps with
    | .For et ei pb [] _ => plainX ei && mTg N sc tg et && mI T N sc it et ei && mSs T N sc b pb
    | _ => false
  | .forK tg a b, ps => match ps with
    | .For et ei pb [] _ => plainX ei && mTg N sc tg et && mE T N false sc a ei && mSs T N sc b pb
    | _ => false
  | .brk, ps => match ps with
    | .Break _ => true
    | _ => false
  | .cnt, ps => match ps with
    | .Continue _ => true
    | _ => false
  | .pas, ps => match ps with
    | .Pass _ => true
    | _ => false
  | .rai c, ps => match ps with
    | .Raise (some (.Call (.Name x _) [.Constant (.str _) _ _] [] _)) none _ => glB sc x && (match T.gl x with
      | some (.exc c') => decide (c' = c)
      | _ => false)
    | _ => false
  | .tryA k e x yes no b, ps => match ps with
    | .Try pb [.ExceptHandler (some (.Name y _)) nm [.Assign [.Name z _] ea _] _] [] [] _ => decide (y = x) && glB sc y && (match T.gl y with
      | some (.exc c') => yes.all (fun c => decide (T.xs c c' = some true)) && no.all (fun c => decide (T.xs c c' = some false))
      | _ => false) && decide (N[k]? = some z) && locB sc z && mSs T N sc b pb && (match e, nm with
      | some i, some n => decide (N[i]? = some n) && decide (sc.names.lookup n = some .local) && decide (i ≠ k) && nmOk n && (match ea with
        | .Name n' _ => decide (n' = n)
        | _ => false)
      | none, none => (match ea with
        | .Constant (.bool true) _ _ => true
        | _ => false)
      | _, _ => false)
    | _ => false
  | .tryC k i t f es x yes no, ps => match ps with
    | .Try [.Assign [.Name z _] (.Call (.Name g _) ees [] _) _] [.ExceptHandler (some (.Name y _)) (some n) [.Assign [.Name c _] (.Name n' _) _] _] [] [] _ => decide (y = x) && glB sc y && (match T.gl y with
      | some (.exc c') => yes.all (fun c => decide (T.xs c c' = some true)) && no.all (fun c => decide (T.xs c c' = some false))
      | _ => false) && decide (N[k]? = some c) && locB sc c && decide (N[t]? = some z) && locB sc z && decide (N[i]? = some n) && decide (sc.names.lookup n = some .local) && decide (i ≠ k) && nmOk n && decide (n' = n) && glB sc g && (match T.gl g with
      | some (.fn f' ar) => decide (f' = f) && decide (es.len = ar)
      | _ => false) && !ees.isEmpty && mEs T N sc es ees
    | _ => false
  | .fzv _, _ => false
noncomputable def mSs (T : Gtab) (N : List Str) (sc : Scope) : Sms → List Stmt → Bool
  | .nil, ps => ps.isEmpty
  | .cons s ss, ps => match s with
    | .fzv _ => mSs T N sc ss ps
    | _ => match ps with
      | p :: ps => mS T N sc s p && mSs T N sc ss ps
      | [] => false
end
end T

set_option maxRecDepth 100000
set_option maxHeartbeats 4000000
/-! T: the term that is what the text says, tells what the text does -/
namespace T
open PySem L2
/-- a def's body, or a block in it -/
structure Cok (T : Gtab) (F : Fx) (C : Call) (k : Nat) (N : List Str) (sc : Scope) (X : Cx) (Ew : XK) : Prop where
  hK : X.K = F.K
  calm : X.calm = true
  hN : X.N = N
  nd : N.Nodup
  look : ∀ x j, sc.names.lookup x = some j → X.env.scope.names.lookup x = some j ∨ (j = .free ∧ X.env.scope.names.lookup x = some .cell)
  kind : X.env.scope.kind = .function
  fn : ∀ x, sc.names.lookup x = some .cell → X.fn x = true
  room : Room (k + 1) X.A
  own : PassesOwn (model X.prog X.w) X.A X.env X.xe
  tk : Takes X (fun cls d _ H => Ew cls d H)
  g : GOk T F C k X.prog X.w X.mg X.base
  gd : T.rp = true → X.A.guards = some []
section
variable {T : Gtab} {F : Fx} {C : Call} {k : Nat} {N : List Str} {sc : Scope} {X : Cx} {Ew : XK} {x : Str}
theorem Cok.hu (Z : Cok T F C k N sc X Ew) : X.A.units + 66 < cLine := by have := Z.room.un; omega
theorem Cok.vis (Z : Cok T F C k N sc X Ew) (h : visB sc x = true) : Vis X.env.scope x := by
  unfold visB at h
  split at h <;> rename_i q
  · rcases Z.look _ _ q with r | ⟨r, _⟩
    · exact .inl r
    · cases r
  · rcases Z.look _ _ q with r | ⟨r, _⟩
    · exact .inr (.inl r)
    · cases r
  · rcases Z.look _ _ q with r | ⟨_, r⟩
    · exact .inr (.inr r)
    · exact .inr (.inl r)
  · cases h
theorem Cok.loc (Z : Cok T F C k N sc X Ew) (h : locB sc x = true) : Loc X.env.scope x ∧ (X.fn x = true ∨ X.env.scope.names.lookup x = some .local) := by
  unfold locB at h
  split at h <;> rename_i q
  · rcases Z.look _ _ q with r | ⟨r, _⟩
    · exact ⟨.inl r, .inr r⟩
    · cases r
  · rcases Z.look _ _ q with r | ⟨r, _⟩
    · exact ⟨.inr r, .inl (Z.fn _ q)⟩
    · cases r
  · cases h
theorem nm_ok (h : nmOk x = true) : (x == ("__debug__" : Str)) = false ∧ (x == ("__classdict__" : Str)) = false ∧ x ≠ "__name__" := by
  unfold nmOk at h
  rw [Bool.and_eq_true, Bool.and_eq_true] at h
  exact ⟨by simpa using h.1.1, by simpa using h.1.2, of_decide_eq_true h.2⟩
theorem Cok.gl (Z : Cok T F C k N sc X Ew) (h : glB sc x = true) : Gl X x ∧ (x == ("__debug__" : Str)) = false ∧ x ≠ "__name__" := by
  unfold glB at h
  rw [Bool.and_eq_true] at h
  obtain ⟨h1, h2⟩ := h
  obtain ⟨n1, n2, n3⟩ := nm_ok h1
  split at h2 <;> rename_i q
  · rcases Z.look _ _ q with r | ⟨r, _⟩
    · exact ⟨r, n1, n3⟩
    · cases r
  · cases h2
theorem Cok.blt (Z : Cok T F C k N sc X Ew) (h : bltB T sc x = true) : Gl X x ∧ (x == ("__debug__" : Str)) = false ∧ x ≠ "__name__" ∧ X.mg x = none := by
  unfold bltB at h
  rw [Bool.and_eq_true] at h
  obtain ⟨h1, h2⟩ := h
  obtain ⟨a, b, c⟩ := Z.gl h1
  split at h2 <;> rename_i q
  · exact ⟨a, b, c, Z.g.blt _ q⟩
  · cases h2
theorem Cok.passes (Z : Cok T F C k N sc X Ew) : Passes (CX X.prog X.w) X Ew := passes_call Z.tk fun _ _ _ _ h => h

/-! ### a block's scope -/
theorem lookup_relabel {env : PySem.Env} {x : Str} {j : NameKind} : ∀ {names : List (Str × NameKind)}, names.lookup x = some j →
    let l := (names.map fun (n, k) => if (k == NameKind.free && env.scope.kind == .function && env.kindOf n == some .cell) then (n, NameKind.cell) else (n, k)).lookup x
    l = some j ∨ (j = .free ∧ l = some .cell)
  | [], h => by simp at h
  | (n, q) :: r, h => by
    intro l
    have e : l = List.lookup x ((if (q == NameKind.free && env.scope.kind == .function && env.kindOf n == some .cell) = true then (n, NameKind.cell) else (n, q)) :: (r.map fun (n, k) => if (k == NameKind.free && env.scope.kind == .function && env.kindOf n == some .cell) then (n, NameKind.cell) else (n, k))) := rfl
    cases hx : x == n with
    | true =>
      simp only [List.lookup_cons, hx] at h
      have hq : q = j := Option.some.inj h
      subst hq
      by_cases hc : (q == NameKind.free && env.scope.kind == .function && env.kindOf n == some .cell) = true
      · rw [if_pos hc] at e
        simp only [List.lookup_cons, hx] at e
        simp only [Bool.and_eq_true, beq_iff_eq] at hc
        exact .inr ⟨hc.1.1, e⟩
      · rw [if_neg hc] at e
        simp only [List.lookup_cons, hx] at e
        exact .inl e
    | false =>
      simp only [List.lookup_cons, hx] at h
      have ih := lookup_relabel (env := env) h
      by_cases hc : (q == NameKind.free && env.scope.kind == .function && env.kindOf n == some .cell) = true
      · rw [if_pos hc] at e
        simp only [List.lookup_cons, hx] at e
        rw [e]; exact ih
      · rw [if_neg hc] at e
        simp only [List.lookup_cons, hx] at e
        rw [e]; exact ih
theorem Cok.blk (Z : Cok T F C k N sc X Ew) {scope : Scope} {own : List (Str × Nat)} (h : blkC N sc scope own = true) (s : Shared) (H : Hp) (Cc : Addr) (cl : List (Str × Addr)) (fp : List Addr) :
    Cok T F C k N scope (X.blk s H scope (compEnvC scope cl Cc X.env) fp) E0 where
  hK := Z.hK
  calm := Z.calm
  hN := Z.hN
  nd := Z.nd
  look := fun x j e => lookup_relabel e
  kind := (blkOk_by h).kind
  fn := fun x e => by show (scope.names.lookup x == some .cell) = true; rw [e]; rfl
  room := Z.room
  own := PassesOwn.never
  tk := takes0
  g := Z.g
  gd := Z.gd
theorem Cok.blkOk (Z : Cok T F C k N sc X Ew) {scope : Scope} {own : List (Str × Nat)} (h : blkC N sc scope own = true) : BlkOk X.N X.env.scope scope own := by
  have b := blkOk_by h
  rw [Z.hN]
  refine ⟨b.kind, b.uniq, b.ix, fun y hy e => ?_, b.own⟩
  rcases b.free y hy e with q | q
  · rcases Z.look _ _ q with r | ⟨r, _⟩
    · exact .inl r
    · cases r
  · rcases Z.look _ _ q with r | ⟨_, r⟩
    · exact .inr r
    · exact .inl r

/-! ### targets -/
theorem mNs_ok (Z : Cok T F C k N sc X Ew) : ∀ {is : List Nat} {es : List Expr}, mNs N sc is es = true → is.length = es.length ∧ ∀ (j i : Nat), is[j]? = some i → ∃ x p, es[j]? = some (.Name x p) ∧ X.N[i]? = some x ∧ Loc X.env.scope x ∧ (X.fn x = true ∨ X.env.scope.names.lookup x = some .local)
  | [], [], _ => ⟨rfl, fun j i h => by simp at h⟩
  | [], e :: es, h => by cases h
  | i :: is, [], h => by cases h
  | i :: is, e :: es, h => by
    cases e <;> try (cases h; done)
    rename_i x p
    rw [mNs, Bool.and_eq_true, Bool.and_eq_true] at h
    obtain ⟨⟨h1, h2⟩, h3⟩ := h
    obtain ⟨a, b⟩ := mNs_ok Z h3
    refine ⟨congrArg (· + 1) a, fun j i' hj => ?_⟩
    cases j with
    | zero =>
      simp at hj
      subst hj
      exact ⟨x, p, rfl, by rw [Z.hN]; exact of_decide_eq_true h1, Z.loc h2⟩
    | succ j =>
      obtain ⟨y, q, r⟩ := b j i' (by simpa using hj)
      exact ⟨y, q, by simpa using r⟩
theorem mTg_ok (Z : Cok T F C k N sc X Ew) {tg : Tg} {e : Expr} (h : mTg N sc tg e = true) : PG X e (gT F.K tg) := by
  cases tg with
  | nm i =>
    cases e <;> try (cases h; done)
    rename_i x p
    rw [mTg, Bool.and_eq_true] at h
    obtain ⟨a, b⟩ := Z.loc h.2
    exact pg_name (by rw [Z.hN]; exact Z.nd) (by rw [Z.hN]; exact of_decide_eq_true h.1) a b
  | tup is =>
    cases e <;> try (cases h; done)
    obtain ⟨a, b⟩ := mNs_ok Z (show mNs N sc is _ = true from h)
    exact pg_names Z.hK Z.calm (by rw [Z.hN]; exact Z.nd) b a

/-! ### tables of builtins -/
end
end T

set_option maxRecDepth 100000
set_option maxHeartbeats 8000000
/-! T: expressions that fit -/
namespace T
open PySem L2
section
variable {T : Gtab} {F : Fx} {C : Call} {k : Nat} {N : List Str}
/-- a term as a value and as a test -/
structure Fits (T : Gtab) (F : Fx) (C : Call) (N : List Str) (sc : Scope) (X : Cx) (Ew : XK) (e : Ex) (pe : Expr) : Prop where
  val : mE T N false sc e pe = true → PE X pe (tE F Ew (evE C e))
  tst : mE T N true sc e pe = true → PT X pe (tT F Ew (evT C e)) ∧ ∀ op es p, pe = .BoolOp op es p → PW X pe (tT F Ew (evT C e))
variable {sc : Scope} {X : Cx} {Ew : XK} {e : Ex} {pe : Expr}
/-- a value's truth is the test -/
theorem Fits.of {p : Bool} (Z : Cok T F C k N sc X Ew) (hp : ∀ t, mE T N t sc e pe = ((!t || plainT pe) && p)) (he : ∀ ρ st, evT C e ρ st = evTV C e ρ st) (h : p = true → PE X pe (tE F Ew (evE C e))) : Fits T F C N sc X Ew e pe where
  val := fun q => by rw [hp, Bool.and_eq_true] at q; exact h q.2
  tst := fun q => by
    rw [hp, Bool.and_eq_true] at q
    have q1 : plainT pe = true := q.1
    have e' : evT C e = evTV C e := funext fun ρ => funext fun st => he ρ st
    rw [e']
    exact ⟨t_val Z.hK (h q.2) (true_plain q1), fun op es p z => by subst z; cases q1⟩
theorem args_plain : ∀ {es : Exs} {ees : List Expr}, mEs T N sc es ees = true → ees.all plainX = true ∧ es.len = ees.length
  | .nil, ees, h => by
    rw [mEs] at h
    cases ees with
    | nil => exact ⟨rfl, rfl⟩
    | cons _ _ => cases h
  | .cons e es, ees, h => by
    cases ees with
    | nil => rw [mEs] at h; cases h
    | cons ee ees =>
      rw [mEs] at h
      simp only [Bool.and_eq_true] at h
      obtain ⟨a, b⟩ := args_plain h.2
      exact ⟨by rw [List.all_cons, h.1.1, a]; rfl, congrArg (· + 1) b⟩

/-! ### builtins -/
theorem bfn_fits (Z : Cok T F C k N sc X Ew) {b : Bfn} {y x : Str} {p pos : Pos} {es : Exs} {ees : List Expr} (hb : bfnN b = some y) (hx : x = y) (hl : bltB T sc x = true) (ha : PA X ees (tA F Ew (evEs C es))) (hp : ees.all plainX = true) (he : ees.isEmpty = false) :
    PE X (.Call (.Name x p) ees [] pos) (tE F Ew (evE C (.bfn b es))) := by
  obtain ⟨g, d, n, m⟩ := Z.blt hl
  have K := Z.hK
  subst hx
  cases b <;> simp only [bfnN, Option.some.injEq, reduceCtorEq] at hb <;> subst hb
  · exact s_bfnB (fun R r h => by rw [K]; exact len_ok R r h) call_lenT g m PySem.boot_len n d ha hp he
  · exact s_bfnB (fun R r h => by rw [K]; exact all_ok R r h) (cr_all Z.calm) g m PyProof.Rows.boot_all n d ha hp he
  · exact s_bfnB (fun R r h => by rw [K]; exact any_ok R r h) (cr_any Z.calm) g m PyProof.Rows.boot_any n d ha hp he
  · exact s_bfnB (fun R r h => by rw [K]; exact sum_ok R r h) (cr_sum Z.calm) g m PyProof.Rows.boot_sum n d ha hp he
  · exact s_bfnB (fun R r h => by rw [K]; exact max1_ok R r h) (cr_max Z.calm) g m PyProof.Rows.boot_max n d ha hp he
  · exact s_bfnB (fun R r h => by rw [K]; exact min1_ok R r h) (cr_min Z.calm) g m PyProof.Rows.boot_min n d ha hp he
  · exact s_bfnB (fun R r h => max2_ok R r h) (call_max2 Z.calm) g m PyProof.Rows.boot_max n d ha hp he
  · exact s_bfnB (fun R r h => min2_ok R r h) (call_min2 Z.calm) g m PyProof.Rows.boot_min n d ha hp he
  · exact s_bfnT (fun R r h => int1_ok R r h) call_int1 g m PyProof.Rows.boot_int n d ha hp he
  · exact s_bfnT (fun R r h => bool1_ok R r h) call_bool1 g m PyProof.Rows.boot_bool n d ha hp he
  · exact s_bfnB (fun R r h => abs_ok R r h) call_abs g m PyProof.Rows.boot_abs n d ha hp he
  · exact s_bfnT (fun R r h => strI_ok R r h) call_str_int g m PyProof.Rows.boot_str n d ha hp he
  · exact s_bfnT (fun R r h => by rw [K]; exact lstM_ok R r h) call_list_of g m PyProof.Rows.boot_list n d ha hp he
  · exact s_bfnT (fun R r h => by rw [K]; exact lstP_ok R r h) call_list_of g m PyProof.Rows.boot_list n d ha hp he
  · exact s_bfnT (fun R r h => by rw [K]; exact tupl_ok R r h) call_tuple_of g m PyProof.Rows.boot_tuple n d ha hp he
  · exact s_bfnB (fun R r h => by rw [K]; exact srtP_ok R r h) (cr_sortedTT Z.calm) g m rfl n d ha hp he
  · exact s_bfnB (fun R r h => by rw [K]; exact srtD_ok R r h) (cr_sortedD Z.hu) g m rfl n d ha hp he
  · exact s_bfnB (fun R r h => by rw [K]; exact minD_ok R r h) (cr_minD Z.calm Z.hu) g m PyProof.Rows.boot_min n d ha hp he
  · exact s_bfnT (fun R r h => lstT_ok R r h) (call_list_dT Z.calm) g m PyProof.Rows.boot_list n d ha hp he
theorem isi_fits (Z : Cok T F C k N sc X Ew) {b : Bfn} {z x y : Str} {p q pos : Pos} {a : Ex} {ea : Expr} (hb : isiN b = some z) (hx : x = "isinstance") (hy : y = z) (hl : bltB T sc x = true) (hl2 : bltB T sc y = true) (ha : PE X ea (tE F Ew (evE C a))) (hp : plainX ea = true) :
    PE X (.Call (.Name x p) [ea, .Name y q] [] pos) (tE F Ew (evE C (.bfn b (.cons a .nil)))) := by
  obtain ⟨g, d, n, m⟩ := Z.blt hl
  obtain ⟨g2, d2, n2, m2⟩ := Z.blt hl2
  subst hx hy
  cases b <;> simp only [isiN, Option.some.injEq, reduceCtorEq] at hb <;> subst hb
  · exact s_isi (T := "int") rfl Z.hK g m PyProof.Rows.boot_isinstance n d g2 m2 PyProof.Rows.boot_int n2 d2 ha hp
  · exact s_isi (T := "bool") rfl Z.hK g m PyProof.Rows.boot_isinstance n d g2 m2 PyProof.Rows.boot_bool n2 d2 ha hp
  · exact s_isi (T := "str") rfl Z.hK g m PyProof.Rows.boot_isinstance n d g2 m2 PyProof.Rows.boot_str n2 d2 ha hp
  · exact s_isi (T := "tuple") rfl Z.hK g m PyProof.Rows.boot_isinstance n d g2 m2 PyProof.Rows.boot_tuple n2 d2 ha hp
  · exact s_isi (T := "list") rfl Z.hK g m PyProof.Rows.boot_isinstance n d g2 m2 PyProof.Rows.boot_list n2 d2 ha hp
theorem bmt_fits (Z : Cok T F C k N sc X Ew) {b : Bmt} {y x : Str} {p pos : Pos} {o : Ex} {eo : Expr} {es : Exs} {ees : List Expr} (hb : bmtN b = some y) (hx : x = y) (ho : PE X eo (tE F Ew (evE C o))) (ha : PA X ees (tA F Ew (evEs C es))) (h1 : plainB eo = true) (hp : ees.all plainX = true) (he : ees.isEmpty = false)
    (h3 : ees.length < 29) (h4 : (p.endLine == pos.line) = true) : PE X (.Call (.Attribute eo x p) ees [] pos) (tE F Ew (evE C (.bmt b o es))) := by
  subst hx
  cases b <;> simp only [bmtN, Option.some.injEq, reduceCtorEq] at hb <;> subst hb
  · exact s_bmt append_ok Z.hK PySem.F.plainAttrs_list PySem.F.slot_list_append PySem.F.type_list_append mt_append ho ha h1 hp he h3 h4
  · exact s_bmt extend_ok Z.hK PySem.F.plainAttrs_list PySem.F.slot_list_extend PySem.F.type_list_extend mt_extX ho ha h1 hp he h3 h4
  · exact s_bmt popAt_ok Z.hK PySem.F.plainAttrs_list PySem.F.slot_list_pop PySem.F.type_list_pop mt_popAt ho ha h1 hp he h3 h4
  · exact s_bmt insert_ok Z.hK PySem.F.plainAttrs_list PySem.F.slot_list_insert PySem.F.type_list_insert mt_insert ho ha h1 hp he h3 h4
theorem bmt_fits0 (Z : Cok T F C k N sc X Ew) {b : Bmt} {y x : Str} {p pos : Pos} {o : Ex} {eo : Expr} (hb : bmtN0 b = some y) (hx : x = y) (ho : PE X eo (tE F Ew (evE C o))) (h1 : plainB eo = true) (h4 : (p.endLine == pos.line) = true) : PE X (.Call (.Attribute eo x p) [] [] pos) (tE F Ew (evE C (.bmt b o .nil))) := by
  subst hx
  cases b <;> simp only [bmtN0, Option.some.injEq, reduceCtorEq] at hb <;> subst hb
  · exact s_bmt0 pop0_ok Z.hK PySem.F.plainAttrs_list PySem.F.slot_list_pop PySem.F.type_list_pop mt_pop ho h1 h4
  · exact s_bmt0 clear_ok Z.hK PySem.F.plainAttrs_list PySem.F.slot_list_clear PySem.F.type_list_clear mt_clear ho h1 h4
theorem con_fits {c : Const} {d : D} {j : Nat} {pos : Pos} (h : conD c d = true) : PE X (.Constant c j pos) (tE F Ew (evE C (.con d))) := by
  cases c <;> cases d <;> simp only [conD, decide_eq_true_eq, Bool.false_eq_true] at h
  · exact s_val pe_non fun _ _ => .non
  · subst h; exact s_val pe_bl fun _ _ => .bl _
  · subst h; exact s_val pe_int fun _ _ => .int _
  · subst h; exact s_val pe_str fun _ _ => .str _
end
end T

set_option maxRecDepth 100000
set_option maxHeartbeats 16000000
/-! T: every expression that fits -/
namespace T
open PySem L2
section
variable {T : Gtab} {F : Fx} {C : Call} {k : Nat} {N : List Str}
noncomputable def isTv : Ex → Bool
  | .and _ _ => false
  | .or _ _ => false
  | .not _ => false
  | _ => true
theorem evT_val {e : Ex} (h : isTv e = true) (ρ : Nv) (st : Sto) : evT C e ρ st = evTV C e ρ st := by
  cases e <;> first
    | (cases h; done)
    | (rw [evT.eq_def]; rfl)
theorem lc_fits {sc : Scope} {X : Cx} {Ew : XK} (Z : Cok T F C k N sc X Ew) {scope : Scope} {tg : Tg} {etg ei elt : Expr} {ifs : List Expr} {p : Pos} {it : Iter} {hc m : Bool} {c e : Ex}
    (h1 : plainX ei = true) (h2 : blkC N sc scope (ownOf N tg) = true) (hi : PI X etg ei (tI F Ew (evI C it))) (h4 : mTg N scope tg etg = true)
    (ht : ∀ X', Cok T F C k N scope X' E0 → PTs X' ifs (ttOf F C hc c)) (he : ∀ X', Cok T F C k N scope X' E0 → PE X' elt (tE F E0 (evE C e))) :
    PE X (.ListComp elt [⟨etg, ei, ifs, 0⟩] scope p) (tE F Ew (evE C (.lc m tg it hc c e))) := by
  have q := pe_lc (pos := p) Z.calm (by rw [Z.hN]; exact Z.nd) hi (Z.blkOk h2) (fun s H Cc cl fp => mTg_ok (Z.blk h2 s H Cc cl fp) h4) (fun s H Cc cl fp => ht _ (Z.blk h2 s H Cc cl fp)) (fun s H Cc cl fp => he _ (Z.blk h2 s H Cc cl fp)) (fold_plain h1)
  rw [ownOf_slots] at q
  exact q.imp fun σ H Q h => lc_read F.K rfl h
theorem lcK_fits {sc : Scope} {X : Cx} {Ew : XK} (Z : Cok T F C k N sc X Ew) {scope : Scope} {tg : Tg} {etg ei elt : Expr} {ifs : List Expr} {p : Pos} {a : Ex} {hc m : Bool} {c e : Ex}
    (h1 : plainX ei = true) (h2 : blkC N sc scope (ownOf N tg) = true) (hi : PE X ei (tE F Ew (evE C a))) (h4 : mTg N scope tg etg = true)
    (ht : ∀ X', Cok T F C k N scope X' E0 → PTs X' ifs (ttOf F C hc c)) (he : ∀ X', Cok T F C k N scope X' E0 → PE X' elt (tE F E0 (evE C e))) :
    PE X (.ListComp elt [⟨etg, ei, ifs, 0⟩] scope p) (tE F Ew (evE C (.lcK m tg a hc c e))) := by
  have q := pe_lock (pe_lc (pos := p) Z.calm (by rw [Z.hN]; exact Z.nd) (pi_keys hi) (Z.blkOk h2) (fun s H Cc cl fp => mTg_ok (Z.blk h2 s H Cc cl fp) h4) (fun s H Cc cl fp => ht _ (Z.blk h2 s H Cc cl fp)) (fun s H Cc cl fp => he _ (Z.blk h2 s H Cc cl fp)) (fold_plain h1))
  rw [ownOf_slots] at q
  exact q.imp fun σ H Q h => lcK_read h
theorem ind_and {sc : Scope} {X : Cx} {Ew : XK} {a b : Ex} {pe : Expr} (ha : ∀ pe, Fits T F C N sc X Ew a pe) (hb : ∀ pe, Fits T F C N sc X Ew b pe) : Fits T F C N sc X Ew (.and a b) pe where
  val := fun h => by
    rw [mE.eq_def] at h
    simp only at h
    split at h
    · rename_i ea rest p
      rw [Bool.and_eq_true] at h
      obtain ⟨h1, h2⟩ := h
      split at h2
      · cases h2
      · exact s_and1 (p := p) ((ha _).val h1) (pe_one ((hb _).val h2))
      · exact s_and1 (p := p) ((ha _).val h1) ((hb _).val h2)
    · cases h
  tst := fun h => by
    rw [mE.eq_def] at h
    simp only at h
    split at h
    · rename_i ea rest p
      rw [Bool.and_eq_true] at h
      obtain ⟨h1, h2⟩ := h
      have w : PW X (.BoolOp .And (ea :: rest) p) (tT F Ew (evT C (.and a b))) := by
        split at h2
        · cases h2
        · exact t_and1 ((ha _).tst h1).1 (pw_and1 ((hb _).tst h2).1)
        · exact t_and1 ((ha _).tst h1).1 (((hb _).tst h2).2 _ _ _ rfl)
      exact ⟨w.pt, fun op es p z => by cases z; exact w⟩
    · cases h
theorem ind_or {sc : Scope} {X : Cx} {Ew : XK} {a b : Ex} {pe : Expr} (ha : ∀ pe, Fits T F C N sc X Ew a pe) (hb : ∀ pe, Fits T F C N sc X Ew b pe) : Fits T F C N sc X Ew (.or a b) pe where
  val := fun h => by
    rw [mE.eq_def] at h
    simp only at h
    split at h
    · rename_i ea rest p
      rw [Bool.and_eq_true] at h
      obtain ⟨h1, h2⟩ := h
      split at h2
      · cases h2
      · exact s_or1 (p := p) ((ha _).val h1) (pe_one ((hb _).val h2))
      · exact s_or1 (p := p) ((ha _).val h1) ((hb _).val h2)
    · cases h
  tst := fun h => by
    rw [mE.eq_def] at h
    simp only at h
    split at h
    · rename_i ea rest p
      rw [Bool.and_eq_true] at h
      obtain ⟨h1, h2⟩ := h
      have w : PW X (.BoolOp .Or (ea :: rest) p) (tT F Ew (evT C (.or a b))) := by
        split at h2
        · cases h2
        · exact t_or1 ((ha _).tst h1).1 (pw_or1 ((hb _).tst h2).1)
        · exact t_or1 ((ha _).tst h1).1 (((hb _).tst h2).2 _ _ _ rfl)
      exact ⟨w.pt, fun op es p z => by cases z; exact w⟩
    · cases h
theorem ind_not {sc : Scope} {X : Cx} {Ew : XK} {a : Ex} {pe : Expr} (ha : ∀ pe, Fits T F C N sc X Ew a pe) : Fits T F C N sc X Ew (.not a) pe where
  val := fun h => by
    rw [mE.eq_def] at h
    simp only at h
    split at h
    · exact s_not ((ha _).val h)
    · cases h
  tst := fun h => by
    rw [mE.eq_def] at h
    simp only at h
    split at h
    · exact ⟨t_not ((ha _).tst h).1, fun op es p z => by cases z⟩
    · cases h
theorem ind_cmp {sc : Scope} {X : Cx} {Ew : XK} {o : Cop} {a b : Ex} {pe : Expr} (Z : Cok T F C k N sc X Ew) (ha : ∀ pe, Fits T F C N sc X Ew a pe) (hb : ∀ pe, Fits T F C N sc X Ew b pe) : Fits T F C N sc X Ew (.cmp o a b) pe where
  val := fun h => by
    rw [mE.eq_def] at h
    simp only at h
    split at h
    · simp only [Bool.and_eq_true, decide_eq_true_eq] at h
      obtain ⟨⟨⟨rfl, h2⟩, h3⟩, h4⟩ := h
      exact s_cmp o Z.hK Z.hu (mark_plain _ h2) ((ha _).val h3) ((hb _).val h4)
    · cases h
  tst := fun h => by
    rw [mE.eq_def] at h
    simp only at h
    split at h
    · simp only [Bool.and_eq_true, decide_eq_true_eq] at h
      obtain ⟨⟨⟨rfl, h2⟩, h3⟩, h4⟩ := h
      have e' : evT C (.cmp o a b) = evTV C (.cmp o a b) := funext fun _ => funext fun _ => evT_val rfl _ _
      rw [e']
      exact ⟨t_cmp o Z.hK Z.hu (mark_plain _ h2) ((ha _).val h3) ((hb _).val h4), fun op es p z => by cases z⟩
    · cases h
theorem ind_chn {sc : Scope} {X : Cx} {Ew : XK} {o o' : Cop} {a b c : Ex} {pe : Expr} (Z : Cok T F C k N sc X Ew) (ha : ∀ pe, Fits T F C N sc X Ew a pe) (hb : ∀ pe, Fits T F C N sc X Ew b pe) (hc : ∀ pe, Fits T F C N sc X Ew c pe) : Fits T F C N sc X Ew (.chn o o' a b c) pe where
  val := fun h => by
    rw [mE.eq_def] at h
    simp only at h
    split at h
    · simp only [Bool.and_eq_true, decide_eq_true_eq] at h
      obtain ⟨⟨⟨⟨⟨rfl, rfl⟩, h2⟩, h3⟩, h4⟩, h5⟩ := h
      exact s_chn o o' Z.hK Z.hu (last_plain _ _ h2) ((ha _).val h3) ((hb _).val h4) ((hc _).val h5)
    · cases h
  tst := fun h => by
    rw [mE.eq_def] at h
    simp only at h
    split at h
    · simp only [Bool.and_eq_true, decide_eq_true_eq] at h
      obtain ⟨⟨⟨⟨⟨rfl, rfl⟩, h2⟩, h3⟩, h4⟩, h5⟩ := h
      have e' : evT C (.chn o o' a b c) = evTV C (.chn o o' a b c) := funext fun _ => funext fun _ => evT_val rfl _ _
      rw [e']
      exact ⟨t_chn o o' Z.hK Z.hu (last_plain _ _ h2) ((ha _).val h3) ((hb _).val h4) ((hc _).val h5), fun op es p z => by cases z⟩
    · cases h
noncomputable def FitA (T : Gtab) (F : Fx) (C : Call) (N : List Str) (sc : Scope) (X : Cx) (Ew : XK) (es : Exs) (ees : List Expr) : Prop := mEs T N sc es ees = true → PA X ees (tA F Ew (evEs C es))
noncomputable def FitO (T : Gtab) (F : Fx) (C : Call) (N : List Str) (sc : Scope) (X : Cx) (Ew : XK) (o : Opt) (eo : Option Expr) : Prop := mO T N sc o eo = true → PO X eo (tO F Ew (evO C o))
noncomputable def FitI (T : Gtab) (F : Fx) (C : Call) (N : List Str) (sc : Scope) (X : Cx) (Ew : XK) (i : Iter) (tg ei : Expr) : Prop := mI T N sc i tg ei = true → PI X tg ei (tI F Ew (evI C i))
theorem names_some : ∀ {kws : List Keyword}, kws.all (·.arg.isSome) = true → kws.map (·.arg) = (kws.filterMap (·.arg)).map some
  | [], _ => rfl
  | kw :: r, h => by
    rw [List.all_cons, Bool.and_eq_true] at h
    rw [List.map_cons, List.filterMap_cons]
    cases q : kw.arg with
    | none => rw [q] at h; cases h.1
    | some k =>
      show some k :: _ = List.map some (k :: _)
      rw [List.map_cons, names_some h.2]
mutual
theorem fitE : ∀ (e : Ex) {sc : Scope} {X : Cx} {Ew : XK} (pe : Expr), Cok T F C k N sc X Ew → Fits T F C N sc X Ew e pe
  | .and a b, _, _, _, pe, Z => ind_and (fun pe => fitE a pe Z) fun pe => fitE b pe Z
  | .or a b, _, _, _, pe, Z => ind_or (fun pe => fitE a pe Z) fun pe => fitE b pe Z
  | .not a, _, _, _, pe, Z => ind_not fun pe => fitE a pe Z
  | .cmp o a b, _, _, _, pe, Z => ind_cmp Z (fun pe => fitE a pe Z) fun pe => fitE b pe Z
  | .chn o o' a b c, _, _, _, pe, Z => ind_chn Z (fun pe => fitE a pe Z) (fun pe => fitE b pe Z) fun pe => fitE c pe Z
  | .var i, _, _, _, pe, Z => Fits.of Z (fun _ => rfl) (evT_val rfl) fun h => by
    split at h
    · simp only [Bool.and_eq_true, decide_eq_true_eq] at h
      obtain ⟨⟨h1, h2⟩, h3⟩ := h
      obtain ⟨n1, n2, _⟩ := nm_ok h3
      exact s_var (by rw [Z.hN]; exact h1) (Z.vis h2) n1 n2
    · cases h
  | .con d, _, _, _, pe, Z => Fits.of Z (fun _ => rfl) (evT_val rfl) fun h => by
    split at h
    · exact con_fits h
    · cases h
  | .glo y d, _, _, _, pe, Z => Fits.of Z (fun _ => rfl) (evT_val rfl) fun h => by
    split at h
    · simp only [Bool.and_eq_true, decide_eq_true_eq] at h
      obtain ⟨⟨rfl, h2⟩, h3⟩ := h
      obtain ⟨g, n1, _⟩ := Z.gl h2
      split at h3
      · rename_i d' q
        cases dEq_ok _ _ h3
        obtain ⟨v, u, m, r, rr⟩ := Z.g.con _ _ q
        exact s_glo g m r n1 rr
      · cases h3
    · cases h
  | .bin o a b, _, _, _, pe, Z => Fits.of Z (fun _ => rfl) (evT_val rfl) fun h => by
    split at h
    · simp only [Bool.and_eq_true, decide_eq_true_eq] at h
      obtain ⟨⟨rfl, h2⟩, h3⟩ := h
      exact s_bin o Z.hK ((fitE a _ Z).val h2) ((fitE b _ Z).val h3)
    · cases h
  | .neg a, _, _, _, pe, Z => Fits.of Z (fun _ => rfl) (evT_val rfl) fun h => by
    split at h
    · exact s_neg ((fitE a _ Z).val h)
    · cases h
  | .ite c a b, _, _, _, pe, Z => Fits.of Z (fun _ => rfl) (evT_val rfl) fun h => by
    split at h
    · simp only [Bool.and_eq_true] at h
      obtain ⟨⟨h1, h2⟩, h3⟩ := h
      exact s_ite ((fitE c _ Z).tst h1).1 ((fitE a _ Z).val h2) ((fitE b _ Z).val h3)
    · cases h
  | .tup es, _, _, _, pe, Z => Fits.of Z (fun _ => rfl) (evT_val rfl) fun h => by
    split at h
    · exact s_tup (fitA es _ Z h)
    · cases h
  | .tupM es, _, _, _, pe, Z => Fits.of Z (fun _ => rfl) (evT_val rfl) fun h => by
    split at h
    · exact s_tupM (fitA es _ Z h)
    · cases h
  | .lst m es, _, _, _, pe, Z => Fits.of Z (fun _ => rfl) (evT_val rfl) fun h => by
    split at h
    · exact s_lst m (fitA es _ Z h)
    · cases h
  | .dnw t, _, _, _, pe, Z => Fits.of Z (fun _ => rfl) (evT_val rfl) fun h => by
    split at h
    · cases t with
      | true => exact s_dnwT
      | false => exact s_dnwK
    · cases h
  | .ix a b, _, _, _, pe, Z => Fits.of Z (fun _ => rfl) (evT_val rfl) fun h => by
    split at h
    · simp only [Bool.and_eq_true] at h
      obtain ⟨⟨h1, h2⟩, h3⟩ := h
      exact s_ix Z.hK Z.hu (ix_plain h1) ((fitE a _ Z).val h2) ((fitE b _ Z).val h3)
    · cases h
  | .sli a lo hi, _, _, _, pe, Z => Fits.of Z (fun _ => rfl) (evT_val rfl) fun h => by
    split at h
    · simp only [Bool.and_eq_true] at h
      obtain ⟨⟨h1, h2⟩, h3⟩ := h
      exact s_sli Z.hK ((fitE a _ Z).val h1) (fitO lo _ Z h2) (fitO hi _ Z h3)
    · cases h
  | .sliM a lo hi, _, _, _, pe, Z => Fits.of Z (fun _ => rfl) (evT_val rfl) fun h => by
    split at h
    · simp only [Bool.and_eq_true] at h
      obtain ⟨⟨h1, h2⟩, h3⟩ := h
      exact s_sliM Z.hK ((fitE a _ Z).val h1) (fitO lo _ Z h2) (fitO hi _ Z h3)
    · cases h
  | .fld c a f, _, _, _, pe, Z => Fits.of Z (fun _ => rfl) (evT_val rfl) fun h => by
    split at h
    · simp only [Bool.and_eq_true, decide_eq_true_eq] at h
      obtain ⟨⟨⟨rfl, h2⟩, h3⟩, h4⟩ := h
      obtain ⟨g1, g2⟩ := Z.g.fok _ _ h2
      exact s_fld c Z.hK (base_plain h3 _ _) g1 g2 ((fitE a _ Z).val h4)
    · cases h
  | .cal m f es, _, _, _, pe, Z => Fits.of Z (fun _ => rfl) (evT_val rfl) fun h => by
    split at h
    · rename_i x p ees pos
      simp only [Bool.and_eq_true] at h
      obtain ⟨⟨h1, h2⟩, h3⟩ := h
      obtain ⟨g, n1, _⟩ := Z.gl h1
      split at h2
      · rename_i f' ar q
        simp only [Bool.and_eq_true, decide_eq_true_eq] at h2
        obtain ⟨rfl, h2⟩ := h2
        obtain ⟨fa, m1, kp, ⟨fd, ps, l, ok, bd⟩⟩ := Z.g.fn _ _ _ q
        obtain ⟨pl, el⟩ := args_plain h3
        have A : FnAt F C _ k f' fa fd ps := ⟨by rw [Z.hK]; exact ok, by rw [Z.hK]; exact bd⟩
        cases ees with
        | nil =>
          cases es with
          | nil => exact s_cal0 m A (by rw [Z.hK]; exact kp) (Z.room.mono (Nat.le_succ _)) Z.passes g m1 n1 (by rw [l]; exact h2.symm)
          | cons _ _ => cases el
        | cons ee ees => exact s_cal m A (by rw [Z.hK]; exact kp) (Z.room.mono (Nat.le_succ _)) Z.passes g m1 n1 (by rw [l]; exact h2) (fitA es _ Z h3) pl rfl
      · rename_i f' ar q
        simp only [Bool.and_eq_true, decide_eq_true_eq, Bool.not_eq_true'] at h2
        obtain ⟨⟨⟨rfl, h2⟩, rp⟩, ne⟩ := h2
        obtain ⟨fa, m1, kp, ⟨fd, ps, l, ok, bd⟩⟩ := Z.g.fng rp _ _ _ q
        obtain ⟨pl, el⟩ := args_plain h3
        exact s_calG m (by rw [Z.hK]; exact ok) (by rw [Z.hK]; exact bd) (by rw [Z.hK]; exact kp) (Z.room.mono (Nat.le_succ _)) (Z.gd rp) Z.passes g m1 n1 (by rw [l]; exact h2) (fitA es _ Z h3) pl ne
      · cases h2
    · cases h
  | .calB f es, _, _, _, pe, Z => Fits.of Z (fun _ => rfl) (evT_val rfl) fun h => by
    split at h
    · rename_i x p ees pos
      simp only [Bool.and_eq_true] at h
      obtain ⟨⟨⟨h1, h2⟩, h4⟩, h3⟩ := h
      obtain ⟨g, n1, _⟩ := Z.gl h1
      split at h2
      · rename_i f' ar q
        simp only [Bool.and_eq_true, decide_eq_true_eq] at h2
        obtain ⟨rfl, h2⟩ := h2
        obtain ⟨fa, m1, kp, ⟨fd, ps, l, ok, bd⟩⟩ := Z.g.fn _ _ _ q
        obtain ⟨pl, el⟩ := args_plain h3
        have A : FnAt F C _ k f' fa fd ps := ⟨by rw [Z.hK]; exact ok, by rw [Z.hK]; exact bd⟩
        exact s_calB A (by rw [Z.hK]; exact kp) (Z.room.mono (Nat.le_succ _)) Z.passes g m1 n1 (by rw [l]; exact h2) (fitA es _ Z h3) pl (by simpa using h4)
      · cases h2
    · cases h
  | .mth c m f o es, _, _, _, pe, Z => Fits.of Z (fun _ => rfl) (evT_val rfl) fun h => by
    split at h
    · rename_i eo x ap ees pos
      simp only [Bool.and_eq_true, decide_eq_true_eq] at h
      obtain ⟨⟨⟨⟨⟨⟨rfl, h2⟩, h3⟩, h4⟩, h5⟩, h6⟩, h7⟩ := h
      split at h2
      · rename_i f' ar q
        simp only [Bool.and_eq_true, decide_eq_true_eq] at h2
        obtain ⟨rfl, h2⟩ := h2
        obtain ⟨hc, fa, hm, ⟨fd, ps, l, ok, bd⟩⟩ := Z.g.met _ _ _ _ q
        obtain ⟨pl, el⟩ := args_plain h7
        have A : FnAt F C _ k f' fa fd ps := ⟨by rw [Z.hK]; exact ok, by rw [Z.hK]; exact bd⟩
        cases ees with
        | nil =>
          cases es with
          | nil => exact s_mth0 c A Z.hK (Z.room.mono (Nat.le_succ _)) Z.passes hc hm (by rw [l, ← h2]; rfl) ((fitE o _ Z).val h6) h3 h5
          | cons _ _ => cases el
        | cons ee ees => exact s_mth c A Z.hK (Z.room.mono (Nat.le_succ _)) Z.passes hc hm (by rw [l]; exact h2) ((fitE o _ Z).val h6) (fitA es _ Z h7) pl rfl h3 h4 h5
      · cases h2
    · cases h
  | .mak c f es, _, _, _, pe, Z => Fits.of Z (fun _ => rfl) (evT_val rfl) fun h => by
    split at h
    · rename_i x p ees pos
      simp only [Bool.and_eq_true] at h
      obtain ⟨⟨⟨h1, h2⟩, h3⟩, h4⟩ := h
      obtain ⟨g, n1, _⟩ := Z.gl h1
      split at h2
      · rename_i c' q
        have h2 := of_decide_eq_true h2
        subst h2
        split at h3
        · rename_i f' ar q2
          simp only [Bool.and_eq_true, decide_eq_true_eq] at h3
          obtain ⟨rfl, h3⟩ := h3
          obtain ⟨fa, M, ⟨fd, ps, l, ok, bd⟩⟩ := Z.g.ini _ _ _ q2
          obtain ⟨pl, el⟩ := args_plain h4
          have A : FnAt F C _ k f' fa fd ps := ⟨by rw [Z.hK]; exact ok, by rw [Z.hK]; exact bd⟩
          cases ees with
          | nil =>
            cases es with
            | nil => exact s_mak0 c' A (by rw [Z.hK]; exact M) Z.room Z.passes g (Z.g.cls _ _ q) n1 (by rw [l, ← h3]; rfl)
            | cons _ _ => cases el
          | cons ee ees => exact s_mak c' A (by rw [Z.hK]; exact M) Z.room Z.passes g (Z.g.cls _ _ q) n1 (by rw [l]; exact h3) (fitA es _ Z h4) pl rfl
        · cases h3
      · cases h2
    · cases h
  | .bfn b es, _, _, _, pe, Z => Fits.of Z (fun _ => rfl) (evT_val rfl) fun h => by
    split at h
    · rename_i x p ees pos
      rw [Bool.and_eq_true] at h
      obtain ⟨h1, h2⟩ := h
      split at h2
      · rename_i y q
        simp only [Bool.and_eq_true, decide_eq_true_eq, Bool.not_eq_true'] at h2
        obtain ⟨⟨h2, h3⟩, h4⟩ := h2
        exact bfn_fits Z q h2 h1 (fitA es _ Z h4) (args_plain h4).1 h3
      · split at h2
        · rename_i z q
          rw [Bool.and_eq_true, decide_eq_true_eq] at h2
          obtain ⟨h2, h3⟩ := h2
          split at h3
          · rename_i ea y p2
            simp only [Bool.and_eq_true, decide_eq_true_eq] at h3
            obtain ⟨⟨h3, h4⟩, h5⟩ := h3
            cases es with
            | nil => rw [mEs] at h5; cases h5
            | cons a es =>
              rw [mEs] at h5
              simp only [Bool.and_eq_true] at h5
              cases es with
              | nil => exact isi_fits Z q h2 h3 h1 h4 ((fitE a _ Z).val h5.1.2) h5.1.1
              | cons _ _ => have := h5.2; rw [mEs] at this; cases this
          · cases h3
        · cases h2
    · cases h
  | .rgl m t a, _, _, _, pe, Z => Fits.of Z (fun _ => rfl) (evT_val rfl) fun h => by
    split at h
    · simp only [Bool.and_eq_true, decide_eq_true_eq] at h
      obtain ⟨⟨⟨⟨⟨h1, rfl⟩, h3⟩, h4⟩, h5⟩, h6⟩ := h
      obtain ⟨g, _, _, mm⟩ := Z.blt h3
      obtain ⟨g2, _, _, mm2⟩ := Z.blt h4
      cases t with
      | true =>
        have h1 : (decide (_ = ("tuple" : Str)) && m == false) = true := h1
        rw [Bool.and_eq_true, decide_eq_true_eq] at h1
        obtain ⟨rfl, _⟩ := h1
        exact s_rglT m Z.calm rfl rfl g mm g2 mm2 ((fitE a _ Z).val h6) h5
      | false =>
        have h1 := of_decide_eq_true (show decide (_ = ("list" : Str)) = true from h1)
        subst h1
        exact s_rglL m Z.calm rfl rfl g mm g2 mm2 ((fitE a _ Z).val h6) h5
    · cases h
  | .bmt b o es, _, _, _, pe, Z => Fits.of Z (fun _ => rfl) (evT_val rfl) fun h => by
    split at h
    · rename_i eo x ap ees pos
      simp only [Bool.and_eq_true, decide_eq_true_eq] at h
      obtain ⟨⟨⟨⟨⟨h1, h2⟩, h3⟩, h4⟩, h5⟩, h6⟩ := h
      split at h6
      · rename_i y q
        simp only [Bool.and_eq_true, decide_eq_true_eq, Bool.not_eq_true'] at h6
        exact bmt_fits Z q h6.1 ((fitE o _ Z).val h4) (fitA es _ Z h5) h1 (args_plain h5).1 h6.2 h2 h3
      · split at h6
        · rename_i y q
          simp only [Bool.and_eq_true, decide_eq_true_eq] at h6
          cases ees with
          | cons _ _ => cases h6.2
          | nil =>
            cases es with
            | nil => exact bmt_fits0 Z q h6.1 ((fitE o _ Z).val h4) h1 h3
            | cons _ _ => rw [mEs] at h5; cases h5
        · cases h6
    · cases h
  | .lc m tg it hc c e, _, _, _, pe, Z => Fits.of Z (fun _ => rfl) (evT_val rfl) fun h => by
    split at h
    · simp only [Bool.and_eq_true] at h
      obtain ⟨⟨⟨⟨⟨h1, h2⟩, h3⟩, h4⟩, h5⟩, h6⟩ := h
      refine lc_fits Z h1 h2 (fitI it _ _ Z h3) h4 (fun X' Z' => ?_) (fun X' Z' => (fitE e _ Z').val h6)
      split at h5
      · cases hc with
        | true => cases h5
        | false => exact pts_nil
      · rw [Bool.and_eq_true] at h5
        cases hc with
        | true => exact pts_one ((fitE c _ Z').tst h5.2).1
        | false => cases h5.1
      · cases h5
    · cases h
  | .lcK m tg a hc c e, _, _, _, pe, Z => Fits.of Z (fun _ => rfl) (evT_val rfl) fun h => by
    split at h
    · simp only [Bool.and_eq_true] at h
      obtain ⟨⟨⟨⟨⟨h1, h2⟩, h3⟩, h4⟩, h5⟩, h6⟩ := h
      refine lcK_fits Z h1 h2 ((fitE a _ Z).val h3) h4 (fun X' Z' => ?_) (fun X' Z' => (fitE e _ Z').val h6)
      split at h5
      · cases hc with
        | true => cases h5
        | false => exact pts_nil
      · rw [Bool.and_eq_true] at h5
        cases hc with
        | true => exact pts_one ((fitE c _ Z').tst h5.2).1
        | false => cases h5.1
      · cases h5
    · cases h
  | .calK f inv es, _, _, _, pe, Z => Fits.of Z (fun _ => rfl) (evT_val rfl) fun h => by
    split at h
    · rename_i x p kws pos
      simp only [Bool.and_eq_true] at h
      obtain ⟨⟨h1, h2⟩, h3⟩ := h
      obtain ⟨g, n1, _⟩ := Z.gl h1
      split at h2
      · rename_i f' ar q
        simp only [Bool.and_eq_true, decide_eq_true_eq] at h2
        obtain ⟨⟨⟨rfl, h4⟩, h5⟩, h6⟩ := h2
        obtain ⟨fa, m1, kp, ⟨fd, ps, l, ok, bd, B⟩⟩ := Z.g.kw _ _ _ _ _ q h5
        have A : FnAt F C _ k f' fa fd ps := ⟨by rw [Z.hK]; exact ok, by rw [Z.hK]; exact bd⟩
        have hn : kws.map (·.arg) = (kws.filterMap (·.arg)).map some := names_some h4
        have hl : kws.length = (kws.filterMap (·.arg)).length := by have := congrArg List.length hn; rwa [List.length_map, List.length_map] at this
        exact s_calK A (by rw [Z.hK]; exact kp) (Z.room.mono (Nat.le_succ _)) Z.passes g m1 n1 (by rw [h6, hl]) B (fitK es kws Z h3) hn
      · cases h2
    · cases h
  | .dsg kvs e d, _, _, _, pe, Z => Fits.of Z (fun _ => rfl) (evT_val rfl) fun h => by
    split at h
    · simp only [Bool.and_eq_true, decide_eq_true_eq] at h
      obtain ⟨⟨⟨⟨⟨⟨⟨⟨rfl, rfl⟩, h1⟩, h2⟩, h3⟩, h4⟩, h5⟩, h6⟩, h7⟩ := h
      exact s_dsg (by have := Z.hu; omega) h1 h2 h3 h4 h5 h6 ((fitE e _ Z).val h7)
    · cases h
  | .dcT a, _, _, _, pe, Z => Fits.of Z (fun _ => rfl) (evT_val rfl) fun h => by
    split at h
    · simp only [Bool.and_eq_true, decide_eq_true_eq] at h
      obtain ⟨⟨⟨rfl, h3⟩, h4⟩, h5⟩ := h
      obtain ⟨g1, _, _, m1⟩ := Z.blt h3
      exact s_dcT Z.hK Z.calm Z.hu rfl g1 m1 ((fitE a _ Z).val h5) h4
    · cases h
  | .dclr o, _, _, _, pe, Z => Fits.of Z (fun _ => rfl) (evT_val rfl) fun h => by
    split at h
    · simp only [Bool.and_eq_true, decide_eq_true_eq] at h
      obtain ⟨⟨⟨rfl, h1⟩, h2⟩, h3⟩ := h
      exact s_dclr Z.hK ((fitE o _ Z).val h3) h1 h2
    · cases h
  | .mkE c e, _, _, _, pe, Z => Fits.of Z (fun _ => rfl) (evT_val rfl) fun h => by
    split at h
    · simp only [Bool.and_eq_true] at h
      obtain ⟨⟨⟨h1, h2⟩, h3⟩, h4⟩ := h
      obtain ⟨g, n1, _⟩ := Z.gl h1
      split at h3
      · rename_i c' q
        have ec := of_decide_eq_true h3
        subst ec
        obtain ⟨e1, ⟨B, ni, ii, bm, e2, e3⟩, e4, _⟩ := Z.g.exc _ _ q
        exact s_mkE Z.hK e2 e3 e1 e4 g ((fitE e _ Z).val h4) h2 n1
      · cases h3
    · cases h
  | .gdx y kvs e, _, _, _, pe, Z => Fits.of Z (fun _ => rfl) (evT_val rfl) fun h => by
    split at h
    · simp only [Bool.and_eq_true, decide_eq_true_eq] at h
      obtain ⟨⟨⟨⟨rfl, h2⟩, h3⟩, h4⟩, h5⟩ := h
      obtain ⟨g, n1, _⟩ := Z.gl h2
      split at h3
      · rename_i kvs' q
        cases kvEq_ok _ _ h3
        obtain ⟨p, m, r⟩ := Z.g.dct _ _ q
        exact s_gdx Z.hK g m n1 r (ix_plain h4) ((fitE e _ Z).val h5)
      · cases h3
    · cases h
  | .rev m a, _, _, _, pe, Z => Fits.of Z (fun _ => rfl) (evT_val rfl) fun h => by
    split at h
    · simp only [Bool.and_eq_true, decide_eq_true_eq] at h
      obtain ⟨rfl, h2⟩ := h
      exact s_rev m Z.hK ((fitE a _ Z).val h2)
    · cases h
  | .revT a, _, _, _, pe, Z => Fits.of Z (fun _ => rfl) (evT_val rfl) fun h => by
    split at h
    · simp only [Bool.and_eq_true, decide_eq_true_eq] at h
      obtain ⟨rfl, h2⟩ := h
      exact s_revT Z.hK ((fitE a _ Z).val h2)
    · cases h
  | .remI a b, _, _, _, pe, Z => Fits.of Z (fun _ => rfl) (evT_val rfl) fun h => by
    split at h
    · simp only [Bool.and_eq_true, decide_eq_true_eq] at h
      obtain ⟨⟨⟨⟨⟨rfl, h2⟩, h3⟩, h4⟩, h5⟩, h6⟩ := h
      exact s_remI Z.hK Z.calm Z.tk ((fitE a _ Z).val h5) ((fitE b _ Z).val h6) h2 h3 h4
    · cases h
  | .idx a b, _, _, _, pe, Z => Fits.of Z (fun _ => rfl) (evT_val rfl) fun h => by
    split at h
    · simp only [Bool.and_eq_true, decide_eq_true_eq] at h
      obtain ⟨⟨⟨⟨⟨rfl, h2⟩, h3⟩, h4⟩, h5⟩, h6⟩ := h
      exact s_idx Z.hK Z.hu ((fitE a _ Z).val h5) ((fitE b _ Z).val h6) h2 h3 h4
    · cases h
  | .idxR a b, _, _, _, pe, Z => Fits.of Z (fun _ => rfl) (evT_val rfl) fun h => by
    split at h
    · simp only [Bool.and_eq_true, decide_eq_true_eq] at h
      obtain ⟨⟨⟨⟨⟨rfl, h2⟩, h3⟩, h4⟩, h5⟩, h6⟩ := h
      exact s_idxR Z.hK Z.hu ((fitE a _ Z).val h5) ((fitE b _ Z).val h6) h2 h3 h4
    · cases h
  | .cntL a b, _, _, _, pe, Z => Fits.of Z (fun _ => rfl) (evT_val rfl) fun h => by
    split at h
    · simp only [Bool.and_eq_true, decide_eq_true_eq] at h
      obtain ⟨⟨⟨⟨⟨rfl, h2⟩, h3⟩, h4⟩, h5⟩, h6⟩ := h
      exact s_cntL Z.hK Z.hu ((fitE a _ Z).val h5) ((fitE b _ Z).val h6) h2 h3 h4
    · cases h
  | .addM a b, _, _, _, pe, Z => Fits.of Z (fun _ => rfl) (evT_val rfl) fun h => by
    split at h
    · simp only [Bool.and_eq_true, decide_eq_true_eq] at h
      obtain ⟨⟨rfl, h2⟩, h3⟩ := h
      exact s_addM ((fitE a _ Z).val h2) ((fitE b _ Z).val h3)
    · cases h
  | .sst m a, _, _, _, pe, Z => Fits.of Z (fun _ => rfl) (evT_val rfl) fun h => by
    split at h
    · simp only [Bool.and_eq_true, decide_eq_true_eq] at h
      obtain ⟨⟨⟨⟨⟨rfl, rfl⟩, h3⟩, h4⟩, h5⟩, h6⟩ := h
      obtain ⟨g1, _, _, m1⟩ := Z.blt h3
      obtain ⟨g2, _, _, m2⟩ := Z.blt h4
      exact s_sst m Z.hK Z.calm rfl rfl g1 m1 g2 m2 ((fitE a _ Z).val h6) h5
    · cases h
  | .isE a y cs, _, _, _, pe, Z => Fits.of Z (fun _ => rfl) (evT_val rfl) fun h => by
    split at h
    · rename_i x px ea z pz pp
      simp only [Bool.and_eq_true, decide_eq_true_eq] at h
      obtain ⟨⟨⟨⟨⟨h1, rfl⟩, h3⟩, h4⟩, h5⟩, h6⟩ := h
      obtain ⟨g1, d1, n1, m1⟩ := Z.blt h3
      split at h6
      · rename_i cc q
        simp only [Bool.and_eq_true, List.all_eq_true, decide_eq_true_eq] at h6
        obtain ⟨g2, d2, n2⟩ := Z.gl h6.1
        have E := Z.g.exc _ _ q
        refine s_isE Z.hK g1 m1 h1 n1 d1 (pe_glob (v := .ref (F.Cl cc)) g2 E.gl rfl d2) (.own _) (kit_non E.hd E.ty) (fun c b hc => ?_) ((fitE a _ Z).val h5) h4
        have w := h6.2 (c, b) hc
        have r := Z.g.xr c w.1
        exact ⟨r.cl, kit_exc r.self (Z.g.xs _ _ _ w.2) E.hd E.ty⟩
      · simp only [Bool.and_eq_true, List.all_eq_true, decide_eq_true_eq] at h6
        obtain ⟨⟨k1, rfl⟩, k3⟩ := h6
        obtain ⟨g2, d2, n2, m2⟩ := Z.blt k1
        refine s_isE Z.hK g1 m1 h1 n1 d1 (pe_bltn (v := .ty "ValueError") g2 m2 rfl rfl n2 d2) (.ty _) kit_nonV (fun c b hc => ?_) ((fitE a _ Z).val h5) h4
        have w := k3 (c, b) hc
        have r := Z.g.xr c w.1
        refine ⟨r.cl, ?_⟩
        have : b = true := w.2
        rw [this]
        exact kit_val r.val
      · cases h6
    · cases h
  | .rpr a, _, _, _, pe, Z => Fits.of Z (fun _ => rfl) (evT_val rfl) fun h => by
    split at h
    · simp only [Bool.and_eq_true, decide_eq_true_eq] at h
      obtain ⟨⟨⟨⟨rfl, h2⟩, h3⟩, h4⟩, h5⟩ := h
      obtain ⟨g1, _, _, m1⟩ := Z.blt h3
      exact s_rpr Z.hK Z.hu (Z.gd h2) rfl g1 m1 ((fitE a _ Z).val h5) h4
    · cases h
  | .frz a, _, _, _, pe, Z => Fits.of Z (fun _ => rfl) (evT_val rfl) fun h => s_frz ((fitE a _ Z).val h)
theorem fitA : ∀ (es : Exs) {sc : Scope} {X : Cx} {Ew : XK} (ees : List Expr), Cok T F C k N sc X Ew → FitA T F C N sc X Ew es ees
  | .nil, _, _, _, ees, Z => fun h => by
    cases ees with
    | nil => exact s_nil
    | cons _ _ => rw [mEs] at h; cases h
  | .cons e es, _, _, _, ees, Z => fun h => by
    cases ees with
    | nil => rw [mEs] at h; cases h
    | cons ee ees =>
      rw [mEs] at h
      simp only [Bool.and_eq_true] at h
      exact s_cons ((fitE e _ Z).val h.1.2) (fitA es _ Z h.2) (star_plain h.1.1)
theorem fitK : ∀ (es : Exs) {sc : Scope} {X : Cx} {Ew : XK} (kws : List Keyword), Cok T F C k N sc X Ew → mEs T N sc es (kws.map (·.value)) = true → PK X kws (tA F Ew (evEs C es))
  | .nil, _, _, _, kws, Z => fun h => by
    cases kws with
    | nil => exact k_nil
    | cons _ _ => rw [List.map_cons, mEs] at h; cases h
  | .cons e es, _, _, _, kws, Z => fun h => by
    cases kws with
    | nil => rw [List.map_nil, mEs] at h; cases h
    | cons kw kws =>
      obtain ⟨nm, ev, kp⟩ := kw
      rw [List.map_cons, mEs] at h
      simp only [Bool.and_eq_true] at h
      exact k_cons ((fitE e _ Z).val h.1.2) (fitK es kws Z h.2)
theorem fitO : ∀ (o : Opt) {sc : Scope} {X : Cx} {Ew : XK} (eo : Option Expr), Cok T F C k N sc X Ew → FitO T F C N sc X Ew o eo
  | .none, _, _, _, eo, Z => fun h => by
    cases eo with
    | none => exact o_none
    | some _ => rw [mO] at h; cases h
  | .some e, _, _, _, eo, Z => fun h => by
    cases eo with
    | none => rw [mO] at h; cases h
    | some ee =>
      rw [mO] at h
      exact o_some ((fitE e _ Z).val h)
theorem fitI : ∀ (i : Iter) {sc : Scope} {X : Cx} {Ew : XK} (tg ei : Expr), Cok T F C k N sc X Ew → FitI T F C N sc X Ew i tg ei
  | .ex a, _, _, _, tg, ei, Z => fun h => by
    rw [mI] at h
    exact i_ex Z.hK ((fitE a _ Z).val h)
  | .rng1 a, _, _, _, tg, ei, Z => fun h => by
    rw [mI.eq_def] at h
    simp only at h
    split at h
    · simp only [Bool.and_eq_true, decide_eq_true_eq] at h
      obtain ⟨⟨⟨rfl, h2⟩, h3⟩, h4⟩ := h
      obtain ⟨g, _, _, mm⟩ := Z.blt h2
      exact i_rng1 rfl g mm ((fitE a _ Z).val h4) h3
    · cases h
  | .rng2 a b, _, _, _, tg, ei, Z => fun h => by
    rw [mI.eq_def] at h
    simp only at h
    split at h
    · simp only [Bool.and_eq_true, decide_eq_true_eq] at h
      obtain ⟨⟨⟨⟨⟨rfl, h2⟩, h3⟩, h4⟩, h5⟩, h6⟩ := h
      obtain ⟨g, _, _, mm⟩ := Z.blt h2
      exact i_rng2 rfl g mm ((fitE a _ Z).val h5) ((fitE b _ Z).val h6) h3 h4
    · cases h
  | .rng3 a b c, _, _, _, tg, ei, Z => fun h => by
    rw [mI.eq_def] at h
    simp only at h
    split at h
    · simp only [Bool.and_eq_true, decide_eq_true_eq] at h
      obtain ⟨⟨⟨⟨⟨⟨⟨rfl, h2⟩, h3⟩, h4⟩, h5⟩, h6⟩, h7⟩, h8⟩ := h
      obtain ⟨g, _, _, mm⟩ := Z.blt h2
      exact i_rng3 rfl g mm ((fitE a _ Z).val h6) ((fitE b _ Z).val h7) ((fitE c _ Z).val h8) h3 h4 h5
    · cases h
  | .enu a, _, _, _, tg, ei, Z => fun h => by
    rw [mI.eq_def] at h
    simp only [Bool.and_eq_true] at h
    obtain ⟨h0, h⟩ := h
    cases tg <;> try (cases h0; done)
    split at h
    · simp only [Bool.and_eq_true, decide_eq_true_eq] at h
      obtain ⟨⟨⟨rfl, h2⟩, h3⟩, h4⟩ := h
      obtain ⟨g, _, _, mm⟩ := Z.blt h2
      exact i_enu Z.hK rfl g mm ((fitE a _ Z).val h4) h3
    · cases h
  | .zip a b, _, _, _, tg, ei, Z => fun h => by
    rw [mI.eq_def] at h
    simp only [Bool.and_eq_true] at h
    obtain ⟨h0, h⟩ := h
    cases tg <;> try (cases h0; done)
    split at h
    · simp only [Bool.and_eq_true, decide_eq_true_eq] at h
      obtain ⟨⟨⟨⟨⟨rfl, h2⟩, h3⟩, h4⟩, h5⟩, h6⟩ := h
      obtain ⟨g, _, _, mm⟩ := Z.blt h2
      exact i_zip Z.hK rfl g mm ((fitE a _ Z).val h5) ((fitE b _ Z).val h6) h3 h4
    · cases h
  | .items _, _, _, _, tg, ei, Z => fun h => by rw [mI] at h; cases h
  | .keys _, _, _, _, tg, ei, Z => fun h => by rw [mI] at h; cases h
  | .gks y kvs, _, _, _, tg, ei, Z => fun h => by
    rw [mI.eq_def] at h
    simp only at h
    split at h
    · simp only [Bool.and_eq_true, decide_eq_true_eq] at h
      obtain ⟨⟨rfl, h2⟩, h3⟩ := h
      obtain ⟨g, n1, _⟩ := Z.gl h2
      split at h3
      · rename_i kvs' q
        cases kvEq_ok _ _ h3
        obtain ⟨p, m, r⟩ := Z.g.dct _ _ q
        exact i_gks Z.hK g m n1 r
      · cases h3
    · cases h
  | .enuT a, _, _, _, tg, ei, Z => fun h => by
    rw [mI.eq_def] at h
    simp only [Bool.and_eq_true] at h
    obtain ⟨h0, h⟩ := h
    cases tg <;> try (cases h0; done)
    split at h
    · simp only [Bool.and_eq_true, decide_eq_true_eq] at h
      obtain ⟨⟨⟨rfl, h2⟩, h3⟩, h4⟩ := h
      obtain ⟨g, _, _, mm⟩ := Z.blt h2
      exact i_enuT Z.hK rfl g mm ((fitE a _ Z).val h4) h3
    · cases h
  | .zipS a b, _, _, _, tg, ei, Z => fun h => by
    rw [mI.eq_def] at h
    simp only [Bool.and_eq_true] at h
    obtain ⟨h0, h⟩ := h
    cases tg <;> try (cases h0; done)
    split at h
    · simp only [Bool.and_eq_true, decide_eq_true_eq] at h
      obtain ⟨⟨⟨⟨⟨rfl, h2⟩, h3⟩, h4⟩, h5⟩, h6⟩ := h
      obtain ⟨g, _, _, mm⟩ := Z.blt h2
      exact i_zipS Z.hK rfl g mm ((fitE a _ Z).val h5) ((fitE b _ Z).val h6) h3 h4
    · cases h
end
end
end T

set_option maxRecDepth 100000
set_option maxHeartbeats 16000000
/-! T: every statement that fits -/
namespace T
open PySem L2
section
variable {T : Gtab} {F : Fx} {C : Call} {k : Nat} {N : List Str} {sc : Scope} {X : Cx} {Ew : XK}
theorem sw_cell {elt : Expr} {gs : List Comprehension} {scope : Scope} {pos py : Pos} {y : Str} {l : Nat} {env : PySem.Env} (hy : env.scope.names.lookup y = some .cell) : swapsWith (.ListComp elt gs scope pos) (some (.Name y py)) l env = pure false := by
  have ky : env.kindOf y = some .cell := hy
  unfold swapsWith
  simp only [ky]
  have : (env.blockKind == ScopeKind.function && (some NameKind.cell == some NameKind.local) && py.line == (Expr.ListComp elt gs scope pos).pos.line && !(scope.names.any fun (n, k) => n == y && (k == .local || k == .cell))) = false := by
    have z : (some NameKind.cell == some NameKind.local) = false := by decide
    rw [z, Bool.and_false, Bool.false_and, Bool.false_and]
  rw [this]
theorem no_swap {es : List Expr} {j : Nat} {p : Pos} {e : Expr} {env : PySem.Env} (h : notTup e = true) : swappedStores [.Tuple es j p] e env = pure none := by
  cases e <;> first | rfl | cases h
theorem no_swap' {es : List Expr} {j : Nat} {p : Pos} {e : Expr} {env : PySem.Env} (h : (notTup e || decide (4 ≤ es.length)) = true) : swappedStores [.Tuple es j p] e env = pure none := by
  rw [Bool.or_eq_true, decide_eq_true_eq] at h
  rcases h with h | h
  · exact no_swap h
  · cases e <;> try rfl
    unfold swappedStores
    have z : (!(es.length == 2 || es.length == 3)) = true := by
      rw [Bool.not_eq_true', Bool.or_eq_false_iff]
      exact ⟨beq_eq_false_iff_ne.mpr (by omega), beq_eq_false_iff_ne.mpr (by omega)⟩
    simp only [z, Bool.true_or, if_true]
theorem swap2 {x y : Str} {px py p p2 : Pos} {k k2 : Nat} {ea eb : Expr} {env : PySem.Env} (hb : env.blockKind = .function) (hx : env.kindOf x = some .local) (hy : env.kindOf y = some .local) (hl : (py.line == px.line) = true) (hne : x ≠ y) (ha : plainX ea = true) (hb' : plainX eb = true)
    (hf : (foldedForSure 8 ea && foldedForSure 8 eb) = false) (hc : (constantsAlone 8 ea && constantsAlone 8 eb) = false) : swappedStores [.Tuple [.Name x px, .Name y py] k p] (.Tuple [ea, eb] k2 p2) env = pure (some [x, y]) := by
  unfold swappedStores
  have nx : (x == y) = false := beq_eq_false_iff_ne.mpr hne
  have ny : (y == x) = false := beq_eq_false_iff_ne.mpr fun z => hne z.symm
  have st : ([ea, eb].any fun | .Starred .. => true | _ => false) = false := by
    cases ea <;> first
      | (cases ha; done)
      | (cases eb <;> first | rfl | (cases hb'; done))
  have nm : ([Expr.Name x px, .Name y py].filterMap fun
    | .Name id pos => if env.kindOf id == some .local && pos.line == (([Expr.Name x px, .Name y py].head?.map (·.pos.line)).getD 0) then some id else none
    | _ => none) = [x, y] := by
    have l1 : (([Expr.Name x px, .Name y py].head?.map (·.pos.line)).getD 0) = px.line := rfl
    simp only [l1, List.filterMap_cons, List.filterMap_nil, hx, hy, hl, beq_self_eq_true, Bool.and_self, if_true]
  have ed : [x, y].eraseDups = [x, y] := by
    simp [List.eraseDups_cons, nx, ny]
  have f1 : [ea, eb].all (foldedForSure 8) = false := by simpa using hf
  have f2 : [ea, eb].all (constantsAlone 8) = false := by simpa using hc
  have bk : (env.blockKind != ScopeKind.function) = false := by rw [hb]; rfl
  simp only [bk]
  refine (if_neg (fun h => Bool.noConfusion (show false = true from h))).trans ?_
  refine (if_neg (fun h => Bool.noConfusion (st.symm.trans h))).trans ?_
  generalize hq : List.filterMap _ [Expr.Name x px, .Name y py] = names
  have e : names = [x, y] := hq.symm.trans nm
  subst e
  simp only [ed, f1, f2]
  rfl
theorem asg_fits (Z : Cok T F C k N sc X Ew) {i : Nat} {x : Str} {p pos : Pos} {e : Ex} {ea : Expr} (h1 : N[i]? = some x) (h2 : locB sc x = true) (h3 : mAsg sc x p ea = true) (h5 : (notLc ea || notFrz e) = true) (h4 : mE T N false sc e ea = true) : PS X (.Assign [.Name x p] ea pos) (tS F Ew (evS C (.asg i e))) := by
  obtain ⟨l1, l2⟩ := Z.loc h2
  have he := (fitE e ea Z).val h4
  have hi : X.N[i]? = some x := by rw [Z.hN]; exact h1
  have nd : X.N.Nodup := by rw [Z.hN]; exact Z.nd
  by_cases hlc : notLc ea = true
  · have hp : plainX ea = true := by cases ea <;> first | exact h3 | cases hlc
    exact x_asg nd hi l1 l2 (swap_plain hp hlc _ _) he
  · cases ea <;> try (exact absurd rfl hlc)
    rename_i elt gs scope q
    have h3 : (match sc.names.lookup x with
      | some .cell => true
      | some .local => (p.line == q.line) && !(scope.names.any fun (n, k) => n == x && (k == .local || k == .cell))
      | _ => false) = true := h3
    split at h3
    · rename_i hc
      rcases Z.look _ _ hc with r | ⟨r, _⟩
      · exact x_asg nd hi l1 l2 (sw_cell r) he
      · cases r
    · rename_i hc
      rcases Z.look _ _ hc with r | ⟨r, _⟩
      · simp only [Bool.and_eq_true, Bool.not_eq_true'] at h3
        have hsw : swapsWith (.ListComp elt gs scope q) (some (.Name x p)) pos.line X.env = pure true := sw_true Z.kind r h3.1 h3.2
        rw [mE.eq_def] at h4
        cases e <;> simp only [Bool.and_false, Bool.false_eq_true] at h4
        case frz => cases h5
        case lcK m tg a hcc c e =>
          rw [Bool.and_eq_true] at h4
          have h4 := h4.2
          split at h4
          · rename_i elt etg ei ifs scope q' z
            cases z
            simp only [Bool.and_eq_true] at h4
            obtain ⟨⟨⟨⟨⟨g1, g2⟩, g3⟩, g4⟩, g5⟩, g6⟩ := h4
            have tt : ∀ X', Cok T F C k N scope X' E0 → PTs X' ifs (ttOf F C hcc c) := fun X' Z' => by
              split at g5
              · cases hcc with
                | true => cases g5
                | false => exact pts_nil
              · rw [Bool.and_eq_true] at g5
                cases hcc with
                | true => exact pts_one ((fitE c _ Z').tst g5.2).1
                | false => cases g5.1
              · cases g5
            have w := ps_lock (ps_setLc (spos := pos) Z.calm nd hi r hsw (pi_keys ((fitE a _ Z).val g3)) (Z.blkOk g2) (fun s H Cc cl fp => mTg_ok (Z.blk g2 s H Cc cl fp) g4) (fun s H Cc cl fp => tt _ (Z.blk g2 s H Cc cl fp)) (fun s H Cc cl fp => (fitE e _ (Z.blk g2 s H Cc cl fp)).val g6) (fold_plain g1))
            rw [ownOf_slots] at w
            exact w.imp fun D σ H h => asg_lcK h
          · cases h4
        case lc m tg it hcc c e =>
          rw [Bool.and_eq_true] at h4
          have h4 := h4.2
          split at h4
          · rename_i elt etg ei ifs scope q' z
            cases z
            simp only [Bool.and_eq_true] at h4
            obtain ⟨⟨⟨⟨⟨g1, g2⟩, g3⟩, g4⟩, g5⟩, g6⟩ := h4
            have tt : ∀ X', Cok T F C k N scope X' E0 → PTs X' ifs (ttOf F C hcc c) := fun X' Z' => by
              split at g5
              · cases hcc with
                | true => cases g5
                | false => exact pts_nil
              · rw [Bool.and_eq_true] at g5
                cases hcc with
                | true => exact pts_one ((fitE c _ Z').tst g5.2).1
                | false => cases g5.1
              · cases g5
            have w := ps_setLc (spos := pos) Z.calm nd hi r hsw (fitI it _ _ Z g3) (Z.blkOk g2) (fun s H Cc cl fp => mTg_ok (Z.blk g2 s H Cc cl fp) g4) (fun s H Cc cl fp => tt _ (Z.blk g2 s H Cc cl fp)) (fun s H Cc cl fp => (fitE e _ (Z.blk g2 s H Cc cl fp)).val g6) (fold_plain g1)
            rw [ownOf_slots] at w
            exact w.imp fun D σ H h => asg_lc F.K rfl h
          · cases h4
      · cases r
    · cases h3
theorem rai_fits (Z : Cok T F C k N sc X Ew) {c : Nat} {x m : Str} {j : Nat} {p p2 p3 pos : Pos} (h1 : glB sc x = true) (h2 : T.gl x = some (.exc c)) : PS X (.Raise (some (.Call (.Name x p) [.Constant (.str m) j p2] [] p3)) none pos) (tS F Ew (evS C (.rai c))) := by
  obtain ⟨g, n1, _⟩ := Z.gl h1
  obtain ⟨e1, ⟨B, ni, ii, bm, e2, e3⟩, e4, e5, e6, _⟩ := Z.g.exc _ _ h2
  exact x_rai c Z.calm Z.tk (pmk_own e2 (by rw [Z.hK]; exact e3) e1 (by rw [Z.hK]; exact e4) (raises_own (by rw [Z.hK]; exact e5) (by rw [Z.hK]; exact e6)) g n1)
/-- the frame of a def, not of a block in it -/
noncomputable def TopS (X : Cx) : Prop := X.stack = X.env :: X.outer ∧ X.env.frame = some X.env.locals ∧ X.ex = []
mutual
theorem fitS {X : Cx} {Ew : XK} (Z : Cok T F C k N sc X Ew) (S : TopS X) : ∀ (s : Sm) (ps : Stmt), mS T N sc s ps = true → PS X ps (tS F Ew (evS C s))
  | .exp e, ps, h => by
    rw [mS.eq_def] at h
    simp only at h
    split at h
    · simp only [Bool.and_eq_true] at h
      exact x_exp h.1.1 h.1.2 ((fitE e _ Z).val h.2)
    · cases h
  | .asg i e, ps, h => by
    rw [mS.eq_def] at h
    simp only at h
    split at h
    · simp only [Bool.and_eq_true, decide_eq_true_eq] at h
      obtain ⟨⟨⟨⟨h1, h2⟩, h3⟩, h5⟩, h4⟩ := h
      exact asg_fits Z h1 h2 h3 h5 h4
    · cases h
  | .asgT is e, ps, h => by
    rw [mS.eq_def] at h
    simp only at h
    split at h
    · simp only [Bool.and_eq_true] at h
      obtain ⟨⟨⟨⟨h1, h2⟩, h3⟩, h4⟩, h5⟩ := h
      exact x_asgT (mTg_ok Z (show mTg N sc (.tup is) _ = true from h1)) h2 h3 (no_swap' h4) ((fitE e _ Z).val h5)
    · cases h
  | .asgL is e, ps, h => by
    rw [mS.eq_def] at h
    simp only at h
    split at h
    · simp only [Bool.and_eq_true] at h
      obtain ⟨⟨⟨⟨h1, h2⟩, h3⟩, h4⟩, h5⟩ := h
      obtain ⟨a, b⟩ := mNs_ok Z h1
      exact x_asgL (pg_namesL Z.hK Z.calm (by rw [Z.hN]; exact Z.nd) b a) h2 h3 (no_swap' h4) ((fitE e _ Z).val h5)
    · cases h
  | .asgI o i e, ps, h => by
    rw [mS.eq_def] at h
    simp only at h
    split at h
    · simp only [Bool.and_eq_true] at h
      obtain ⟨⟨⟨h1, h2⟩, h3⟩, h4⟩ := h
      exact x_asgI Z.hu h1 ((fitE e _ Z).val h4) ((fitE o _ Z).val h2) ((fitE i _ Z).val h3)
    · cases h
  | .asgF c o f e, ps, h => by
    rw [mS.eq_def] at h
    simp only at h
    split at h
    · simp only [Bool.and_eq_true, decide_eq_true_eq] at h
      obtain ⟨⟨⟨rfl, h2⟩, h3⟩, h4⟩ := h
      obtain ⟨g1, g2⟩ := Z.g.fok _ _ h2
      exact x_asgF c Z.hK g1 g2 ((fitE e _ Z).val h4) ((fitE o _ Z).val h3)
    · cases h
  | .par i j a b, ps, h => by
    rw [mS.eq_def] at h
    simp only at h
    split at h
    · simp only [Bool.and_eq_true, decide_eq_true_eq, Bool.not_eq_true'] at h
      obtain ⟨⟨⟨⟨⟨⟨⟨⟨⟨⟨⟨⟨h1, h2⟩, h3⟩, h4⟩, h5⟩, h6⟩, h7⟩, h8⟩, h9⟩, h10⟩, h11⟩, h12⟩, h13⟩ := h
      have lo : ∀ {x : Str}, sc.names.lookup x = some .local → X.env.scope.names.lookup x = some .local := fun h => by
        rcases Z.look _ _ h with r | ⟨r, _⟩
        · exact r
        · cases r
      have bk : X.env.blockKind = .function := by
        unfold PySem.Env.blockKind
        rw [Z.kind]
        rfl
      exact x_par Z.calm (by rw [Z.hN]; exact Z.nd) (by rw [Z.hN]; exact h1) (by rw [Z.hN]; exact h2) h3 (lo h4) (lo h5) (swap2 bk (lo h4) (lo h5) h6 h7 h8 h9 h10 h11) h8 h9 ((fitE a _ Z).val h12) ((fitE b _ Z).val h13)
    · cases h
  | .asgTI t o i e, ps, h => by
    rw [mS.eq_def] at h
    simp only at h
    split at h
    · simp only [Bool.and_eq_true, decide_eq_true_eq] at h
      obtain ⟨⟨⟨⟨⟨⟨⟨⟨h1, h2⟩, h3⟩, h4⟩, h5⟩, h6⟩, h7⟩, h8⟩, h9⟩ := h
      obtain ⟨l1, l2⟩ := Z.loc h2
      exact x_asgTI Z.hu Z.hK Z.calm (by rw [Z.hN]; exact Z.nd) (by rw [Z.hN]; exact h1) l1 l2 h3 (no_swap h6) h4 h5 ((fitE e _ Z).val h9) ((fitE o _ Z).val h7) ((fitE i _ Z).val h8)
    · cases h
  | .ret e, ps, h => by
    rw [mS.eq_def] at h
    simp only at h
    split at h
    · exact x_ret ((fitE e _ Z).val h)
    · cases h
  | .retN, ps, h => by
    rw [mS.eq_def] at h
    simp only at h
    split at h
    · exact x_retN
    · cases h
  | .ifs t a b, ps, h => by
    rw [mS.eq_def] at h
    simp only at h
    split at h
    · simp only [Bool.and_eq_true] at h
      exact x_ifs ((fitE t _ Z).tst h.1.1).1 (fitSs Z S a _ h.1.2) (fitSs Z S b _ h.2)
    · cases h
  | .whl t b, ps, h => by
    rw [mS.eq_def] at h
    simp only at h
    split at h
    · simp only [Bool.and_eq_true] at h
      exact x_whl Z.own ((fitE t _ Z).tst h.1).1 (fitSs Z S b _ h.2)
    · cases h
  | .forr tg it b, ps, h => by
    rw [mS.eq_def] at h
    simp only at h
    split at h
    · simp only [Bool.and_eq_true] at h
      obtain ⟨⟨⟨h1, h2⟩, h3⟩, h4⟩ := h
      exact x_for Z.calm Z.own h1 (fitI it _ _ Z h3) (mTg_ok Z h2) (fitSs Z S b _ h4)
    · cases h
  | .forK tg a b, ps, h => by
    rw [mS.eq_def] at h
    simp only at h
    split at h
    · simp only [Bool.and_eq_true] at h
      obtain ⟨⟨⟨h1, h2⟩, h3⟩, h4⟩ := h
      exact x_forK Z.hK Z.calm Z.own h1 ((fitE a _ Z).val h3) (mTg_ok Z h2) (fitSs Z S b _ h4)
    · cases h
  | .brk, ps, h => by
    rw [mS.eq_def] at h
    simp only at h
    split at h
    · exact x_brk
    · cases h
  | .cnt, ps, h => by
    rw [mS.eq_def] at h
    simp only at h
    split at h
    · exact x_cnt
    · cases h
  | .pas, ps, h => by
    rw [mS.eq_def] at h
    simp only at h
    split at h
    · exact x_pas
    · cases h
  | .rai c, ps, h => by
    rw [mS.eq_def] at h
    simp only at h
    split at h
    · rw [Bool.and_eq_true] at h
      obtain ⟨h1, h2⟩ := h
      split at h2
      · rename_i c' q
        have e := of_decide_eq_true h2
        subst e
        exact rai_fits Z h1 q
      · cases h2
    · cases h
  | .tryA k e x yes no b, ps, h => by
    rw [mS.eq_def] at h
    simp only at h
    split at h
    · rename_i pb y py nm z pz ea pa ph pp
      simp only [Bool.and_eq_true, decide_eq_true_eq] at h
      obtain ⟨⟨⟨⟨⟨⟨hy, h1⟩, h2⟩, h3⟩, h4⟩, h5⟩, h6⟩ := h
      subst hy
      split at h2
      · rename_i cc q
        simp only [Bool.and_eq_true, List.all_eq_true, decide_eq_true_eq] at h2
        obtain ⟨g1, n1, n2⟩ := Z.gl h1
        have E := Z.g.exc _ _ q
        have nm1 : Names X y (.ref (F.Cl cc)) := ⟨g1, n1, .inl E.gl⟩
        have hy : ∀ c b', T.xs c cc = some b' → PySem.W.exmOne X.K (.ref (F.Cl c)) (.ref (F.Cl cc)) = some b' := fun c b' z => by
          rw [Z.hK]
          exact PySem.W.exm_ref E.sub E.hd E.ty (Z.g.xs _ _ _ z)
        have nd : X.N.Nodup := by rw [Z.hN]; exact Z.nd
        have hk : X.N[k]? = some z := by rw [Z.hN]; exact h3
        have hbody : ∀ (E : XK) (pn : List (Addr × Obj)) (xe : Value → Shared → Prop), (Takes (X.tr pn xe) fun cls d _ H => E cls d H) → PassesOwn (model X.prog X.w) X.A X.env xe → PSs (X.tr pn xe) pb (tS F E (evSs C b)) :=
          fun E pn xe t o => fitSs (X := X.tr pn xe) (Ew := E) ⟨Z.hK, Z.calm, Z.hN, Z.nd, Z.look, Z.kind, Z.fn, Z.room, o, t, Z.g, Z.gd⟩ S b pb h5
        split at h6
        · rename_i i n
          simp only [Bool.and_eq_true, decide_eq_true_eq] at h6
          obtain ⟨⟨⟨⟨k1, k2⟩, k3⟩, k4⟩, k5⟩ := h6
          split at k5
          · rename_i n' pn'
            have e1 := of_decide_eq_true k5
            subst e1
            have hi : X.N[i]? = some n' := by rw [Z.hN]; exact k1
            have hn : X.env.scope.names.lookup n' = some .local := by
              rcases Z.look _ _ k2 with r | ⟨r, _⟩
              · exact r
              · cases r
            obtain ⟨d1, d2, _⟩ := nm_ok k4
            exact x_tryA (nm := some (n', i)) S.1 S.2.1 S.2.2 nd (fun m j e => by cases e; exact ⟨hi, hn⟩) rfl (fun e => k3 (Option.some.inj e)) ⟨z, hk⟩ (.inl ⟨i, rfl, rfl⟩) nm1 Z.tk (fun c hc => hy c true (h2.1 c hc)) (fun c hc => hy c false (h2.2 c hc)) hbody
              fun a pn => suite_as nd hk (Z.loc h4) hi hn d1 d2
          · cases k5
        · split at h6
          · exact x_tryA (nm := none) S.1 S.2.1 S.2.2 nd nofun rfl nofun ⟨z, hk⟩ (.inr ⟨rfl, rfl⟩) nm1 Z.tk (fun c hc => hy c true (h2.1 c hc)) (fun c hc => hy c false (h2.2 c hc)) hbody fun a pn => suite_true nd hk (Z.loc h4)
          · cases h6
        · cases h6
      · cases h2
    · cases h
  | .tryC k0 i t f es x yes no, ps, h => by
    rw [mS.eq_def] at h
    simp only at h
    split at h
    · rename_i z zp g gp ees cp ap y np n c zq n' nq aq po' pp
      simp only [Bool.and_eq_true, decide_eq_true_eq, Bool.not_eq_true'] at h
      obtain ⟨⟨⟨⟨⟨⟨⟨⟨⟨⟨⟨⟨⟨⟨⟨hy, h1⟩, h2⟩, k1⟩, k2⟩, t1⟩, t2⟩, i1⟩, i2⟩, ik⟩, nk⟩, hn⟩, g1⟩, g2⟩, he⟩, h5⟩ := h
      subst hy
      subst hn
      split at h2
      · rename_i cc q
        simp only [Bool.and_eq_true, List.all_eq_true, decide_eq_true_eq] at h2
        obtain ⟨x1, n1, n2⟩ := Z.gl h1
        have E := Z.g.exc _ _ q
        have nm1 : Names X y (.ref (F.Cl cc)) := ⟨x1, n1, .inl E.gl⟩
        have hy : ∀ c b', T.xs c cc = some b' → PySem.W.exmOne X.K (.ref (F.Cl c)) (.ref (F.Cl cc)) = some b' := fun c b' z => by
          rw [Z.hK]
          exact PySem.W.exm_ref E.sub E.hd E.ty (Z.g.xs _ _ _ z)
        have nd : X.N.Nodup := by rw [Z.hN]; exact Z.nd
        obtain ⟨gg, m1, _⟩ := Z.gl g1
        split at g2
        · rename_i f' ar qf
          simp only [Bool.and_eq_true, decide_eq_true_eq] at g2
          obtain ⟨rfl, hl⟩ := g2
          obtain ⟨fa, w1, kp, ⟨fd, ps, l, ok, bd⟩⟩ := Z.g.fn _ _ _ qf
          have A : FnAt F C X k f' fa fd ps := ⟨by rw [Z.hK]; exact ok, by rw [Z.hK]; exact bd⟩
          have hi : X.N[i]? = some n' := by rw [Z.hN]; exact i1
          have hnl : X.env.scope.names.lookup n' = some .local := by
            rcases Z.look _ _ i2 with r | ⟨r, _⟩
            · exact r
            · cases r
          obtain ⟨d1, d2, _⟩ := nm_ok nk
          exact x_tryC A (by rw [Z.hK]; exact kp) (Z.room.mono (Nat.le_succ _)) gg w1 m1 (by rw [hl, l]) (fun pn xe po => fitA (X := X.tr pn xe) (Ew := fun _ _ _ => False) es ees ⟨Z.hK, Z.calm, Z.hN, Z.nd, Z.look, Z.kind, Z.fn, Z.room, po, (fun u s' ⟨_, _, _, _, _, _, _, _, _, _, _, _, _, _, _, _, w⟩ => w.elim), Z.g, Z.gd⟩ h5) (args_plain h5).1 he
            S.1 S.2.1 S.2.2 nd hi hnl hnl (by rw [Z.hN]; exact k1) (Z.loc k2) (by rw [Z.hN]; exact t1) (Z.loc t2) ik d1 d2 nm1 Z.tk (fun c hc => hy c true (h2.1 c hc)) (fun c hc => hy c false (h2.2 c hc))
        · cases g2
      · cases h2
    · cases h
  | .fzv _, ps, h => by rw [mS] at h; cases h
theorem fitSs {X : Cx} {Ew : XK} (Z : Cok T F C k N sc X Ew) (S : TopS X) : ∀ (ss : Sms) (ps : List Stmt), mSs T N sc ss ps = true → PSs X ps (tS F Ew (evSs C ss))
  | .nil, ps, h => by
    rw [mSs] at h
    cases ps with
    | nil => exact x_nil
    | cons _ _ => cases h
  | .cons s ss, ps, h => by
    by_cases q : ∃ i, s = .fzv i
    · obtain ⟨i, rfl⟩ := q
      rw [mSs] at h
      exact x_fzv (fitSs Z S ss ps h)
    · cases ps with
      | nil =>
        rw [mSs.eq_def] at h
        simp only at h
        split at h
        · exact absurd ⟨_, rfl⟩ q
        · cases h
      | cons p ps =>
        rw [mSs.eq_def] at h
        simp only at h
        split at h
        · exact absurd ⟨_, rfl⟩ q
        · rw [Bool.and_eq_true] at h
          exact x_cons (fitS Z S s p h.1) (fitSs Z S ss ps h.2)
end
end
end T

set_option maxRecDepth 100000
set_option maxHeartbeats 4000000
/-! T: the defs of a text, all at once, by the depth of the calls -/
namespace T
open PySem L2
/-- a def: its name, its text, its names' order, its parameters, its term -/
structure Rec where
  x : Str
  qual : Str
  st : Stmt
  N : List Str
  ps : List Str
  d : Def
noncomputable def recOk (T : Gtab) (r : Rec) : Bool :=
  decide ((defScope r.st).kind = .function) && decide ((defScope r.st).isCoroutine = false) && decide ((defScope r.st).isGenerator = false) && decide r.N.Nodup && decide (r.N.take r.ps.length = r.ps) &&
    r.ps.all (fun x => locB (defScope r.st) x) && (defScope r.st).names.all (fun y => decide (y.2 ≠ .free)) && decide (r.d.ar = r.ps.length) && decide (r.d.nn = r.N.length) && mSs T r.N (defScope r.st) r.d.body (defBody r.st)
theorem locB_ok {sc : Scope} {x : Str} (h : locB sc x = true) : sc.names.lookup x = some .local ∨ sc.names.lookup x = some .cell := by
  unfold locB at h
  split at h <;> rename_i q
  · exact .inl q
  · exact .inr q
  · cases h
structure RecIs (T : Gtab) (r : Rec) : Prop where
  sc : FnScope r.N r.ps (defScope r.st)
  ar : r.d.ar = r.ps.length
  nn : r.d.nn = r.N.length
  fit : mSs T r.N (defScope r.st) r.d.body (defBody r.st) = true
theorem recOk_is {T : Gtab} {r : Rec} (h : recOk T r = true) : RecIs T r := by
  unfold recOk at h
  simp only [Bool.and_eq_true, decide_eq_true_eq, List.all_eq_true] at h
  obtain ⟨⟨⟨⟨⟨⟨⟨⟨⟨h1, h2⟩, h3⟩, h4⟩, h5⟩, h6⟩, h7⟩, h8⟩, h9⟩, h10⟩ := h
  exact ⟨⟨h1, h2, h3, h4, h5, fun x hx => locB_ok (h6 x hx), h7⟩, h8, h9, h10⟩
section
variable {T : Gtab} {F : Fx} {P : Program} {w : World} {mg : Str → Option Value} {base : Heap}
theorem start_rel {μ : List Addr} {L : Addr → Prop} {H : Hp} {N : List Str} {vs : List V} {ws : List W} (r : RepWs F μ L H vs ws) (j : Nat) (hj : ws.length + j ≤ N.length) : RelE F μ L H (L2.start N vs) (ws.map some ++ List.replicate j none) := by
  have hl := repws_len r
  refine ⟨?_, fun i w' hi => ?_⟩
  · unfold L2.start
    rw [List.length_append, List.length_append, List.length_map, List.length_map, List.length_replicate, List.length_replicate]
    omega
  · by_cases hlt : i < ws.length
    · rw [List.getElem?_append_left (by simpa using hlt), List.getElem?_map] at hi
      cases q : ws[i]? with
      | none => rw [q] at hi; cases hi
      | some w2 =>
        rw [q] at hi
        cases hi
        obtain ⟨v, e1, e2⟩ := get_ws r q
        refine ⟨v, ?_, e2⟩
        unfold L2.start
        rw [List.getElem?_append_left (by rw [List.length_map]; omega), List.getElem?_map, e1]
        rfl
    · rw [List.getElem?_append_right (by simpa using hlt), List.getElem?_replicate] at hi
      split at hi <;> cases hi
/-- one def, its callees one call less deep -/
theorem fn_step {tb : Nat → Option Def} {n fid : Nat} {r : Rec} {f : Addr} {fd : FuncData} (hb : tb fid = some r.d) (I : RecIs T r) (Fn : Fun F.K r.x r.qual r.st f fd) (G : GOk T F (run tb n) (2 * n) P w mg base) (rp : T.rp = false) :
    FnOk P w F.K mg base (CX P w) (2 * (n + 1)) f fd r.ps (spF F (run tb (n + 1)) fid r.ps.length) := by
  refine Fn.okX (k := 2 * n + 1) I.sc (fun vs H Q E h => ?_) (fun cdv A outer s H vs Q E hr h => ?_)
  · obtain ⟨_, _, _, _, hl, _⟩ := h
    exact hl
  · obtain ⟨μ, L, st, ws, hl, R, rv, h⟩ := h
    have Z : Cok T F (run tb n) (2 * n) r.N (defScope r.st) (cxOf (CX P w) P w F.K mg base r.N r.qual (defScope r.st) f cdv A outer s H E) E :=
      ⟨rfl, rfl, rfl, I.sc.nd, fun x j e => .inl e, I.sc.kind, fun _ _ => rfl, hr, passes_of rfl, takes_of rfl rfl rfl rfl, G, fun h => by rw [rp] at h; cases h⟩
    refine ⟨_, fitSs Z ⟨rfl, rfl, rfl⟩ r.d.body _ I.fit, μ, L, _, st, R, start_rel rv (r.d.nn - r.d.ar) ?_, ?_⟩
    · have h1 := congrArg List.length I.sc.pre
      rw [List.length_take] at h1
      rw [I.nn, I.ar, ← repws_len rv, hl]
      omega
    · rw [run] at h
      simp only [hb, runB] at h
      rw [if_pos (by rw [I.ar, ← hl, repws_len rv])] at h
      refine h.bind.mono fun o μ1 L1 H1 st1 e1 R1 q => ?_
      obtain ⟨fl, ρ1⟩ := o
      cases fl with
      | nx => exact fun σ _ => (Post.here R1 q) _ (.p .non)
      | rt w' => exact fun v rv' => (Post.here R1 q) v rv'
      | bk => exact q.elim
      | ct => exact q.elim
/-- what the top holds: the defs at ad, their objects fds -/
structure Top (T : Gtab) (rs : List Rec) (F : Fx) (mg : Str → Option Value) (ad : Nat → Addr) (fds : Nat → FuncData) (pr : Params) : Prop where
  fns : ∀ i r, rs[i]? = some r → Fun F.K r.x r.qual r.st (ad i) (fds i) ∧ Binds F.K (fds i) r.ps []
  blt : ∀ x, T.gl x = some .blt → mg x = none
  fn : ∀ x i ar, T.gl x = some (.fn i ar) → mg x = some (.ref (ad i)) ∧ ∃ r, rs[i]? = some r ∧ r.ps.length = ar
  cls : ∀ x c, T.gl x = some (.cls c) → mg x = some (.ref (F.Cl c))
  con : ∀ x d, T.gl x = some (.con d) → ∃ v u, mg x = some u ∧ RelV v u ∧ ∀ L H, RepD F L H v d
  exc : ∀ x c, T.gl x = some (.exc c) → ExcIs F mg x c
  dct : ∀ x kvs, T.gl x = some (.dct kvs) → ∃ p, mg x = some (.ref p) ∧ DctIs F pr p kvs
  ini : ∀ c i ar, T.ini c = some (i, ar) → Mk F.K (F.Cl c) (ad i) ∧ ∃ r, rs[i]? = some r ∧ r.ps.length = ar
  met : ∀ c m i ar, T.met c m = some (i, ar) → Cls F.K (F.Cl c) ∧ Meth F.K (F.Cl c) m (ad i) ∧ ∃ r, rs[i]? = some r ∧ r.ps.length = ar
  fok : ∀ c x, T.fok c x = true → Cls F.K (F.Cl c) ∧ NoAttr F.K (F.Cl c) x
  xr : ∀ c, T.xr c = true → ExcR F c
  xs : ∀ c c' b, T.xs c c' = some b → PySem.W.subIn F.K (.ref (F.Cl c)) (.ref (F.Cl c')) = some b
  kw : ∀ i ks inv, T.kw i ks = some inv → ∃ r, rs[i]? = some r ∧ KwB (fds i) r.ps ks inv
  fng : ∀ x i ar, T.gl x = some (.fnG i ar) → mg x = some (.ref (ad i)) ∧ ∃ r, rs[i]? = some r ∧ r.ps.length = ar
noncomputable def tbl (rs : List Rec) : Nat → Option Def := fun i => rs[i]?.map (·.d)
theorem all_fns {rs : List Rec} {ad : Nat → Addr} {fds : Nat → FuncData} (rp : T.rp = false) (ok : rs.all (recOk T) = true) (Z : Top T rs F mg ad fds w.params) : ∀ (n i : Nat) (r : Rec), rs[i]? = some r → FnOk P w F.K mg base (CX P w) (2 * n) (ad i) (fds i) r.ps (spF F (run (tbl rs) n) i r.ps.length)
  | 0, i, r, h => ⟨fun vs H Q E ⟨_, _, _, _, hl, _⟩ => hl, fun A outer s H args us vs Q E _ _ _ _ ⟨_, _, _, _, _, _, _, h⟩ => h.elim⟩
  | n + 1, i, r, h => by
    have I : RecIs T r := recOk_is ((List.all_eq_true.mp ok) r (List.mem_of_getElem? h))
    have ih := all_fns rp ok Z n
    refine fn_step (by unfold tbl; rw [h]; rfl) I (Z.fns i r h).1 ⟨Z.blt, fun x j ar e => ?_, Z.cls, Z.con, Z.exc, Z.dct, fun c j ar e => ?_, fun c m j ar e => ?_, Z.fok, Z.xr, Z.xs, fun x j ar ks inv e e2 => ?_, fun h => by rw [rp] at h; cases h⟩ rp
    · obtain ⟨a, r', b, c⟩ := Z.fn x j ar e
      exact ⟨_, a, (Z.fns j r' b).1.kp, ⟨_, _, c, ih j r' b, (Z.fns j r' b).2⟩⟩
    · obtain ⟨a, r', b, c⟩ := Z.ini c j ar e
      exact ⟨_, a, ⟨_, _, c, ih j r' b, (Z.fns j r' b).2⟩⟩
    · obtain ⟨h1, a, r', b, c⟩ := Z.met c m j ar e
      exact ⟨h1, _, a, ⟨_, _, c, ih j r' b, (Z.fns j r' b).2⟩⟩
    · obtain ⟨a, r', b, c⟩ := Z.fn x j ar e
      obtain ⟨r2, b2, B⟩ := Z.kw j ks inv e2
      rw [b] at b2
      cases b2
      exact ⟨_, a, (Z.fns j r' b).1.kp, ⟨_, _, c, ih j r' b, (Z.fns j r' b).2, B⟩⟩

/-! ### the law -/
/-- what a law promises -/
noncomputable def spLaw (K : PySem.W.Frag) (most : Nat) : Sp := fun vs H Q _ => ∃ (a : Addr) (ns : List Int), vs = [.ref a] ∧ SqL K H a (ns.map V.int) ∧ Only H ∧ ns.length ≤ most ∧ ∀ H', Q (.bl true) H'
theorem law_ok {tb : Nat → Option Def} {n k i most : Nat} {f : Addr} {fd : FuncData} {x : Str} (A : FnOk P w F.K mg base (CX P w) k f fd [x] (spF F (run tb n) i 1)) (h : ∀ ns : List Int, ns.length ≤ most → ∃ st, run tb n i [.p (.scr ns)] [] = .ok (.p (.bl true)) st) :
    FnOk P w F.K mg base (CX P w) k f fd [x] (spLaw F.K most) := by
  refine A.imp fun vs H Q E ⟨a, ns, hv, hS, hO, hl, q⟩ => ?_
  subst hv
  obtain ⟨st, e⟩ := h ns hl
  have hz : (∃ o, H a = some (.frz o (.lst (ns.map V.int)))) ∨ ∀ H', SqL F.K H' a (ns.map V.int) := by
    rcases hS with (hS | hS) | hS
    · rcases hO a with z | ⟨o, xs, z⟩
      · rw [z] at hS; cases hS
      · rw [z] at hS; cases hS
    · exact .inl hS
    · exact .inr fun _ => .inr hS
  rcases hz with ⟨o, hz⟩ | hz
  · refine ⟨[], fun b => b = a, [], [.p (.scr ns)], rfl, ⟨rfl, fun n o a h => by simp at h, fun n m a ⟨_, h, _⟩ => by simp at h, fun b hb => by subst hb; exact ⟨_, hz⟩⟩, .cons (.p (.scr trivial hS (.inl ⟨rfl, o, hz⟩))) .nil, ?_⟩
    rw [e]
    intro μ' L' H' _ _ v rv
    cases rv with
    | p rv => cases rv; exact q H'
  · refine ⟨[], fun _ => False, [], [.p (.scr ns)], rfl, ⟨rfl, fun n o a h => by simp at h, fun n m a ⟨_, h, _⟩ => by simp at h, fun b hb => hb.elim⟩, .cons (.p (.scr trivial hS (.inr hz))) .nil, ?_⟩
    rw [e]
    intro μ' L' H' _ _ v rv
    cases rv with
    | p rv => cases rv; exact q H'
end
end T

set_option maxRecDepth 100000
set_option maxHeartbeats 4000000
/-! T: the top of a text, by lists -/
namespace T
open PySem L2
/-- the words of a top -/
structure Lists where
  gl : List (Str × Gk)
  ini : List (Nat × Nat × Nat)
  met : List (Nat × Str × Nat × Nat)
  fok : List (Nat × Str)
  xr : List Nat := []
  xs : List (Nat × Nat × Bool) := []
  kw : List (Nat × List Str × List Nat) := []
noncomputable def tabOf (l : Lists) : Gtab where
  gl x := (l.gl.find? fun e => decide (e.1 = x)).map (·.2)
  ini c := (l.ini.find? fun e => decide (e.1 = c)).map (·.2)
  met c m := (l.met.find? fun e => decide (e.1 = c) && decide (e.2.1 = m)).map (·.2.2)
  fok c x := l.fok.any fun e => decide (e.1 = c) && decide (e.2 = x)
  xr c := l.xr.any fun e => decide (e = c)
  xs c c' := (l.xs.find? fun e => decide (e.1 = c) && decide (e.2.1 = c')).map (·.2.2)
  kw i ks := (l.kw.find? fun e => decide (e.1 = i) && decide (e.2.1 = ks)).map (·.2.2)
section
variable (rs : List Rec) (F : Fx) (mg : Str → Option Value) (pr : Params) (ad : Nat → Addr)
noncomputable def arOf (i ar : Nat) : Prop := rs[i]?.map (·.ps.length) = some ar
noncomputable def GlIs (e : Str × Gk) : Prop := match e.2 with
  | .blt => mg e.1 = none
  | .fn i ar => mg e.1 = some (.ref (ad i)) ∧ arOf rs i ar
  | .cls c => mg e.1 = some (.ref (F.Cl c))
  | .con d => ∃ v u, mg e.1 = some u ∧ RelV v u ∧ ∀ L H, RepD F L H v d
  | .exc c => ExcIs F mg e.1 c
  | .dct kvs => ∃ p, mg e.1 = some (.ref p) ∧ DctIs F pr p kvs
  | .fnG i ar => mg e.1 = some (.ref (ad i)) ∧ arOf rs i ar
noncomputable def IniIs (e : Nat × Nat × Nat) : Prop := Mk F.K (F.Cl e.1) (ad e.2.1) ∧ arOf rs e.2.1 e.2.2
noncomputable def MetIs (e : Nat × Str × Nat × Nat) : Prop := Cls F.K (F.Cl e.1) ∧ Meth F.K (F.Cl e.1) e.2.1 (ad e.2.2.1) ∧ arOf rs e.2.2.1 e.2.2.2
noncomputable def FokIs (e : Nat × Str) : Prop := Cls F.K (F.Cl e.1) ∧ NoAttr F.K (F.Cl e.1) e.2
noncomputable def XsIs (e : Nat × Nat × Bool) : Prop := PySem.W.subIn F.K (.ref (F.Cl e.1)) (.ref (F.Cl e.2.1)) = some e.2.2
noncomputable def KwIs (fds : Nat → FuncData) (e : Nat × List Str × List Nat) : Prop := ∃ r, rs[e.1]? = some r ∧ KwB (fds e.1) r.ps e.2.1 e.2.2
/-- the defs, one after another -/
inductive FnsIs (K : PySem.W.Frag) : List Rec → List (Addr × FuncData) → Prop where
  | nil : FnsIs K [] []
  | cons {r : Rec} {rs : List Rec} {a : Addr} {fd : FuncData} {l : List (Addr × FuncData)} : Fun K r.x r.qual r.st a fd → Binds K fd r.ps [] → FnsIs K rs l → FnsIs K (r :: rs) ((a, fd) :: l)
/-- all hold -/
inductive AllOf {α : Type} (p : α → Prop) : List α → Prop where
  | nil : AllOf p []
  | cons {x : α} {l : List α} : p x → AllOf p l → AllOf p (x :: l)
end
theorem AllOf.mem {α : Type} {p : α → Prop} {l : List α} (h : AllOf p l) : ∀ x ∈ l, p x := by
  induction h with
  | nil => intro x hx; cases hx
  | cons h _ ih =>
    intro x hx
    rcases List.mem_cons.mp hx with rfl | hx
    · exact h
    · exact ih x hx
theorem FnsIs.get {K : PySem.W.Frag} {rs : List Rec} {l : List (Addr × FuncData)} (h : FnsIs K rs l) (d : Addr × FuncData) : ∀ (i : Nat) (r : Rec), rs[i]? = some r → Fun K r.x r.qual r.st (l.getD i d).1 (l.getD i d).2 ∧ Binds K (l.getD i d).2 r.ps [] := by
  induction h with
  | nil => intro i r h; simp at h
  | cons h1 h2 _ ih =>
    intro i r h
    cases i with
    | zero =>
      simp at h
      subst h
      exact ⟨h1, h2⟩
    | succ i => exact ih i r (by simpa using h)
theorem ar_of {rs : List Rec} {i ar : Nat} (h : arOf rs i ar) : ∃ r, rs[i]? = some r ∧ r.ps.length = ar := by
  unfold arOf at h
  cases q : rs[i]? with
  | none => rw [q] at h; cases h
  | some r => rw [q] at h; cases h; exact ⟨r, rfl, rfl⟩
theorem top_of {l : Lists} {rs : List Rec} {F : Fx} {mg : Str → Option Value} {fl : List (Addr × FuncData)} {pr : Params} (d : Addr × FuncData) (h1 : FnsIs F.K rs fl) (h2 : AllOf (GlIs rs F mg pr fun i => (fl.getD i d).1) l.gl) (h3 : AllOf (IniIs rs F fun i => (fl.getD i d).1) l.ini)
    (h4 : AllOf (MetIs rs F fun i => (fl.getD i d).1) l.met) (h5 : AllOf (FokIs F) l.fok) (h6 : AllOf (ExcR F) l.xr) (h7 : AllOf (XsIs F) l.xs) (h8 : AllOf (KwIs rs fun i => (fl.getD i d).2) l.kw) : Top (tabOf l) rs F mg (fun i => (fl.getD i d).1) (fun i => (fl.getD i d).2) pr := by
  have gl : ∀ x g, (tabOf l).gl x = some g → GlIs rs F mg pr (fun i => (fl.getD i d).1) (x, g) := fun x g h => by
    have h : (l.gl.find? fun e => decide (e.1 = x)).map (·.2) = some g := h
    cases q : l.gl.find? fun e => decide (e.1 = x) with
    | none => rw [q] at h; cases h
    | some e =>
      rw [q] at h
      cases h
      have e1 : e.1 = x := of_decide_eq_true (List.find?_some (p := fun e : Str × Gk => decide (e.1 = x)) q)
      have e2 := h2.mem e (List.mem_of_find?_eq_some q)
      subst e1
      exact e2
  refine ⟨h1.get d, fun x h => gl _ _ h, fun x i ar h => ?_, fun x c h => gl _ _ h, fun x e h => gl _ _ h, fun x c h => gl _ _ h, fun x kvs h => gl _ _ h, fun c i ar h => ?_, fun c m i ar h => ?_, fun c x h => ?_, fun c h => ?_, fun c c' b h => ?_, fun i ks inv h => ?_, fun x i ar h => ?_⟩
  · obtain ⟨a, b⟩ := gl _ _ h
    exact ⟨a, ar_of b⟩
  · have h : (l.ini.find? fun e => decide (e.1 = c)).map (·.2) = some (i, ar) := h
    cases q : l.ini.find? fun e => decide (e.1 = c) with
    | none => rw [q] at h; cases h
    | some e =>
      rw [q] at h
      obtain ⟨c', i', ar'⟩ := e
      cases h
      have e1 : c' = c := of_decide_eq_true (List.find?_some (p := fun e : Nat × Nat × Nat => decide (e.1 = c)) q)
      subst e1
      obtain ⟨a, b⟩ := h3.mem _ (List.mem_of_find?_eq_some q)
      exact ⟨a, ar_of b⟩
  · have h : (l.met.find? fun e => decide (e.1 = c) && decide (e.2.1 = m)).map (·.2.2) = some (i, ar) := h
    cases q : l.met.find? fun e => decide (e.1 = c) && decide (e.2.1 = m) with
    | none => rw [q] at h; cases h
    | some e =>
      rw [q] at h
      obtain ⟨c', m', i', ar'⟩ := e
      cases h
      have z := List.find?_some (p := fun e : Nat × Str × Nat × Nat => decide (e.1 = c) && decide (e.2.1 = m)) q
      rw [Bool.and_eq_true] at z
      have e1 : c' = c := of_decide_eq_true z.1
      have e2 : m' = m := of_decide_eq_true z.2
      subst e1 e2
      obtain ⟨a, b, c⟩ := h4.mem _ (List.mem_of_find?_eq_some q)
      exact ⟨a, b, ar_of c⟩
  · have h : (l.fok.any fun e => decide (e.1 = c) && decide (e.2 = x)) = true := h
    rw [List.any_eq_true] at h
    obtain ⟨⟨c', x'⟩, hm, z⟩ := h
    rw [Bool.and_eq_true] at z
    have e1 : c' = c := of_decide_eq_true z.1
    have e2 : x' = x := of_decide_eq_true z.2
    subst e1 e2
    exact h5.mem _ hm
  · have h : (l.xr.any fun e => decide (e = c)) = true := h
    rw [List.any_eq_true] at h
    obtain ⟨c', hm, z⟩ := h
    have e1 := of_decide_eq_true z
    subst e1
    exact h6.mem _ hm
  · have h : (l.xs.find? fun e => decide (e.1 = c) && decide (e.2.1 = c')).map (·.2.2) = some b := h
    cases q : l.xs.find? fun e => decide (e.1 = c) && decide (e.2.1 = c') with
    | none => rw [q] at h; cases h
    | some e =>
      rw [q] at h
      obtain ⟨d, d', b'⟩ := e
      cases h
      have z := List.find?_some (p := fun e : Nat × Nat × Bool => decide (e.1 = c) && decide (e.2.1 = c')) q
      rw [Bool.and_eq_true] at z
      have e1 : d = c := of_decide_eq_true z.1
      have e2 : d' = c' := of_decide_eq_true z.2
      subst e1 e2
      exact h7.mem _ (List.mem_of_find?_eq_some q)
  · have h : (l.kw.find? fun e => decide (e.1 = i) && decide (e.2.1 = ks)).map (·.2.2) = some inv := h
    cases q : l.kw.find? fun e => decide (e.1 = i) && decide (e.2.1 = ks) with
    | none => rw [q] at h; cases h
    | some e =>
      rw [q] at h
      obtain ⟨d', d2, b'⟩ := e
      cases h
      have z := List.find?_some (p := fun e : Nat × List Str × List Nat => decide (e.1 = i) && decide (e.2.1 = ks)) q
      rw [Bool.and_eq_true] at z
      have e1 : d' = i := of_decide_eq_true z.1
      have e2 : d2 = ks := of_decide_eq_true z.2
      subst e1 e2
      exact h8.mem _ (List.mem_of_find?_eq_some q)
  · obtain ⟨a, b⟩ := gl _ _ h
    exact ⟨a, ar_of b⟩
/-- an own exception class that comes from ValueError -/
theorem exc_mk {F : Fx} {mg : Str → Option Value} {x : Str} {c : Nat} {h : Heap} {B newId initId : String} {bm : List Value} (X : F.K.In h) (G : h.Ns mainGlobals mg) (FB : ExcBaseFacts B newId initId bm) (a : PySem.W.nsIn F.K mainGlobals x = some (some (.ref (F.Cl c))))
    (q : PySem.W.excIn F.K (F.Cl c) bm newId = true) (k : PySem.W.keepIn F.K (.ref (F.Cl c)) = true) (s : PySem.W.subIn F.K (.ref (F.Cl c)) (.type "BaseException") = some true) (t : PySem.W.typeIn F.K (.ref (F.Cl c)) = some (.type "type")) (d : PySem.W.hasDictIn F.K (F.Cl c) = true) : ExcIs F mg x c :=
  ⟨PySem.W.mg_of X G a, ⟨B, newId, initId, bm, FB, q⟩, k, s, t, d⟩
theorem cx_no {P : Program} {w : World} {outer : List Env} {H : Hp} {s s' : Shared} {e : Value} (h : CX P w outer H s (fun _ _ _ => False) e s') : False := by
  obtain ⟨_, _, _, _, _, _, _, _, _, _, _, _, z⟩ := h
  exact z
/-- the law, from its place among the defs -/
theorem law_of {l : Lists} {rs : List Rec} {F : Fx} {P : Program} {w : World} {mg : Str → Option Value} {base : Heap} {ad : Nat → Addr} {fds : Nat → FuncData} {n i most : Nat} {r : Rec} {x : Str} (ok : rs.all (recOk (tabOf l)) = true) (Z : Top (tabOf l) rs F mg ad fds w.params)
    (hr : rs[i]? = some r) (hp : r.ps = [x]) (h : ∀ ns : List Int, ns.length ≤ most → ∃ st, run (tbl rs) n i [.p (.scr ns)] [] = .ok (.p (.bl true)) st) : FnOk P w F.K mg base (CX P w) (2 * n) (ad i) (fds i) [x] (spLaw F.K most) := by
  have A := all_fns (P := P) (w := w) (base := base) rfl ok Z n i r hr
  rw [hp] at A
  exact law_ok A h
end T

set_option maxRecDepth 100000
set_option maxHeartbeats 4000000
/-! T: a law that asks for repr: its def, called where no such code stands below -/
namespace T
open PySem PySem.Spec L2 PyProof.Rows
section
variable {P : Program} {w : World} {K : PySem.W.Frag} {mg : Str → Option Value} {base : Heap}
theorem FnG.imp {Z : CXT} {k : Nat} {f : Addr} {fd : FuncData} {ps : List Str} {sp tp : Sp} (F : FnG P w K mg base Z k f fd ps sp) (h : ∀ zs H Q E, tp zs H Q E → sp zs H Q E) : FnG P w K mg base Z k f fd ps tp :=
  ⟨fun zs H Q E q => F.len zs H Q E (h zs H Q E q), fun A low s H g us zs Q E a b c d e q => F.run A low s H g us zs Q E a b c d e (h zs H Q E q)⟩
/-- .. by its body -/
theorem fnG_of {x qual : Str} {st : Stmt} {f : Addr} {fd : FuncData} {N ps : List Str} {k : Nat} {sp : Sp} (F : Fun K x qual st f fd) (S : FnScope N ps (defScope st)) (len : ∀ zs H Q E, sp zs H Q E → zs.length = ps.length)
    (body : ∀ (cdv : Value) (A : Around) (low : List Env) (s : Shared) (H : Hp) (zs : List V) (Q : VK) (E : XK), A.guards = some [] → Room k (A.deeper (envOfC qual (defScope st) s.heap.objs.size f cdv)) → sp zs H Q E →
      ∃ t, PSs (cxOf (CX P w) P w K mg base N qual (defScope st) f cdv A low s H E) (defBody st) t ∧ t { nx := fun _ J => Q .non J, rt := Q } (L2.start N zs) H) : FnG P w K mg base (CX P w) (k + 1) f fd ps sp := by
  obtain ⟨oc, od, kV, doc, pm, an, cdv, ct, osl, rfl, at_f, code⟩ := F.ex
  refine ⟨len, fun A low s H g us zs Q E gd room env bind rel want => ?_⟩
  have many := len zs H Q E want
  have inK : K.In s.heap := env.mod.kin.keeps fun b o q => (env.bs b o q).1
  have free : s.heap.NoLimit := env.mod.nolimit.keeps fun b o q => (env.bs b o q).1
  have kinds : ∀ y ∈ ps.zip us, (defScope st).names.lookup y.1 = some .local ∨ ((defScope st).names.lookup y.1 = some .cell ∧ ((cellsFrom (s.heap.objs.size + 1) (defScope st).names []).lookup y.1).isSome = true) := by
    rintro ⟨y, v⟩ hy
    have := S.par y (List.of_mem_zip hy).1
    exact this.imp id fun q => ⟨q, PySem.W.cellsFrom_some _ _ _ (.inl q)⟩
  obtain ⟨t, runs, ends⟩ := body cdv A low s H zs Q E gd (room.deeper _) want
  refine codeAny_call_function room.depth (inK _ _ at_f) rfl S.co S.gen rfl (PySem.W.codeRec_of inK code) (bind _ _ _ _ ?_)
  refine wpAny_newFunctionEnv_cells S.kind kinds fun ev same s1 made => ?_
  cases same
  have I := inv_start (CX := CX P w) (E := E) S room.hd env many rel made
  refine ⟨free.keeps made.toInCall.keep, codeAny_func (wpAny_mono (runs.run [] s1 (L2.start N zs) H _ I ends) (fun fl s' after => ?_) fun _ _ z => z)⟩
  have close : ∀ {τ : L2.St} {J : Hp} {v : V} {u : Value}, Inv (cxOf (CX P w) P w K mg base N qual (defScope st) f cdv A low s H E) [] τ J s' → RelV v u → Q v J → CE low P w H s Q u s' :=
    fun {τ J v u} i a b => ⟨v, J, i.os, i.bare, i.base, i.hok, a, b⟩
  cases fl with
  | ret u => exact let ⟨v, τ, J, i, a, b⟩ := after; close i a b
  | next => exact let ⟨τ, J, i, b⟩ := after; close (v := V.non) (u := Value.none) i rfl b
  | brk => exact let ⟨_, _, _, z⟩ := after; False.elim z
  | cont => exact let ⟨_, _, _, z⟩ := after; False.elim z
/-- the law's def, called from without -/
theorem callG {mb : Str → Option Value} {k : Nat} {fa a : Addr} {fd : FuncData} {x : Str} {sp : Sp} {s : Shared} {vs : List Value} {ns : List Int}
    (inK : K.In s.heap) (glob : s.heap.Ns mainGlobals mg) (blt : s.heap.Ns builtinsNs mb) (boot : ∀ x : Str, x ≠ "__name__" → mb x = bootBuiltins x) (free : s.heap.NoLimit) (gens : s.gens = #[])
    (list : s.heap.get? a = some { cls := .type "list", data := .seq vs.toArray }) (nums : PyProof.Rows.IntsAre vs ns) (size : ns.length ≤ sizeLine) (room : Room k callerA)
    (F : ∀ base : Heap, K.In base → base.Ns mainGlobals mg → FnG P w K mg base (CX P w) k fa fd [x] sp) (bind : ∀ (s : Shared) (u : Value), BindsTo s fd ⟨[u], []⟩ [(x, u)])
    (want : ∀ H : Hp, Only H → SqL K H a (ns.map V.int) → sp [.ref a] H (fun v _ => v = .bl true) fun _ _ _ => False) :
    codeAny (model P w) callerA (.call (.ref fa) ⟨[.ref a], []⟩) (fun r s' => r = .ok (.ret (.bool true)) ∧ OldK s.heap s'.heap ∧ s'.os = s.os ∧ AllBare s'.gens) s := by
  have rel := vals_ints nums
  have many := nums.length
  obtain ⟨H, hH⟩ : ∃ H : Hp, H = fun b => if b = a ∧ K.lookup a = none then some (.frz { cls := .type "list", data := .seq vs.toArray } (.lst (ns.map V.int))) else none := ⟨_, rfl⟩
  have yes : ∀ {b : Addr} {u : HO}, H b = some u → b = a ∧ K.lookup a = none ∧ u = .frz { cls := .type "list", data := .seq vs.toArray } (.lst (ns.map V.int)) := fun {b u} q => by
    simp only [hH] at q
    by_cases z : b = a ∧ K.lookup a = none
    · rw [if_pos z] at q; cases q; exact ⟨z.1, z.2, rfl⟩
    · rw [if_neg z] at q; cases q
  have only : Only H := fun b => by
    cases q : H b with
    | none => exact .inl rfl
    | some u => obtain ⟨_, _, rfl⟩ := yes q; exact .inr ⟨_, _, rfl⟩
  have script : SqL K H a (ns.map V.int) := by
    cases q : K.lookup a with
    | none => exact .inl (.inr ⟨{ cls := .type "list", data := .seq vs.toArray }, by rw [hH]; exact if_pos ⟨rfl, q⟩⟩)
    | some o =>
      have same := inK a o q
      rw [list] at same
      cases same
      exact .inr ⟨{ cls := .type "list", data := .seq vs.toArray }, vs.toArray, _, q, rfl, rfl, rfl, by rw [List.size_toArray, many]; exact size, by simpa using rel⟩
  have held : HOk P w H s.heap := fun b u q => by
    obtain ⟨rfl, _, rfl⟩ := yes q
    exact ⟨list, by rw [List.length_map]; exact size, vs, _, rel, list⟩
  have dict : ∀ {b : Addr} {o : Obj} {es : Array DictEntry} {ep : Nat}, s.heap.get? b = some o → o.data = .dict es ep → H b = none := fun {b o es ep} e d => by
    cases q : H b with
    | none => rfl
    | some u =>
      obtain ⟨rfl, _, _⟩ := yes q
      rw [list] at e
      cases e
      exact nomatch (show Data.seq vs.toArray _ = Data.dict es ep from d)
  have ns_of : ∀ {b : Addr} {m : Str → Option Value}, s.heap.Ns b m → (hidT s.heap H).Ns b m := fun {b m} ⟨o, es, ep, e, d, r⟩ => ⟨o, es, ep, hidT_get e (dict e d), d, r⟩
  have inB : K.In (hidT s.heap H) := fun b o e => hidT_get (inK b o e) (by
    cases q : H b with
    | none => rfl
    | some u => obtain ⟨rfl, z, _⟩ := yes q; rw [z] at e; cases e)
  have env : Env0 P w K mg (hidT s.heap H) callerA [] s H :=
    ⟨rfl, ⟨inB, ns_of glob, ⟨mb, ns_of blt, boot⟩, let ⟨m, h1, h2⟩ := free; ⟨m, ns_of h1, h2⟩⟩, fun _ _ e => of_hidT e, Nat.le_of_eq (hidT_size _ _), trivial, (fun _ z => nomatch z), held, .of_eq gens⟩
  have runs := (F _ inB (ns_of glob)).run callerA [] s H ⟨[.ref a], []⟩ [.ref a] [.ref a] _ _ rfl room env (bind s (.ref a)) (.cons rfl .nil) (want H only script)
  refine codeAny_mono runs fun r s' h => ?_
  match r, h with
  | .error e, h => exact (cx_no h).elim
  | .ok .next, h => exact False.elim h
  | .ok .brk, h => exact False.elim h
  | .ok .cont, h => exact False.elim h
  | .ok (.ret u), ⟨v, J, os, bare, un, held', is, q⟩ =>
    have q : v = .bl true := q
    cases q
    cases (show u = Value.bool true from is)
    refine ⟨rfl, OldK.of_keep fun b o e => ?_, os, bare⟩
    cases z : H b with
    | none => exact un.keep b o e z (by simp [frs]) (by simp)
    | some u =>
      obtain ⟨rfl, _, rfl⟩ := yes z
      have := (held' b _ (un.frzs b _ _ z)).1
      rw [list] at e
      cases e
      exact this
end
/-! ### the law's def among the others -/
/-- no one calls the defs from b on -/
noncomputable def notCalled (l : Lists) (b : Nat) : Bool :=
  (l.gl.all fun e => match e.2 with
    | .fn i _ => decide (i < b)
    | _ => true) && (l.ini.all fun e => decide (e.2.1 < b)) && l.met.all fun e => decide (e.2.2.1 < b)
/-- those that are called where nothing is being shown -/
noncomputable def calledG (l : Lists) (b : Nat) : Bool := l.gl.all fun e => match e.2 with
    | .fnG i _ => decide (b ≤ i)
    | _ => true
section
variable {l : Lists} {rs : List Rec} {F : Fx} {P : Program} {w : World} {mg : Str → Option Value} {base : Heap} {ad : Nat → Addr} {fds : Nat → FuncData} {b : Nat}
end
end T

set_option maxRecDepth 100000
set_option maxHeartbeats 4000000
/-! T: terms worked out by rewriting, step by step -/
namespace T
open PySem
theorem run_at {tb : Nat → Option Def} {n i : Nat} {d : Def} (h : tb i = some d) (ws : List W) (st : Sto) : T.run tb (n + 1) i ws st = runB (T.run tb n) d ws st := by
  rw [T.run]
  simp only [h]
noncomputable def kRun : Res (Flow × Nv) → Res W
  | .ok (.rt w, _) s => .ok w s
  | .ok (.nx, _) s => .ok (.p .non) s
  | .ok _ _ => .err
  | .exc c s => .exc c s
  | .err => .err
theorem runB_eq (C : Call) (d : Def) (ws : List W) (st : Sto) (h : ws.length = d.ar) : runB C d ws st = kRun (evSs C d.body (ws.map some ++ List.replicate (d.nn - d.ar) none) st) := by
  unfold runB
  rw [if_pos h]
  cases evSs C d.body (ws.map some ++ List.replicate (d.nn - d.ar) none) st with
  | ok o s => obtain ⟨f, r⟩ := o; cases f <;> rfl
  | exc c s => rfl
  | err => rfl
/-- a def at its arguments -/
theorem run_go {tb : Nat → Option Def} {n i : Nat} (ar nn : Nat) (b : Sms) (ρ : Nv) {ws : List W} (h : tb i = some ⟨ar, nn, b⟩) (st : Sto) (hl : ws.length = ar) (hρ : ws.map some ++ List.replicate (nn - ar) none = ρ) : T.run tb (n + 1) i ws st = kRun (evSs (T.run tb n) b ρ st) := by
  rw [run_at h, runB_eq _ _ _ _ hl, ← hρ]
variable {C : Call} {ρ : Nv} {st : Sto}
-- statements
noncomputable def kSeq (C : Call) (ss : Sms) : Res (Flow × Nv) → Res (Flow × Nv)
  | .ok (.nx, ρ) s => evSs C ss ρ s
  | .ok (f, ρ) s => .ok (f, ρ) s
  | .exc c s => .exc c s
  | .err => .err
theorem e_nil : evSs C .nil ρ st = .ok (.nx, ρ) st := by rw [evSs]
theorem e_cons (s : Sm) (ss : Sms) : evSs C (.cons s ss) ρ st = kSeq C ss (evS C s ρ st) := by
  rw [evSs]
  cases evS C s ρ st with
  | ok o s => obtain ⟨f, r⟩ := o; cases f <;> rfl
  | exc c s => rfl
  | err => rfl
noncomputable def kBind {α β : Type} (f : α → Sto → Res β) (r : Res α) : Res β := r.bind f
theorem k_ok {α β : Type} (f : α → Sto → Res β) (a : α) (s : Sto) : kBind f (.ok a s) = f a s := rfl
theorem k_exc {α β : Type} (f : α → Sto → Res β) (c : Nat) (s : Sto) : kBind f (.exc c s) = .exc c s := rfl
noncomputable def fExp (ρ : Nv) (_ : W) (s : Sto) : Res (Flow × Nv) := .ok (.nx, ρ) s
theorem e_exp (e : Ex) : evS C (.exp e) ρ st = kBind (fExp ρ) (evE C e ρ st) := by rw [evS]; rfl
noncomputable def fAsg (i : Nat) (ρ : Nv) (x : W) (s : Sto) : Res (Flow × Nv) := .ok (.nx, ρ.set i (some x)) s
theorem e_asg (i : Nat) (e : Ex) : evS C (.asg i e) ρ st = kBind (fAsg i ρ) (evE C e ρ st) := by rw [evS]; rfl
noncomputable def kNv (s : Sto) : Option Nv → Res (Flow × Nv)
  | some ρ => .ok (.nx, ρ) s
  | none => .err
noncomputable def kTs (is : List Nat) (ρ : Nv) (s : Sto) : Option (List W) → Res (Flow × Nv)
  | some ws => kNv s (setTs is ws ρ)
  | none => .err
noncomputable def fAsgT (is : List Nat) (ρ : Nv) (x : W) (s : Sto) : Res (Flow × Nv) := kTs is ρ s (tupI s x)
theorem e_asgT (is : List Nat) (e : Ex) : evS C (.asgT is e) ρ st = kBind (fAsgT is ρ) (evE C e ρ st) := by
  rw [evS]
  rfl
noncomputable def kSt (ρ : Nv) : Option Sto → Res (Flow × Nv)
  | some s => .ok (.nx, ρ) s
  | none => .err
noncomputable def fI2 (ρ : Nv) (v x : W) (y : W) (s : Sto) : Res (Flow × Nv) := kSt ρ (setW s x y v)
noncomputable def fI1 (C : Call) (i : Ex) (ρ : Nv) (v : W) (x : W) (s : Sto) : Res (Flow × Nv) := kBind (fI2 ρ v x) (evE C i ρ s)
noncomputable def fI0 (C : Call) (o i : Ex) (ρ : Nv) (v : W) (s : Sto) : Res (Flow × Nv) := kBind (fI1 C i ρ v) (evE C o ρ s)
theorem e_asgI (o i e : Ex) : evS C (.asgI o i e) ρ st = kBind (fI0 C o i ρ) (evE C e ρ st) := by
  rw [evS]
  rfl
noncomputable def fRet (ρ : Nv) (x : W) (s : Sto) : Res (Flow × Nv) := .ok (.rt x, ρ) s
theorem e_ret (e : Ex) : evS C (.ret e) ρ st = kBind (fRet ρ) (evE C e ρ st) := by rw [evS]; rfl
theorem e_retN : evS C .retN ρ st = .ok (.rt (.p .non), ρ) st := by rw [evS]
noncomputable def fIf (C : Call) (a b : Sms) (ρ : Nv) (k : Bool) (s : Sto) : Res (Flow × Nv) := match k with
  | true => evSs C a ρ s
  | false => evSs C b ρ s
theorem e_ifs (t : Ex) (a b : Sms) : evS C (.ifs t a b) ρ st = kBind (fIf C a b ρ) (evT C t ρ st) := by
  rw [evS]
  unfold kBind
  congr 1
  funext k s
  cases k <;> rfl
theorem e_whl (t : Ex) (b : Sms) : evS C (.whl t b) ρ st = whlLoop (evT C t) (evSs C b) fuel ρ st := by rw [evS]
/-- a turn of a for -/
noncomputable def turn (C : Call) (tg : Tg) (b : Sms) (x : W) (ρ : Nv) (s : Sto) : Res (Flow × Nv) := match bindT tg x ρ with
  | some ρ' => evSs C b ρ' s
  | none => .err
noncomputable def fFor (C : Call) (tg : Tg) (b : Sms) (ρ : Nv) (v : Itv) (s : Sto) : Res (Flow × Nv) := match v with
  | .fix ws => forLoop (turn C tg b) ws ρ s
  | .dyn n => dynLoop (turn C tg b) n fuel 0 ρ s
theorem e_for (tg : Tg) (it : Iter) (b : Sms) : evS C (.forr tg it b) ρ st = kBind (fFor C tg b ρ) (evI C it ρ st) := by
  rw [evS]
  rfl
theorem e_brk : evS C .brk ρ st = .ok (.bk, ρ) st := by rw [evS]
theorem e_cnt : evS C .cnt ρ st = .ok (.ct, ρ) st := by rw [evS]
theorem e_pas : evS C .pas ρ st = .ok (.nx, ρ) st := by rw [evS]
theorem e_rai (c : Nat) : evS C (.rai c) ρ st = .exc c st := by rw [evS]
-- names, constants
noncomputable def kW (s : Sto) : Option (Option W) → Res W
  | some (some w) => .ok w s
  | _ => .err
theorem e_var (i : Nat) : evE C (.var i) ρ st = kW st ρ[i]? := by
  rw [evE]
  cases ρ[i]? with
  | none => rfl
  | some o => cases o <;> rfl
theorem kW_some (w : W) : kW st (some (some w)) = .ok w st := rfl
theorem e_con (d : D) : evE C (.con d) ρ st = .ok (.p d) st := by rw [evE]
theorem e_glo (x : Str) (d : D) : evE C (.glo x d) ρ st = .ok (.p d) st := by rw [evE]
-- operators
noncomputable def bin (o : Bop) (x y : W) (s : Sto) : Res W := match vw s x, vw s y with
  | some x, some y => resD s (binD o x y)
  | _, _ => .err
noncomputable def fB2 (o : Bop) (x : W) (y : W) (s : Sto) : Res W := bin o x y s
noncomputable def fB1 (C : Call) (o : Bop) (b : Ex) (ρ : Nv) (x : W) (s : Sto) : Res W := kBind (fB2 o x) (evE C b ρ s)
theorem e_bin (o : Bop) (a b : Ex) : evE C (.bin o a b) ρ st = kBind (fB1 C o b ρ) (evE C a ρ st) := by rw [evE]; rfl
theorem bin_add (i j : Int) : bin .add (.p (.int i)) (.p (.int j)) st = .ok (.p (.int (i + j))) st := rfl
theorem bin_sub (i j : Int) : bin .sub (.p (.int i)) (.p (.int j)) st = .ok (.p (.int (i - j))) st := rfl
theorem bin_mul {i j : Int} (h : mulOk i j = true) : bin .mul (.p (.int i)) (.p (.int j)) st = .ok (.p (.int (i * j))) st := by
  show resD st (if mulOk i j then some (D.int (i * j)) else none) = _
  rw [if_pos h]; rfl
theorem bin_mod {i j : Int} (h : 0 < j) : bin .mod (.p (.int i)) (.p (.int j)) st = .ok (.p (.int (i % j))) st := by
  show resD st (if decide (0 < j) then some (D.int (i % j)) else none) = _
  rw [if_pos (decide_eq_true h)]; rfl
theorem bin_fdiv {i j : Int} (h : divOk j = true) : bin .fdiv (.p (.int i)) (.p (.int j)) st = .ok (.p (.int (i / j))) st := by
  show resD st (if divOk j then some (D.int (i / j)) else none) = _
  rw [if_pos h]; rfl
theorem bin_pow {i j : Int} (h : powOk i j = true) : bin .pow (.p (.int i)) (.p (.int j)) st = .ok (.p (.int (i ^ j.toNat))) st := by
  show resD st (if powOk i j then some (D.int (i ^ j.toNat)) else none) = _
  rw [if_pos h]; rfl
noncomputable def fNeg (x : W) (s : Sto) : Res W := match x with
  | .p (.int i) => .ok (.p (.int (-i))) s
  | _ => .err
theorem e_neg (a : Ex) : evE C (.neg a) ρ st = kBind fNeg (evE C a ρ st) := by rw [evE]; rfl
noncomputable def kB (s : Sto) : Option Bool → Res W
  | some k => .ok (.p (.bl k)) s
  | none => .err
theorem kB_some (k : Bool) : kB st (some k) = .ok (.p (.bl k)) st := rfl
noncomputable def fC2 (o : Cop) (x : W) (y : W) (s : Sto) : Res W := kB s (cmpW s o x y)
noncomputable def fC1 (C : Call) (o : Cop) (b : Ex) (ρ : Nv) (x : W) (s : Sto) : Res W := kBind (fC2 o x) (evE C b ρ s)
theorem e_cmp (o : Cop) (a b : Ex) : evE C (.cmp o a b) ρ st = kBind (fC1 C o b ρ) (evE C a ρ st) := by
  rw [evE]
  rfl
theorem c_lt (i j : Int) : cmpW st .lt (.p (.int i)) (.p (.int j)) = some (decide (i < j)) := rfl
theorem c_le (i j : Int) : cmpW st .le (.p (.int i)) (.p (.int j)) = some (decide (i ≤ j)) := rfl
theorem c_gt (i j : Int) : cmpW st .gt (.p (.int i)) (.p (.int j)) = some (decide (j < i)) := rfl
theorem c_ge (i j : Int) : cmpW st .ge (.p (.int i)) (.p (.int j)) = some (decide (j ≤ i)) := rfl
theorem c_eq (x y : W) : cmpW st .eq x y = eqW st x y := rfl
theorem c_ne (x y : W) : cmpW st .ne x y = (eqW st x y).map (!·) := rfl
theorem eqW_int (i j : Int) : eqW st (.p (.int i)) (.p (.int j)) = some (decide (i = j)) := by
  show (if (PyData.int i).depth ≤ 64 ∧ (PyData.int j).depth ≤ 64 then some (PyData.eqv (.int i) (.int j)) else none) = _
  have e : PyData.eqv (.int i) (.int j) = decide (i = j) := by
    simp [PyData.eqv]
    by_cases h : i = j <;> simp [h]
  rw [if_pos ⟨by simp [PyData.depth], by simp [PyData.depth]⟩, e]
theorem eqW_str (x y : Str) : eqW st (.p (.str x)) (.p (.str y)) = some (decide (x = y)) := by
  show (if (PyData.str x).depth ≤ 64 ∧ (PyData.str y).depth ≤ 64 then some (PyData.eqv (.str x) (.str y)) else none) = _
  have e : PyData.eqv (.str x) (.str y) = decide (x = y) := by
    simp [PyData.eqv]
    by_cases h : x = y <;> simp [h]
  rw [if_pos ⟨by simp [PyData.depth], by simp [PyData.depth]⟩, e]
noncomputable def fH3 (C : Call) (o' : Cop) (c : Ex) (y : W) (ρ : Nv) (s : Sto) : Option Bool → Res W
  | some true => kBind (fC2 o' y) (evE C c ρ s)
  | some false => .ok (.p (.bl false)) s
  | none => .err
noncomputable def fH2 (C : Call) (o o' : Cop) (c : Ex) (ρ : Nv) (x : W) (y : W) (s : Sto) : Res W := fH3 C o' c y ρ s (cmpW s o x y)
noncomputable def fH1 (C : Call) (o o' : Cop) (b c : Ex) (ρ : Nv) (x : W) (s : Sto) : Res W := kBind (fH2 C o o' c ρ x) (evE C b ρ s)
theorem e_chn (o o' : Cop) (a b c : Ex) : evE C (.chn o o' a b c) ρ st = kBind (fH1 C o o' b c ρ) (evE C a ρ st) := by
  rw [evE]
  rfl
noncomputable def fAnd (C : Call) (b : Ex) (ρ : Nv) (x : W) (s : Sto) : Res W := match x with
  | .p (.bl true) => evE C b ρ s
  | .p (.bl false) => .ok (.p (.bl false)) s
  | _ => .err
theorem e_and (a b : Ex) : evE C (.and a b) ρ st = kBind (fAnd C b ρ) (evE C a ρ st) := by rw [evE]; rfl
noncomputable def fOr (C : Call) (b : Ex) (ρ : Nv) (x : W) (s : Sto) : Res W := match x with
  | .p (.bl true) => .ok (.p (.bl true)) s
  | .p (.bl false) => evE C b ρ s
  | .p (.tup ds) => if ds.isEmpty then evE C b ρ s else .ok (.p (.tup ds)) s
  | _ => .err
theorem e_or (a b : Ex) : evE C (.or a b) ρ st = kBind (fOr C b ρ) (evE C a ρ st) := by rw [evE]; rfl
noncomputable def fNot (x : W) (s : Sto) : Res W := match x with
  | .p (.bl k) => .ok (.p (.bl (!k))) s
  | _ => .err
theorem e_not (a : Ex) : evE C (.not a) ρ st = kBind fNot (evE C a ρ st) := by rw [evE]; rfl
noncomputable def fIte (C : Call) (a b : Ex) (ρ : Nv) (k : Bool) (s : Sto) : Res W := match k with
  | true => evE C a ρ s
  | false => evE C b ρ s
theorem e_ite (t a b : Ex) : evE C (.ite t a b) ρ st = kBind (fIte C a b ρ) (evT C t ρ st) := by
  rw [evE]
  unfold kBind
  congr 1
  funext k s
  cases k <;> rfl
-- tests
noncomputable def fT (x : W) (s : Sto) : Res Bool := ofO s (truW s x)
noncomputable def isTst : Ex → Bool
  | .and _ _ => true
  | .or _ _ => true
  | .not _ => true
  | _ => false
theorem e_T (e : Ex) (h : isTst e = false) : evT C e ρ st = kBind fT (evE C e ρ st) := by
  cases e <;> first
    | (cases h; done)
    | (rw [evT.eq_def]; rfl)
theorem e_Tcmp (o : Cop) (a b : Ex) : evT C (.cmp o a b) ρ st = kBind fT (evE C (.cmp o a b) ρ st) := e_T _ rfl
theorem e_Tchn (o o' : Cop) (a b c : Ex) : evT C (.chn o o' a b c) ρ st = kBind fT (evE C (.chn o o' a b c) ρ st) := e_T _ rfl
theorem e_Tcal (m : Bool) (f : Nat) (es : Exs) : evT C (.cal m f es) ρ st = kBind fT (evE C (.cal m f es) ρ st) := e_T _ rfl
theorem e_Tbfn (b : Bfn) (es : Exs) : evT C (.bfn b es) ρ st = kBind fT (evE C (.bfn b es) ρ st) := e_T _ rfl
theorem e_Tvar (i : Nat) : evT C (.var i) ρ st = kBind fT (evE C (.var i) ρ st) := e_T _ rfl
theorem e_Tmth (c : Nat) (m : Str) (f : Nat) (o : Ex) (es : Exs) : evT C (.mth c m f o es) ρ st = kBind fT (evE C (.mth c m f o es) ρ st) := e_T _ rfl
theorem e_Tfld (c : Nat) (o : Ex) (f : Str) : evT C (.fld c o f) ρ st = kBind fT (evE C (.fld c o f) ρ st) := e_T _ rfl
theorem fT_bl (k : Bool) : fT (.p (.bl k)) st = .ok k st := rfl
noncomputable def fTAnd (C : Call) (b : Ex) (ρ : Nv) (k : Bool) (s : Sto) : Res Bool := match k with
  | true => evT C b ρ s
  | false => .ok false s
theorem e_Tand (a b : Ex) : evT C (.and a b) ρ st = kBind (fTAnd C b ρ) (evT C a ρ st) := by
  rw [evT]
  unfold kBind
  congr 1
  funext k s
  cases k <;> rfl
noncomputable def fTOr (C : Call) (b : Ex) (ρ : Nv) (k : Bool) (s : Sto) : Res Bool := match k with
  | true => .ok true s
  | false => evT C b ρ s
theorem e_Tor (a b : Ex) : evT C (.or a b) ρ st = kBind (fTOr C b ρ) (evT C a ρ st) := by
  rw [evT]
  unfold kBind
  congr 1
  funext k s
  cases k <;> rfl
noncomputable def fTNot (k : Bool) (s : Sto) : Res Bool := .ok (!k) s
theorem e_Tnot (a : Ex) : evT C (.not a) ρ st = kBind fTNot (evT C a ρ st) := by rw [evT]; rfl
-- lists of terms, displays
theorem e_esn : evEs C .nil ρ st = .ok [] st := by rw [evEs]
noncomputable def fEs2 (x : W) (xs : List W) (s : Sto) : Res (List W) := .ok (x :: xs) s
noncomputable def fEs1 (C : Call) (es : Exs) (ρ : Nv) (x : W) (s : Sto) : Res (List W) := kBind (fEs2 x) (evEs C es ρ s)
theorem e_esc (e : Ex) (es : Exs) : evEs C (.cons e es) ρ st = kBind (fEs1 C es ρ) (evE C e ρ st) := by rw [evEs]; rfl
noncomputable def kTup (s : Sto) : Option (List D) → Res W
  | some ds => if lenOk ds.length then .ok (.p (.tup ds)) s else .err
  | none => .err
noncomputable def fTup (ws : List W) (s : Sto) : Res W := kTup s (unW ws)
theorem e_tup (es : Exs) : evE C (.tup es) ρ st = kBind fTup (evEs C es ρ st) := by
  rw [evE]
  rfl
theorem kTup_some {ds : List D} (h : ds.length ≤ 1000) : kTup st (some ds) = .ok (.p (.tup ds)) st := by
  have : lenOk ds.length = true := by unfold lenOk; exact decide_eq_true (by omega)
  unfold kTup
  simp only [this, if_true]
noncomputable def oCons (d : D) : Option (List D) → Option (List D)
  | some ds => some (d :: ds)
  | none => none
theorem unW_nil : unW [] = some [] := rfl
theorem unW_cons (d : D) (ws : List W) : unW (.p d :: ws) = oCons d (unW ws) := by
  rw [unW]
  cases unW ws <;> rfl
theorem oCons_some (d : D) (ds : List D) : oCons d (some ds) = some (d :: ds) := rfl
noncomputable def kLst (s : Sto) : Option (List D) → Res W
  | some ds => .ok (.p (.lst ds)) s
  | none => .err
noncomputable def fLst (m : Bool) (ws : List W) (s : Sto) : Res W := if lenOk ws.length then (if m then newO (.lst ws) s else kLst s (unW ws)) else .err
theorem e_lst (m : Bool) (es : Exs) : evE C (.lst m es) ρ st = kBind (fLst m) (evEs C es ρ st) := by
  rw [evE]
  rfl
theorem fLst_f {ws : List W} (h : ws.length ≤ 1000) : fLst false ws st = kLst st (unW ws) := by
  have : lenOk ws.length = true := by unfold lenOk; exact decide_eq_true (by omega)
  unfold fLst
  simp only [this, if_true, Bool.false_eq_true, if_false]
theorem kLst_some (ds : List D) : kLst st (some ds) = .ok (.p (.lst ds)) st := rfl
-- o[i]
noncomputable def kO (s : Sto) : Option W → Res W
  | some w => .ok w s
  | none => .err
theorem kO_some (w : W) : kO st (some w) = .ok w st := rfl
noncomputable def fX2 (x : W) (y : W) (s : Sto) : Res W := kO s (ixW s x y)
noncomputable def fX1 (C : Call) (b : Ex) (ρ : Nv) (x : W) (s : Sto) : Res W := kBind (fX2 x) (evE C b ρ s)
theorem e_ix (a b : Ex) : evE C (.ix a b) ρ st = kBind (fX1 C b ρ) (evE C a ρ st) := by
  rw [evE]
  rfl
theorem ix_rl {n : Nat} {ws : List W} (h : st[n]? = some (.lst ws)) (j : Int) : ixW st (.r n) (.p (.int j)) = L2.atI ws j := by
  unfold ixW
  simp only [h]
theorem ix_tup (ds : List D) (j : Int) : ixW st (.p (.tup ds)) (.p (.int j)) = (L2.atI ds j).map W.p := rfl
theorem ix_lst (ds : List D) (j : Int) : ixW st (.p (.lst ds)) (.p (.int j)) = (L2.atI ds j).map W.p := rfl
theorem ix_scr (ns : List Int) (j : Int) : ixW st (.p (.scr ns)) (.p (.int j)) = (L2.atI (ns.map D.int) j).map W.p := rfl
theorem at_nat {α : Type} {xs : List α} {j : Int} {k : Nat} {x : α} (hj : j = (k : Nat)) (h : xs[k]? = some x) : L2.atI xs j = some x := by
  subst hj
  have hk := (List.getElem?_eq_some_iff.mp h).1
  unfold L2.atI L2.ixN
  rw [if_pos (by omega), if_pos (by omega)]
  show xs[(k : Int).toNat]? = some x
  rw [Int.toNat_natCast]; exact h
theorem at0 {α : Type} (a : α) (l : List α) : L2.atI (a :: l) 0 = some a := at_nat (k := 0) rfl rfl
theorem at1 {α : Type} (a b : α) (l : List α) : L2.atI (a :: b :: l) 1 = some b := at_nat (k := 1) rfl rfl
theorem at2 {α : Type} (a b c : α) (l : List α) : L2.atI (a :: b :: c :: l) 2 = some c := at_nat (k := 2) rfl rfl
theorem at_some {α : Type} {xs : List α} {j : Int} (h0 : 0 ≤ j) (h1 : j < (xs.length : Nat)) : ∃ x, x ∈ xs ∧ xs[j.toNat]? = some x ∧ L2.atI xs j = some x := by
  have hk : j.toNat < xs.length := by omega
  exact ⟨xs[j.toNat], List.getElem_mem hk, List.getElem?_eq_getElem hk, at_nat (k := j.toNat) (by omega) (List.getElem?_eq_getElem hk)⟩
-- calls
noncomputable def fCal (m : Bool) (C : Call) (f : Nat) (ws : List W) (s : Sto) : Res W := calM m C f ws s
theorem e_cal (m : Bool) (f : Nat) (es : Exs) : evE C (.cal m f es) ρ st = kBind (fCal m C f) (evEs C es ρ st) := by rw [evE]; rfl
theorem fCal_t (f : Nat) (ws : List W) : fCal true C f ws st = C f ws st := rfl
noncomputable def kImp : Option (W × Sto × List Nat) → Res W
  | some (w, s, _) => .ok w s
  | none => .err
/-- what comes back from a call that saw nothing of the store -/
noncomputable def kP (s : Sto) : Res W → Res W
  | .ok w s' => kImp (imp s' 0 6 w s [])
  | .exc c _ => .exc c s
  | .err => .err
theorem imp_p (s' : Sto) (m k : Nat) (d : D) (u : List Nat) : imp s' m k (.p d) st u = some (.p d, st, u) := by
  cases k <;> rw [imp]
theorem imps_p (s' : Sto) (m k : Nat) (u : List Nat) : ∀ ds : List D, imps s' m k (ds.map W.p) st u = some (ds.map W.p, st, u)
  | [] => by rw [List.map_nil, imps]
  | d :: r => by rw [List.map_cons, imps, imp_p]; simp only [imps_p s' m k u r]
theorem pick_p (k : Nat) : ∀ ds : List D, pick.go k (ds.map W.p) = some (ds.map W.p, [])
  | [] => rfl
  | d :: r => by rw [List.map_cons, pick.go, pick_p k r]; rfl
theorem back_nil (s' : Sto) : back st [] s' = some st := by cases s' <;> rfl
theorem cal_p (f : Nat) (ds : List D) : fCal false C f (ds.map W.p) st = kP st (C f (ds.map W.p) []) := by
  show calA C f (ds.map W.p) st = _
  unfold calA pick
  rw [pick_p 0 ds]
  simp only [List.nodup_nil, if_true, objs]
  cases C f (ds.map W.p) [] with
  | err => rfl
  | exc c s => simp only [back_nil]; rfl
  | ok w s =>
    simp only [back_nil, List.length_nil, kP, kImp] <;> rfl
theorem cal_p0 (f : Nat) : fCal false C f [] st = kP st (C f [] []) := cal_p f []
theorem cal_p1 (f : Nat) (a : D) : fCal false C f [.p a] st = kP st (C f [.p a] []) := cal_p f [a]
theorem cal_p2 (f : Nat) (a b : D) : fCal false C f [.p a, .p b] st = kP st (C f [.p a, .p b] []) := cal_p f [a, b]
theorem cal_p3 (f : Nat) (a b c : D) : fCal false C f [.p a, .p b, .p c] st = kP st (C f [.p a, .p b, .p c] []) := cal_p f [a, b, c]
theorem cal_p4 (f : Nat) (a b c d : D) : fCal false C f [.p a, .p b, .p c, .p d] st = kP st (C f [.p a, .p b, .p c, .p d] []) := cal_p f [a, b, c, d]
theorem kP_p (d : D) (s' : Sto) : kP st (.ok (.p d) s') = .ok (.p d) st := by
  show kImp (imp s' 0 6 (.p d) st []) = _
  rw [imp_p]
  rfl
/-- a list of values -/
theorem kP_l {j : Nat} {s' : Sto} {ds : List D} (h : s'[j]? = some (.lst (ds.map W.p))) : kP st (.ok (.r j) s') = .ok (.r st.length) (st ++ [.lst (ds.map W.p)]) := by
  show kImp (imp s' 0 6 (.r j) st []) = _
  rw [imp]
  simp only [Nat.not_lt_zero, decide_false, List.contains_nil, Bool.or_false, Bool.false_eq_true, if_false, h, imps_p]
  rfl
theorem kP_x (c : Nat) (s' : Sto) : kP st (.exc c s') = .exc c st := rfl
/-- .. that saw the thing n alone, at its place 0 -/
noncomputable def kQ (s : Sto) (n : Nat) : Res W → Res W
  | .ok w s' => match s' with
    | [] => .err
    | o :: _ => if o.flat then kImp (imp s' 1 6 w (s.set n o) []) else .err
  | .exc c s' => match s' with
    | [] => .err
    | o :: _ => if o.flat then .exc c (s.set n o) else .err
  | .err => .err
theorem cal_q {f n : Nat} {o : O} (h : st[n]? = some o) (hf : o.flat = true) {ws us : List W} (hp : pick.go 0 ws = some (us, [n])) : fCal false C f ws st = kQ st n (C f us [o]) := by
  show calA C f ws st = _
  unfold calA pick
  rw [hp]
  have hn : [n].Nodup := by simp
  simp only [hn, if_true, objs, h, hf]
  cases C f us [o] with
  | err => rfl
  | exc c s =>
    cases s with
    | nil => rfl
    | cons o s =>
      simp only [back, kQ]
      cases o.flat <;> rfl
  | ok w s =>
    cases s with
    | nil => rfl
    | cons o s =>
      simp only [back, kQ]
      cases o.flat with
      | false => rfl
      | true => rfl
theorem kQ_p {n : Nat} {o : O} (h : o.flat = true) (d : D) (s' : Sto) : kQ st n (.ok (.p d) (o :: s')) = .ok (.p d) (st.set n o) := by
  simp only [kQ, h, if_true, imp_p, kImp]
-- builtins
noncomputable def fBfn (b : Bfn) (ws : List W) (s : Sto) : Res W := bfnW b ws s
theorem e_bfn (b : Bfn) (es : Exs) : evE C (.bfn b es) ρ st = kBind (fBfn b) (evEs C es ρ st) := by rw [evE]; rfl
theorem b_len_lst (ds : List D) : fBfn .len [.p (.lst ds)] st = .ok (.p (.int (ds.length : Nat))) st := rfl
theorem b_len_tup (ds : List D) : fBfn .len [.p (.tup ds)] st = .ok (.p (.int (ds.length : Nat))) st := rfl
theorem b_len_scr (ns : List Int) : fBfn .len [.p (.scr ns)] st = .ok (.p (.int (ns.length : Nat))) st := by
  show resD st (some (.int ((ns.map D.int).length : Nat))) = _
  rw [List.length_map]; rfl
theorem b_int_bl (b : Bool) : fBfn .int [.p (.bl b)] st = .ok (.p (.int (if b then 1 else 0))) st := rfl
theorem b_int_int (i : Int) : fBfn .int [.p (.int i)] st = .ok (.p (.int i)) st := rfl
theorem b_isiInt_int (i : Int) : fBfn .isiInt [.p (.int i)] st = .ok (.p (.bl true)) st := rfl
theorem b_isiBool_int (i : Int) : fBfn .isiBool [.p (.int i)] st = .ok (.p (.bl false)) st := rfl
theorem b_isiInt_tup (x : List D) : fBfn .isiInt [.p (.tup x)] st = .ok (.p (.bl false)) st := rfl
theorem b_isiTup_tup (x : List D) : fBfn .isiTup [.p (.tup x)] st = .ok (.p (.bl true)) st := rfl
theorem b_isiTup_int (x : Int) : fBfn .isiTup [.p (.int x)] st = .ok (.p (.bl false)) st := rfl
theorem b_isiStr_str (x : Str) : fBfn .isiStr [.p (.str x)] st = .ok (.p (.bl true)) st := rfl
theorem b_isiLst_lst (x : List D) : fBfn .isiLst [.p (.lst x)] st = .ok (.p (.bl true)) st := rfl
theorem b_tupl_lst (x : List D) : fBfn .tupl [.p (.lst x)] st = .ok (.p (.tup x)) st := rfl
theorem b_max2 (i j : Int) : fBfn .max2 [.p (.int i), .p (.int j)] st = .ok (.p (.int (if j > i then j else i))) st := rfl
theorem b_min2 (i j : Int) : fBfn .min2 [.p (.int i), .p (.int j)] st = .ok (.p (.int (if j < i then j else i))) st := rfl
theorem allB_map (bs : List Bool) : allB (bs.map D.bl) = some bs := by
  induction bs with
  | nil => rfl
  | cons b r ih => rw [List.map_cons, allB, ih]; rfl
theorem b_all (bs : List Bool) : fBfn .all [.p (.lst (bs.map D.bl))] st = .ok (.p (.bl (bs.all id))) st := by
  show resD st ((allB (bs.map D.bl)).map fun bs => .bl (bs.all id)) = _
  rw [allB_map]; rfl
theorem b_any (bs : List Bool) : fBfn .any [.p (.lst (bs.map D.bl))] st = .ok (.p (.bl (bs.any id))) st := by
  show resD st ((allB (bs.map D.bl)).map fun bs => .bl (bs.any id)) = _
  rw [allB_map]; rfl
-- methods of lists
noncomputable def fM2 (b : Bmt) (x : W) (ws : List W) (s : Sto) : Res W := bmtW b x ws s
noncomputable def fM1 (C : Call) (b : Bmt) (es : Exs) (ρ : Nv) (x : W) (s : Sto) : Res W := if isLstR s x then kBind (fM2 b x) (evEs C es ρ s) else .err
theorem e_bmt (b : Bmt) (o : Ex) (es : Exs) : evE C (.bmt b o es) ρ st = kBind (fM1 C b es ρ) (evE C o ρ st) := by rw [evE]; rfl
theorem fM1_r {n : Nat} {xs : List W} (h : st[n]? = some (.lst xs)) (b : Bmt) (es : Exs) : fM1 C b es ρ (.r n) st = kBind (fM2 b (.r n)) (evEs C es ρ st) := by
  have : isLstR st (.r n) = true := by rw [isLstR, h]
  unfold fM1
  rw [if_pos this]
-- iterations
theorem e_iex (a : Ex) : evI C (.ex a) ρ st = kBind (fun x s => ofO s (iterW s x)) (evE C a ρ st) := by rw [evI]; rfl
theorem it_p (ds : List D) : iterW st (.p (.lst ds)) = some (.fix (ds.map W.p)) := rfl
theorem it_t (ds : List D) : iterW st (.p (.tup ds)) = some (.fix (ds.map W.p)) := rfl
theorem ofO_some {α : Type} (a : α) : ofO st (some a) = .ok a st := rfl
noncomputable def fR1 (x : W) (s : Sto) : Res Itv := match x with
  | .p (.int j) => if small62 j then .ok (.fix (rngL 0 j.toNat)) s else .err
  | _ => .err
theorem e_rng1 (a : Ex) : evI C (.rng1 a) ρ st = kBind fR1 (evE C a ρ st) := by rw [evI]; rfl
theorem fR1_int {j : Int} (h : small62 j = true) : fR1 (.p (.int j)) st = .ok (.fix (rngL 0 j.toNat)) st := by
  show (if small62 j then Res.ok (Itv.fix (rngL 0 j.toNat)) st else .err) = _
  rw [if_pos h]
-- flows
theorem s_nx (ss : Sms) : kSeq C ss (.ok (.nx, ρ) st) = evSs C ss ρ st := rfl
theorem s_rt (ss : Sms) (w : W) : kSeq C ss (.ok (.rt w, ρ) st) = .ok (.rt w, ρ) st := rfl
theorem s_bk (ss : Sms) : kSeq C ss (.ok (.bk, ρ) st) = .ok (.bk, ρ) st := rfl
theorem s_ct (ss : Sms) : kSeq C ss (.ok (.ct, ρ) st) = .ok (.ct, ρ) st := rfl
theorem s_xc (ss : Sms) (c : Nat) : kSeq C ss (.exc c st) = .exc c st := rfl
theorem r_rt (w : W) : kRun (.ok (.rt w, ρ) st) = .ok w st := rfl
theorem r_nx : kRun (.ok (.nx, ρ) st) = .ok (.p .non) st := rfl
theorem r_xc (c : Nat) : kRun (.exc c st) = .exc c st := rfl
theorem if_t (a b : Sms) : fIf C a b ρ true st = evSs C a ρ st := rfl
theorem if_f (a b : Sms) : fIf C a b ρ false st = evSs C b ρ st := rfl
theorem ite_t (a b : Ex) : fIte C a b ρ true st = evE C a ρ st := rfl
theorem ite_f (a b : Ex) : fIte C a b ρ false st = evE C b ρ st := rfl
noncomputable def kAnd (s : Sto) (k : Bool) (r : Res W) : Res W := match k with
  | true => r
  | false => .ok (.p (.bl false)) s
noncomputable def kOr (s : Sto) (k : Bool) (r : Res W) : Res W := match k with
  | true => .ok (.p (.bl true)) s
  | false => r
theorem and_b (b : Ex) (k : Bool) : fAnd C b ρ (.p (.bl k)) st = kAnd st k (evE C b ρ st) := by cases k <;> rfl
theorem or_b (b : Ex) (k : Bool) : fOr C b ρ (.p (.bl k)) st = kOr st k (evE C b ρ st) := by cases k <;> rfl
theorem kAnd_t (r : Res W) : kAnd st true r = r := rfl
theorem kAnd_f (r : Res W) : kAnd st false r = .ok (.p (.bl false)) st := rfl
theorem kOr_t (r : Res W) : kOr st true r = .ok (.p (.bl true)) st := rfl
theorem kOr_f (r : Res W) : kOr st false r = r := rfl
theorem kAnd_k (k m : Bool) : kAnd st k (.ok (.p (.bl m)) st) = .ok (.p (.bl (k && m))) st := by cases k <;> rfl
theorem kOr_k (k m : Bool) : kOr st k (.ok (.p (.bl m)) st) = .ok (.p (.bl (k || m))) st := by cases k <;> rfl
noncomputable def kAndT (s : Sto) (k : Bool) (r : Res Bool) : Res Bool := match k with
  | true => r
  | false => .ok false s
noncomputable def kOrT (s : Sto) (k : Bool) (r : Res Bool) : Res Bool := match k with
  | true => .ok true s
  | false => r
theorem tand_b (b : Ex) (k : Bool) : fTAnd C b ρ k st = kAndT st k (evT C b ρ st) := by cases k <;> rfl
theorem tor_b (b : Ex) (k : Bool) : fTOr C b ρ k st = kOrT st k (evT C b ρ st) := by cases k <;> rfl
theorem kAndT_t (r : Res Bool) : kAndT st true r = r := rfl
theorem kAndT_f (r : Res Bool) : kAndT st false r = .ok false st := rfl
theorem kOrT_t (r : Res Bool) : kOrT st true r = .ok true st := rfl
theorem kOrT_f (r : Res Bool) : kOrT st false r = r := rfl
theorem kAndT_k (k m : Bool) : kAndT st k (.ok m st) = .ok (k && m) st := by cases k <;> rfl
theorem kOrT_k (k m : Bool) : kOrT st k (.ok m st) = .ok (k || m) st := by cases k <;> rfl
theorem not_b (k : Bool) : fNot (.p (.bl k)) st = .ok (.p (.bl (!k))) st := rfl
theorem neg_i (i : Int) : fNeg (.p (.int i)) st = .ok (.p (.int (-i))) st := rfl
theorem h3_b (o' : Cop) (c : Ex) (y : W) (k : Bool) : fH3 C o' c y ρ st (some k) = kAnd st k (kBind (fC2 o' y) (evE C c ρ st)) := by cases k <;> rfl
theorem kNv_s : kNv st (some ρ) = .ok (.nx, ρ) st := rfl
theorem asgT_t (is : List Nat) (ds : List D) : fAsgT is ρ (.p (.tup ds)) st = kNv st (setTs is (ds.map W.p) ρ) := rfl
theorem kSt_s (s : Sto) : kSt ρ (some s) = .ok (.nx, ρ) s := rfl
theorem for_fix (tg : Tg) (b : Sms) (ws : List W) : fFor C tg b ρ (.fix ws) st = forLoop (turn C tg b) ws ρ st := rfl
theorem turn_nm (i : Nat) (b : Sms) (x : W) : turn C (.nm i) b x ρ st = evSs C b (ρ.set i (some x)) st := rfl
theorem for_nil (f : W → Nv → Sto → Res (Flow × Nv)) : forLoop f [] ρ st = .ok (.nx, ρ) st := rfl
noncomputable def kFor (f : W → Nv → Sto → Res (Flow × Nv)) (xs : List W) : Res (Flow × Nv) → Res (Flow × Nv)
  | .ok (.nx, ρ) s => forLoop f xs ρ s
  | .ok (.ct, ρ) s => forLoop f xs ρ s
  | .ok (.bk, ρ) s => .ok (.nx, ρ) s
  | .ok (.rt w, ρ) s => .ok (.rt w, ρ) s
  | .exc c s => .exc c s
  | .err => .err
theorem for_cons (f : W → Nv → Sto → Res (Flow × Nv)) (x : W) (xs : List W) : forLoop f (x :: xs) ρ st = kFor f xs (f x ρ st) := by
  rw [forLoop]
  cases f x ρ st with
  | ok o s => obtain ⟨g, r⟩ := o; cases g <;> rfl
  | exc c s => rfl
  | err => rfl
theorem kFor_nx (f : W → Nv → Sto → Res (Flow × Nv)) (xs : List W) : kFor f xs (.ok (.nx, ρ) st) = forLoop f xs ρ st := rfl
theorem kFor_bk (f : W → Nv → Sto → Res (Flow × Nv)) (xs : List W) : kFor f xs (.ok (.bk, ρ) st) = .ok (.nx, ρ) st := rfl
theorem map_w1 (d : D) (l : List D) : List.map W.p (d :: l) = W.p d :: List.map W.p l := rfl
theorem map_w0 : List.map W.p [] = [] := rfl
theorem omap_s {α β : Type} (f : α → β) (a : α) : Option.map f (some a) = some (f a) := rfl
theorem setTs_n : setTs [] [] ρ = some ρ := rfl
theorem setTs_c (i : Nat) (is : List Nat) (w : W) (ws : List W) : setTs (i :: is) (w :: ws) ρ = setTs is ws (ρ.set i (some w)) := rfl
/-- o[j] = v: a list of the store -/
theorem setW_l {n : Nat} {ws : List W} {j : Int} {k : Nat} {v : W} (h : st[n]? = some (.lst ws)) (hk : L2.ixN ws.length j = some k) : setW st (.r n) (.p (.int j)) v = some (st.set n (.lst (ws.set k v))) := by
  unfold setW
  simp only [h, hk, Option.map_some]
-- comprehensions
noncomputable def stp (C : Call) (ρ : Nv) (tg : Tg) (hc : Bool) (c e : Ex) : W → Sto → Res (Option W) := fun x st => match bindT tg x ρ with
  | some ρ' => if hc then (evT C c ρ' st).ne.bind fun k st => if k then (evE C e ρ' st).ne.bind fun w st => .ok (some w) st else .ok none st
    else (evE C e ρ' st).ne.bind fun w st => .ok (some w) st
  | none => .err
noncomputable def fLce (m : Bool) (acc : List W) (s : Sto) : Res W := if m then newO (.lst acc) s else kLst s (unW acc)
noncomputable def fLc (C : Call) (m : Bool) (tg : Tg) (hc : Bool) (c e : Ex) (ρ : Nv) (v : Itv) (s : Sto) : Res W := match v with
  | .fix ws => kBind (fLce m) (lcLoop (stp C ρ tg hc c e) ws [] s)
  | .dyn n => kBind (fLce m) (lcDyn (stp C ρ tg hc c e) n fuel 0 [] s)
theorem e_lc (m : Bool) (tg : Tg) (it : Iter) (hc : Bool) (c e : Ex) : evE C (.lc m tg it hc c e) ρ st = kBind (fLc C m tg hc c e ρ) (evI C it ρ st) := by
  rw [evE]
  rfl
theorem fLc_fix (m : Bool) (tg : Tg) (hc : Bool) (c e : Ex) (ws : List W) : fLc C m tg hc c e ρ (.fix ws) st = kBind (fLce m) (lcLoop (stp C ρ tg hc c e) ws [] st) := rfl
theorem fLce_f (acc : List W) : fLce false acc st = kLst st (unW acc) := rfl
theorem fLce_t (acc : List W) : fLce true acc st = .ok (.r st.length) (st ++ [.lst acc]) := rfl
noncomputable def kSome : Res W → Res (Option W)
  | .ok w s => .ok (some w) s
  | _ => .err
theorem stp_nm (i : Nat) (c e : Ex) (x : W) : stp C ρ (.nm i) false c e x st = kSome (evE C e (ρ.set i (some x)) st) := by
  show (evE C e (ρ.set i (some x)) st).ne.bind (fun w st => .ok (some w) st) = _
  cases evE C e (ρ.set i (some x)) st <;> rfl
theorem kSome_ok (w : W) : kSome (.ok w st) = .ok (some w) st := rfl
noncomputable def kIfs (C : Call) (e : Ex) (ρ : Nv) : Res Bool → Res (Option W)
  | .ok true s => kSome (evE C e ρ s)
  | .ok false s => .ok none s
  | _ => .err
theorem stp_nmc (i : Nat) (c e : Ex) (x : W) : stp C ρ (.nm i) true c e x st = kIfs C e (ρ.set i (some x)) (evT C c (ρ.set i (some x)) st) := by
  show (evT C c (ρ.set i (some x)) st).ne.bind _ = _
  cases evT C c (ρ.set i (some x)) st with
  | err => rfl
  | exc _ _ => rfl
  | ok k s =>
    cases k with
    | false => rfl
    | true =>
      show (evE C e (ρ.set i (some x)) s).ne.bind (fun w st => .ok (some w) st) = kSome (evE C e (ρ.set i (some x)) s)
      cases evE C e (ρ.set i (some x)) s <;> rfl
theorem kIfs_t (e : Ex) : kIfs C e ρ (.ok true st) = kSome (evE C e ρ st) := rfl
theorem kIfs_f (e : Ex) : kIfs C e ρ (.ok false st) = .ok none st := rfl
theorem lc_nil (f : W → Sto → Res (Option W)) (acc : List W) : lcLoop f [] acc st = .ok acc st := rfl
theorem lc_some {f : W → Sto → Res (Option W)} {x w : W} {s : Sto} {acc : List W} (h : f x st = .ok (some w) s) (ha : acc.length < 16777216) (xs : List W) : lcLoop f (x :: xs) acc st = lcLoop f xs (acc ++ [w]) s := by
  rw [lcLoop, h, bind_ok]
  simp only
  rw [if_pos (by rw [sizeLine_eq]; exact ha)]
theorem lc_none {f : W → Sto → Res (Option W)} {x : W} {s : Sto} (h : f x st = .ok none s) (acc xs : List W) : lcLoop f (x :: xs) acc st = lcLoop f xs acc s := by
  rw [lcLoop, h, bind_ok]
/-- nothing of the store changes -/
theorem lc_map {f : W → Sto → Res (Option W)} (g : W → W) : ∀ (xs acc : List W), (∀ x ∈ xs, f x st = .ok (some (g x)) st) → acc.length + xs.length ≤ 16777216 → lcLoop f xs acc st = .ok (acc ++ xs.map g) st
  | [], acc, _, _ => by rw [lc_nil]; simp
  | x :: xs, acc, h, hl => by
    rw [List.length_cons] at hl
    rw [lc_some (h x (List.mem_cons_self ..)) (by omega), lc_map g xs _ (fun y hy => h y (List.mem_cons_of_mem _ hy)) (by rw [List.length_append, List.length_singleton]; omega)]
    simp
theorem ints_depth : ∀ ns : List Int, PyData.depthAll (ns.map PyData.int) ≤ 1
  | [] => by simp [PyData.depthAll]
  | n :: r => by
    have := ints_depth r
    rw [List.map_cons]
    simp only [PyData.depthAll, PyData.depth] at this ⊢
    omega
/-- the script against [] -/
theorem eqW_scr0 (ns : List Int) : eqW st (.p (.scr ns)) (.p (.lst [])) = some (decide (ns = [])) := by
  have h1 : (PyData.list (ns.map PyData.int)).depth ≤ 64 := by
    have := ints_depth ns
    simp only [PyData.depth]
    omega
  show (if (PyData.list (ns.map PyData.int)).depth ≤ 64 ∧ (PyData.list []).depth ≤ 64 then some (PyData.eqv (.list (ns.map PyData.int)) (.list [])) else none) = _
  rw [if_pos ⟨h1, by simp [PyData.depth, PyData.depthAll]⟩]
  cases ns with
  | nil => rfl
  | cons n r => rfl
theorem nv0 (a : Option W) (l : List (Option W)) : (a :: l)[0]? = some a := rfl
theorem nvS (a : Option W) (l : List (Option W)) (n : Nat) : (a :: l)[n + 1]? = l[n]? := rfl
theorem so0 (a : O) (l : List O) : (a :: l)[0]? = some a := rfl
theorem soS (a : O) (l : List O) (n : Nat) : (a :: l)[n + 1]? = l[n]? := rfl
theorem nz0 (a b : Option W) (l : List (Option W)) : (a :: l).set 0 b = b :: l := rfl
theorem nzS (a b : Option W) (l : List (Option W)) (n : Nat) : (a :: l).set (n + 1) b = a :: l.set n b := rfl
theorem sz0 (a b : O) (l : List O) : (a :: l).set 0 b = b :: l := rfl
theorem szS (a b : O) (l : List O) (n : Nat) : (a :: l).set (n + 1) b = a :: l.set n b := rfl
theorem wz0 (a b : W) (l : List W) : (a :: l).set 0 b = b :: l := rfl
theorem wzS (a b : W) (l : List W) (n : Nat) : (a :: l).set (n + 1) b = a :: l.set n b := rfl
theorem n_t : (!true) = false := rfl
theorem n_f : (!false) = true := rfl
theorem x_t (b : Bool) : (b && true) = b := by cases b <;> rfl
theorem t_x (b : Bool) : (true && b) = b := rfl
theorem x_f (b : Bool) : (b && false) = false := by cases b <;> rfl
theorem f_x (b : Bool) : (false && b) = false := rfl
theorem x_t' (b : Bool) : (b || true) = true := by cases b <;> rfl
theorem t_x' (b : Bool) : (true || b) = true := rfl
theorem x_f' (b : Bool) : (b || false) = b := by cases b <;> rfl
theorem f_x' (b : Bool) : (false || b) = b := rfl
noncomputable def ev0 := (And.intro @e_nil (And.intro @e_cons (And.intro @k_ok (And.intro @k_exc (And.intro @e_exp (And.intro @e_asg (And.intro @e_asgT (And.intro @e_asgI (And.intro @e_ret (And.intro @e_retN (And.intro @e_ifs (And.intro @e_for (And.intro @e_brk (And.intro @e_cnt (And.intro @e_pas (And.intro @e_rai (And.intro @e_var (And.intro @kW_some (And.intro @e_con (And.intro @e_glo (And.intro @e_bin (And.intro @bin_add (And.intro @bin_sub (And.intro @e_neg (And.intro @kB_some (And.intro @e_cmp (And.intro @c_lt (And.intro @c_le (And.intro @c_gt (And.intro @c_ge (And.intro @c_eq @c_ne)))))))))))))))))))))))))))))))
noncomputable def ev1 := (And.intro @eqW_int (And.intro @eqW_str (And.intro @e_chn (And.intro @e_and (And.intro @e_or (And.intro @e_not (And.intro @e_ite (And.intro @e_Tcmp (And.intro @e_Tchn (And.intro @e_Tcal (And.intro @e_Tbfn (And.intro @e_Tvar (And.intro @e_Tmth (And.intro @e_Tfld (And.intro @fT_bl (And.intro @e_Tand (And.intro @e_Tor (And.intro @e_Tnot (And.intro @e_esn (And.intro @e_esc (And.intro @e_tup (And.intro @unW_nil (And.intro @unW_cons (And.intro @oCons_some (And.intro @e_lst (And.intro @kLst_some (And.intro @kO_some (And.intro @e_ix (And.intro @ix_tup (And.intro @ix_lst (And.intro @ix_scr @at0)))))))))))))))))))))))))))))))
noncomputable def ev2 := (And.intro @at1 (And.intro @at2 (And.intro @e_cal (And.intro @fCal_t (And.intro @cal_p0 (And.intro @cal_p1 (And.intro @cal_p2 (And.intro @cal_p3 (And.intro @cal_p4 (And.intro @kP_p (And.intro @kP_x (And.intro @e_bfn (And.intro @b_len_lst (And.intro @b_len_tup (And.intro @b_len_scr (And.intro @b_int_bl (And.intro @b_int_int (And.intro @b_isiInt_int (And.intro @b_isiBool_int (And.intro @b_isiInt_tup (And.intro @b_isiTup_tup (And.intro @b_isiTup_int (And.intro @b_isiStr_str (And.intro @b_isiLst_lst (And.intro @b_tupl_lst (And.intro @b_max2 (And.intro @b_min2 (And.intro @b_all (And.intro @b_any (And.intro @e_bmt (And.intro @e_rng1 @e_iex)))))))))))))))))))))))))))))))
noncomputable def ev3 := (And.intro @it_p (And.intro @it_t (And.intro @ofO_some (And.intro @s_nx (And.intro @s_rt (And.intro @s_bk (And.intro @s_ct (And.intro @s_xc (And.intro @r_rt (And.intro @r_nx (And.intro @r_xc (And.intro @if_t (And.intro @if_f (And.intro @ite_t (And.intro @ite_f (And.intro @and_b (And.intro @or_b (And.intro @kAnd_t (And.intro @kAnd_f (And.intro @kOr_t (And.intro @kOr_f (And.intro @kAnd_k (And.intro @kOr_k (And.intro @tand_b (And.intro @tor_b (And.intro @kAndT_t (And.intro @kAndT_f (And.intro @kOrT_t (And.intro @kOrT_f (And.intro @kAndT_k (And.intro @kOrT_k @not_b)))))))))))))))))))))))))))))))
noncomputable def ev4 := (And.intro @neg_i (And.intro @h3_b (And.intro @kNv_s (And.intro @asgT_t (And.intro @kSt_s (And.intro @for_fix (And.intro @turn_nm (And.intro @map_w1 (And.intro @map_w0 (And.intro @omap_s (And.intro @setTs_n (And.intro @setTs_c (And.intro @fExp.eq_1 (And.intro @fAsg.eq_1 (And.intro @fRet.eq_1 (And.intro @fB1.eq_1 (And.intro @fB2.eq_1 (And.intro @fC1.eq_1 (And.intro @fC2.eq_1 (And.intro @fX1.eq_1 (And.intro @fX2.eq_1 (And.intro @fEs1.eq_1 (And.intro @fEs2.eq_1 (And.intro @fH1.eq_1 (And.intro @fH2.eq_1 (And.intro @fI0.eq_1 (And.intro @fI1.eq_1 (And.intro @fI2.eq_1 (And.intro @fTup.eq_1 (And.intro @fTNot.eq_1 (And.intro @nv0 @nvS)))))))))))))))))))))))))))))))
noncomputable def ev5 := (And.intro @so0 (And.intro @soS (And.intro @nz0 (And.intro @nzS (And.intro @sz0 (And.intro @szS (And.intro @wz0 (And.intro @wzS (And.intro @n_t (And.intro @n_f (And.intro @x_t (And.intro @t_x (And.intro @x_f (And.intro @f_x (And.intro @x_t' (And.intro @t_x' (And.intro @x_f' (And.intro @f_x' (And.intro @e_lc (And.intro @fLc_fix (And.intro @fLce_f (And.intro @fLce_t (And.intro @stp_nm (And.intro @kSome_ok (And.intro @stp_nmc (And.intro @kIfs_t (And.intro @kIfs_f @eqW_scr0)))))))))))))))))))))))))))
end T

set_option maxRecDepth 100000
set_option maxHeartbeats 4000000
/-! T: membership among texts, equality of truths, slices -/
namespace T
open PySem
variable {C : Call} {ρ : Nv} {st : Sto}
theorem c_in (x y : W) : cmpW st .isin x y = inW st x y := rfl
theorem c_notin (x y : W) : cmpW st .notin x y = (inW st x y).map (!·) := rfl
theorem strs_py : ∀ ws : List Str, toPys (ws.map D.str) = some (ws.map PyData.str)
  | [] => rfl
  | w :: r => by rw [List.map_cons, toPys, strs_py r]; rfl
theorem any_str (w : Str) : ∀ ws : List Str, ((ws.map PyData.str).any fun z => PyData.eqv z (.str w)) = ws.any fun z => decide (z = w)
  | [] => rfl
  | z :: r => by
    rw [List.map_cons, List.any_cons, List.any_cons, any_str w r]
    have e : PyData.eqv (.str z) (.str w) = decide (z = w) := by
      simp only [PyData.eqv]
      by_cases h : z = w <;> simp [h]
    rw [e]
theorem in_items {c : D} {ws : List Str} (w : Str) (h : toPy c = some (.tuple (ws.map PyData.str)) ∨ toPy c = some (.list (ws.map PyData.str))) : inDat st (.p (.str w)) (.p c) = some (ws.any fun z => decide (z = w)) := by
  unfold inDat
  have e1 : pyW st 4 (.p (.str w)) = some (.str w) := rfl
  rcases h with h | h
  · have e2 : pyW st 4 (.p c) = some (.tuple (ws.map PyData.str)) := h
    simp only [e1, e2, itemsPy]
    rw [if_pos (by simp [PyData.depth]), any_str]
  · have e2 : pyW st 4 (.p c) = some (.list (ws.map PyData.str)) := h
    simp only [e1, e2, itemsPy]
    rw [if_pos (by simp [PyData.depth]), any_str]
theorem in_tup (w : Str) (ws : List Str) : inW st (.p (.str w)) (.p (.tup (ws.map D.str))) = some (ws.any fun z => decide (z = w)) :=
  in_items (c := .tup (ws.map D.str)) w (.inl (by rw [toPy, strs_py]; rfl))
theorem in_ctup (w : Str) (ws : List Str) : inW st (.p (.str w)) (.p (.ctup (ws.map D.str))) = some (ws.any fun z => decide (z = w)) :=
  in_items (c := .ctup (ws.map D.str)) w (.inl (by rw [toPy, strs_py]; rfl))
theorem in_lst (w : Str) (ws : List Str) : inW st (.p (.str w)) (.p (.lst (ws.map D.str))) = some (ws.any fun z => decide (z = w)) :=
  in_items (c := .lst (ws.map D.str)) w (.inr (by rw [toPy, strs_py]; rfl))
theorem eqW_bl (a b : Bool) : eqW st (.p (.bl a)) (.p (.bl b)) = some (decide (a = b)) := by
  show (if (PyData.bool a).depth ≤ 64 ∧ (PyData.bool b).depth ≤ 64 then some (PyData.eqv (.bool a) (.bool b)) else none) = _
  have e : PyData.eqv (.bool a) (.bool b) = decide (a = b) := by
    simp only [PyData.eqv]
    by_cases h : a = b <;> simp [h]
  rw [if_pos ⟨by simp [PyData.depth], by simp [PyData.depth]⟩, e]
theorem c_isB (a b : Bool) : cmpW st .isB (.p (.bl a)) (.p (.bl b)) = some (decide (a = b)) := rfl
theorem c_notB (a b : Bool) : cmpW st .notB (.p (.bl a)) (.p (.bl b)) = some (!decide (a = b)) := rfl
theorem b_isiBool_bl (b : Bool) : fBfn .isiBool [.p (.bl b)] st = .ok (.p (.bl true)) st := rfl
-- slices
noncomputable def fS3 (d : W) (l : Option Int) (u : Option Int) (s : Sto) : Res W := match vw s d with
  | some d => resD s (sliD l u d)
  | none => .err
noncomputable def fS2 (C : Call) (hi : Opt) (ρ : Nv) (d : W) (l : Option Int) (s : Sto) : Res W := kBind (fS3 d l) (evO C hi ρ s)
noncomputable def fS1 (C : Call) (lo hi : Opt) (ρ : Nv) (d : W) (s : Sto) : Res W := kBind (fS2 C hi ρ d) (evO C lo ρ s)
theorem e_sli (a : Ex) (lo hi : Opt) : evE C (.sli a lo hi) ρ st = kBind (fS1 C lo hi ρ) (evE C a ρ st) := by rw [evE]; rfl
theorem e_on : evO C .none ρ st = .ok none st := by rw [evO]
noncomputable def fO (x : W) (s : Sto) : Res (Option Int) := match x with
  | .p (.int i) => .ok (some i) s
  | _ => .err
theorem e_os (e : Ex) : evO C (.some e) ρ st = kBind fO (evE C e ρ st) := by rw [evO]; rfl
theorem fO_i (i : Int) : fO (.p (.int i)) st = .ok (some i) st := rfl
theorem fS3_t (ds : List D) (l u : Option Int) : fS3 (.p (.tup ds)) l u st = .ok (.p (.tup (cutL ds l u))) st := rfl
theorem fS3_l (ds : List D) (l u : Option Int) : fS3 (.p (.lst ds)) l u st = .ok (.p (.lst (cutL ds l u))) st := rfl
theorem bin_tup {x y : List D} (h : x.length + y.length ≤ 1000000) : bin .add (.p (.tup x)) (.p (.tup y)) st = .ok (.p (.tup (x ++ y))) st := by
  have : lenOk (x.length + y.length) = true := by unfold lenOk; exact decide_eq_true (by omega)
  show resD st (if lenOk (x.length + y.length) then some (D.tup (x ++ y)) else none) = _
  rw [if_pos this]; rfl
theorem bin_lst {x y : List D} (h : x.length + y.length ≤ 1000000) : bin .add (.p (.lst x)) (.p (.lst y)) st = .ok (.p (.lst (x ++ y))) st := by
  have : lenOk (x.length + y.length) = true := by unfold lenOk; exact decide_eq_true (by omega)
  show resD st (if lenOk (x.length + y.length) then some (D.lst (x ++ y)) else none) = _
  rw [if_pos this]; rfl
-- range(a, b)
noncomputable def fR2b (x y : W) (s : Sto) : Res Itv := match x, y with
  | .p (.int i), .p (.int j) => if small62 i && small62 j then .ok (.fix (rngL i (j - i).toNat)) s else .err
  | _, _ => .err
noncomputable def fR2 (C : Call) (b : Ex) (ρ : Nv) (x : W) (s : Sto) : Res Itv := kBind (fR2b x) (evE C b ρ s)
theorem e_rng2 (a b : Ex) : evI C (.rng2 a b) ρ st = kBind (fR2 C b ρ) (evE C a ρ st) := by rw [evI]; rfl
theorem fR2b_int {i j : Int} (h1 : small62 i = true) (h2 : small62 j = true) : fR2b (.p (.int i)) (.p (.int j)) st = .ok (.fix (rngL i (j - i).toNat)) st := by
  show (if small62 i && small62 j then Res.ok (Itv.fix (rngL i (j - i).toNat)) st else .err) = _
  rw [h1, h2]; rfl
-- l.extend(..)
theorem m_extend {n : Nat} {xs : List W} {ds : List D} (h : st[n]? = some (.lst xs)) (hl : xs.length + ds.length ≤ 1000000) : fM2 .extend (.r n) [.p (.lst ds)] st = .ok (.p .non) (st.set n (.lst (xs ++ ds.map W.p))) := by
  show bmtW .extend (.r n) [.p (.lst ds)] st = _
  unfold bmtW
  have : lenOk (xs.length + (ds.map W.p).length) = true := by unfold lenOk; rw [List.length_map]; exact decide_eq_true (by omega)
  simp only [h, bmtL, lstW]
  rw [if_pos this]
noncomputable def ew := And.intro @c_in (And.intro @c_notin (And.intro @in_tup (And.intro @in_ctup (And.intro @in_lst (And.intro @eqW_bl (And.intro @c_isB (And.intro @c_notB (And.intro @b_isiBool_bl (And.intro @e_sli (And.intro @e_on (And.intro @e_os (And.intro @fO_i (And.intro @fS3_t (And.intro @fS3_l (And.intro @e_rng2 (And.intro @fS1.eq_1 (And.intro @fS2.eq_1 @fR2.eq_1)))))))))))))))))
end T

set_option maxRecDepth 100000
set_option maxHeartbeats 4000000
/-! T: evaluation of reversed, index, enumerate, zip, while; ints in lists; equality of values -/
namespace T
open PySem L2
section
variable {C : Call} {ρ : Nv} {st : Sto}
noncomputable def fRev (m : Bool) (x : W) (s : Sto) : Res W := match lstW s x with
  | some ws => if m then newO (.lst ws.reverse) s else match unW ws with
    | some ds => .ok (.p (.lst ds.reverse)) s
    | none => .err
  | none => .err
theorem e_rev (m : Bool) (a : Ex) : evE C (.rev m a) ρ st = kBind (fRev m) (evE C a ρ st) := by rw [evE]; rfl
noncomputable def fIdx2 (ds : List D) (y : W) (s : Sto) : Res W := match y with
  | .p (.bl t) => match allB ds with
    | some bs => if t ∈ bs then .ok (.p (.int (bs.idxOf t : Nat))) s else .err
    | none => .err
  | .p (.int i) => match allI ds with
    | some ns => if i ∈ ns then .ok (.p (.int (ns.idxOf i : Nat))) s else .err
    | none => .err
  | _ => .err
noncomputable def fIdx1 (C : Call) (b : Ex) (ρ : Nv) (x : W) (s : Sto) : Res W := match x with
  | .p (.lst ds) => kBind (fIdx2 ds) (evE C b ρ s)
  | _ => .err
theorem e_idx (a b : Ex) : evE C (.idx a b) ρ st = kBind (fIdx1 C b ρ) (evE C a ρ st) := by
  rw [evE]
  rfl
theorem idx_l (ds : List D) (b : Ex) : fIdx1 C b ρ (.p (.lst ds)) st = kBind (fIdx2 ds) (evE C b ρ st) := rfl
theorem allI_map (ns : List Int) : allI (ns.map D.int) = some ns := by
  induction ns with
  | nil => rfl
  | cons n r ih => rw [List.map_cons, allI, ih]; rfl
noncomputable def fAdd2 (x y : W) (s : Sto) : Res W := match lstW s x, lstW s y with
  | some xs, some ys => if lenOk (xs.length + ys.length) then newO (.lst (xs ++ ys)) s else .err
  | _, _ => .err
noncomputable def fAdd1 (C : Call) (b : Ex) (ρ : Nv) (x : W) (s : Sto) : Res W := kBind (fAdd2 x) (evE C b ρ s)
theorem e_addM (a b : Ex) : evE C (.addM a b) ρ st = kBind (fAdd1 C b ρ) (evE C a ρ st) := by rw [evE]; rfl
noncomputable def fEnu (x : W) (s : Sto) : Res Itv := match x with
  | .p (.lst ds) => .ok (.fix ((enuL 0 ds).map W.p)) s
  | _ => .err
theorem e_enu (a : Ex) : evI C (.enu a) ρ st = kBind fEnu (evE C a ρ st) := by rw [evI]; rfl
theorem enu_k (ds : List D) : fEnu (.p (.lst ds)) st = .ok (.fix ((enuL 0 ds).map W.p)) st := rfl
noncomputable def fEnuT (x : W) (s : Sto) : Res Itv := match x with
  | .p (.tup ds) => .ok (.fix ((enuL 0 ds).map W.p)) s
  | _ => .err
theorem e_enuT (a : Ex) : evI C (.enuT a) ρ st = kBind fEnuT (evE C a ρ st) := by rw [evI]; rfl
theorem enuT_k (ds : List D) : fEnuT (.p (.tup ds)) st = .ok (.fix ((enuL 0 ds).map W.p)) st := rfl
noncomputable def fZ2 (x y : W) (s : Sto) : Res Itv := match x, y with
  | .p (.lst xs), .p (.lst ys) => .ok (.fix ((zipL xs ys).map W.p)) s
  | .p (.tup xs), .p (.tup ys) => .ok (.fix ((zipL xs ys).map W.p)) s
  | .p (.ctup xs), .p (.tup ys) => .ok (.fix ((zipL xs ys).map W.p)) s
  | _, _ => .err
noncomputable def fZ1 (C : Call) (b : Ex) (ρ : Nv) (x : W) (s : Sto) : Res Itv := kBind (fZ2 x) (evE C b ρ s)
theorem e_zip (a b : Ex) : evI C (.zip a b) ρ st = kBind (fZ1 C b ρ) (evE C a ρ st) := by rw [evI]; rfl
theorem zip_l (xs ys : List D) : fZ2 (.p (.lst xs)) (.p (.lst ys)) st = .ok (.fix ((zipL xs ys).map W.p)) st := rfl
theorem turn_t2 (i j : Nat) (b : Sms) (x y : D) : turn C (.tup [i, j]) b (.p (.tup [x, y])) ρ st = evSs C b ((ρ.set i (some (.p x))).set j (some (.p y))) st := rfl
theorem stp_2 (i j : Nat) (c e : Ex) (a b : D) : stp C ρ (.tup [i, j]) false c e (.p (.tup [a, b])) st = kSome (evE C e ((ρ.set i (some (.p a))).set j (some (.p b))) st) := by
  show (evE C e ((ρ.set i (some (.p a))).set j (some (.p b))) st).ne.bind (fun w st => .ok (some w) st) = _
  cases evE C e ((ρ.set i (some (.p a))).set j (some (.p b))) st <;> rfl
-- values that become such
theorem frz_l {n : Nat} {ds : List D} (h : st[n]? = some (.lst (ds.map W.p))) : frzW st (.r n) = some (.p (.lst ds), st.set n .dead) := by
  unfold frzW
  simp only [h, frzO, unW_map, Option.map_some]
noncomputable def fFz (x : W) (s : Sto) : Res W := match frzW s x with
  | some (w, s) => .ok w s
  | none => .err
theorem e_fz (a : Ex) : evE C (.frz a) ρ st = kBind fFz (evE C a ρ st) := by rw [evE]; rfl
theorem fFz_l {n : Nat} {ds : List D} (h : st[n]? = some (.lst (ds.map W.p))) : fFz (.r n) st = .ok (.p (.lst ds)) (st.set n .dead) := by
  unfold fFz
  rw [frz_l h]
-- isinstance, len, max, sum
theorem b_sum (ns : List Int) : fBfn .sum [.p (.lst (ns.map D.int))] st = .ok (.p (.int ns.sum)) st := by
  show resD st ((allI (ns.map D.int)).map fun ns => D.int ns.sum) = _
  rw [allI_map]
  rfl
-- ints in lists and tuples
theorem ints_py : ∀ ns : List Int, toPys (ns.map D.int) = some (ns.map PyData.int)
  | [] => rfl
  | w :: r => by rw [List.map_cons, toPys, ints_py r]; rfl
theorem any_int (w : Int) : ∀ ws : List Int, ((ws.map PyData.int).any fun z => PyData.eqv z (.int w)) = decide (w ∈ ws)
  | [] => by simp
  | z :: r => by
    rw [List.map_cons, List.any_cons, any_int w r]
    have e : PyData.eqv (.int z) (.int w) = decide (z = w) := by
      simp only [PyData.eqv]
      by_cases h : z = w <;> simp [h]
    rw [e]
    by_cases h : z = w
    · subst h; simp
    · have h' : ¬ w = z := fun q => h q.symm
      rw [decide_eq_false h, Bool.false_or]
      simp only [List.mem_cons, h', false_or]
theorem in_intsD {c : D} {ws : List Int} (w : Int) (h : toPy c = some (.tuple (ws.map PyData.int)) ∨ toPy c = some (.list (ws.map PyData.int))) : inDat st (.p (.int w)) (.p c) = some (decide (w ∈ ws)) := by
  unfold inDat
  have e1 : pyW st 4 (.p (.int w)) = some (.int w) := rfl
  rcases h with h | h
  · have e2 : pyW st 4 (.p c) = some (.tuple (ws.map PyData.int)) := h
    simp only [e1, e2, itemsPy]
    rw [if_pos (by simp [PyData.depth]), any_int]
  · have e2 : pyW st 4 (.p c) = some (.list (ws.map PyData.int)) := h
    simp only [e1, e2, itemsPy]
    rw [if_pos (by simp [PyData.depth]), any_int]
theorem inI_tup (w : Int) (ws : List Int) : inW st (.p (.int w)) (.p (.tup (ws.map D.int))) = some (decide (w ∈ ws)) :=
  in_intsD (c := .tup (ws.map D.int)) w (.inl (by rw [toPy, ints_py]; rfl))
theorem inI_lst (w : Int) (ws : List Int) : inW st (.p (.int w)) (.p (.lst (ws.map D.int))) = some (decide (w ∈ ws)) :=
  in_intsD (c := .lst (ws.map D.int)) w (.inr (by rw [toPy, ints_py]; rfl))
-- equality
theorem eqW_refl {d : D} {e : PyData} (h : toPy d = some e) (hd : e.depth ≤ 64) (hp : e.plain = true) : eqW st (.p d) (.p d) = some true := by
  have e1 : pyW st 4 (.p d) = some e := h
  unfold eqW
  simp only [e1]
  rw [if_pos ⟨hd, hd⟩, PySem.SeqAt.eqv_refl_plain e hp]
theorem eqI_nil (ns : List Int) : eqW st (.p (.lst (ns.map D.int))) (.p (.lst [])) = some (decide (ns = [])) := by
  have e1 : pyW st 4 (.p (.lst (ns.map D.int))) = some (.list (ns.map PyData.int)) := by
    show toPy (.lst (ns.map D.int)) = _
    rw [toPy, ints_py]; rfl
  have e2 : pyW st 4 (.p (.lst [])) = some (.list []) := rfl
  have h1 : (PyData.list (ns.map PyData.int)).depth ≤ 64 := by
    have := ints_depth ns
    simp only [PyData.depth]
    omega
  unfold eqW
  simp only [e1, e2]
  rw [if_pos ⟨h1, by simp [PyData.depth, PyData.depthAll]⟩]
  cases ns with
  | nil => rfl
  | cons n r => rfl
-- while
theorem whl_t {t : Nv → Sto → Res Bool} {b : Nv → Sto → Res (T.Flow × Nv)} {k : Nat} {ρ' : Nv} {st1 st' : Sto} (ht : t ρ st = .ok true st1) (hb : b ρ st1 = .ok (.nx, ρ') st') : whlLoop t b (k + 1) ρ st = whlLoop t b k ρ' st' := by
  rw [whlLoop, ht, bind_ok]
  simp only [if_true]
  rw [hb, bind_ok]
theorem whl_f {t : Nv → Sto → Res Bool} {b : Nv → Sto → Res (T.Flow × Nv)} {k : Nat} {st1 : Sto} (ht : t ρ st = .ok false st1) : whlLoop t b (k + 1) ρ st = .ok (.nx, ρ) st1 := by
  rw [whlLoop, ht, bind_ok]
  simp only [Bool.false_eq_true, if_false]
theorem fuel_eq (n : Nat) (h : n < 1000000000) : ∃ k, fuel = n + 1 + k := ⟨fuel - (n + 1), by unfold fuel; omega⟩
end
/-- a comprehension of ints over values -/
theorem lc_ints {f : W → Sto → Res (Option W)} {st : Sto} {α : Type} (I : α → D) (B : α → Int) : ∀ (ds : List α) (acc : List W), (∀ d ∈ ds, f (.p (I d)) st = .ok (some (.p (.int (B d)))) st) → acc.length + ds.length ≤ 1000000 →
    lcLoop f ((ds.map I).map W.p) acc st = .ok (acc ++ ((ds.map B).map D.int).map W.p) st
  | [], acc, _, _ => by rw [List.map_nil, List.map_nil, lc_nil]; show _ = Res.ok (acc ++ []) st; rw [List.append_nil]
  | d :: ds, acc, h, hl => by
    rw [List.length_cons] at hl
    rw [List.map_cons, List.map_cons, lc_some (h d (List.mem_cons_self ..)) (by omega), lc_ints I B ds _ (fun x hx => h x (List.mem_cons_of_mem _ hx)) (by rw [List.length_append, List.length_singleton]; omega), List.append_assoc]
    rfl
/-- .. with a condition, the value itself -/
theorem lc_filt {f : W → Sto → Res (Option W)} {st : Sto} {α : Type} (I : α → D) (B : α → Bool) (J : α → D) : ∀ (ds : List α) (acc : List W), (∀ d ∈ ds, f (.p (I d)) st = .ok (if B d = true then some (.p (J d)) else none) st) → acc.length + ds.length ≤ 1000000 →
    lcLoop f ((ds.map I).map W.p) acc st = .ok (acc ++ ((ds.filter B).map J).map W.p) st
  | [], acc, _, _ => by rw [List.map_nil, List.map_nil, lc_nil]; show _ = Res.ok (acc ++ []) st; rw [List.append_nil]
  | d :: ds, acc, h, hl => by
    rw [List.length_cons] at hl
    have hd := h d (List.mem_cons_self ..)
    rw [List.map_cons, List.map_cons]
    by_cases q : B d = true
    · rw [if_pos q] at hd
      rw [lc_some hd (by omega), lc_filt I B J ds _ (fun x hx => h x (List.mem_cons_of_mem _ hx)) (by rw [List.length_append, List.length_singleton]; omega), List.append_assoc, List.filter_cons_of_pos q]
      rfl
    · rw [if_neg q] at hd
      rw [lc_none hd, lc_filt I B J ds acc (fun x hx => h x (List.mem_cons_of_mem _ hx)) (by omega), List.filter_cons_of_neg q]
-- a call to which things are lent
theorem vw_l {st : Sto} {n : Nat} {ds : List D} (h : st[n]? = some (.lst (ds.map W.p))) : vw st (.r n) = some (.lst ds) := by
  show (match st[n]? with
    | some (.lst ws) => (unW ws).map D.lst
    | some (.dic kvs) => (unK kvs).map D.dic
    | some (.dit kvs) => (unK kvs).map D.dit
    | some (.ldk kvs) => (unK kvs).map D.dic
    | some (.ldt kvs) => (unK kvs).map D.dit
    | _ => none) = _
  rw [h]
  simp only [unW_map, Option.map_some]
theorem vws_n {st : Sto} : vws st [] = some [] := by rw [vws]
theorem vws_c {st : Sto} {w : W} {ws : List W} {d : D} {ds : List D} (h1 : vw st w = some d) (h2 : vws st ws = some ds) : vws st (w :: ws) = some (d :: ds) := by rw [vws]; simp only [h1, h2]
noncomputable def ex := And.intro @e_rev (And.intro @e_idx (And.intro @idx_l (And.intro @e_addM (And.intro @e_enu (And.intro @enu_k (And.intro @e_enuT (And.intro @enuT_k (And.intro @e_zip (And.intro @zip_l (And.intro @turn_t2 (And.intro @stp_2 (And.intro @e_fz (And.intro @b_sum (And.intro @inI_tup (And.intro @inI_lst (And.intro @eqI_nil (And.intro @e_whl (And.intro @fAdd1.eq_1 @fZ1.eq_1))))))))))))))))))
end T

set_option maxRecDepth 100000
set_option maxHeartbeats 4000000
/-! T: evaluation of instances: fields, methods, making -/
namespace T
open PySem
section
variable {C : Call} {ρ : Nv} {st : Sto}
noncomputable def fFld (c : Nat) (f : Str) (x : W) (s : Sto) : Res W := match fldW s c x f with
  | some w => .ok w s
  | none => .err
theorem e_fld (c : Nat) (a : Ex) (f : Str) : evE C (.fld c a f) ρ st = kBind (fFld c f) (evE C a ρ st) := by rw [evE]; rfl
theorem fld_k {c n : Nat} {fs : List (Str × W)} {f : Str} {w : W} (h : st[n]? = some (.ins c fs)) (hl : fs.lookup f = some w) : fFld c f (.r n) st = .ok w st := by
  unfold fFld fldW
  simp only [h, if_true, hl]
noncomputable def fMth2 (C : Call) (f : Nat) (x : W) (ws : List W) (s : Sto) : Res W := C f (x :: ws) s
noncomputable def fMth1 (C : Call) (c : Nat) (m : Str) (f : Nat) (es : Exs) (ρ : Nv) (x : W) (s : Sto) : Res W := if isIns s c m x then kBind (fMth2 C f x) (evEs C es ρ s) else .err
theorem e_mth (c : Nat) (m : Str) (f : Nat) (o : Ex) (es : Exs) : evE C (.mth c m f o es) ρ st = kBind (fMth1 C c m f es ρ) (evE C o ρ st) := by rw [evE]; rfl
theorem mth_k {c n : Nat} {fs : List (Str × W)} {m : Str} {f : Nat} {es : Exs} (h : st[n]? = some (.ins c fs)) (hl : fs.lookup m = none) : fMth1 C c m f es ρ (.r n) st = kBind (fMth2 C f (.r n)) (evEs C es ρ st) := by
  unfold fMth1 isIns
  simp only [h, hl, Option.isNone_none, decide_true, Bool.and_self, if_true]
theorem mth2 (f : Nat) (x : W) (ws : List W) : fMth2 C f x ws st = C f (x :: ws) st := rfl
noncomputable def fMak (C : Call) (c f : Nat) (ws : List W) (s : Sto) : Res W := makW C c f ws s
theorem e_mak (c f : Nat) (es : Exs) : evE C (.mak c f es) ρ st = kBind (fMak C c f) (evEs C es ρ st) := by rw [evE]; rfl
theorem mak_k {c f : Nat} {ws : List W} {s' : Sto} (h : C f (.r st.length :: ws) (st ++ [.ins c []]) = .ok (.p .non) s') : fMak C c f ws st = .ok (.r st.length) s' := by
  unfold fMak makW
  simp only [h]
noncomputable def fAF2 (c : Nat) (f : Str) (v : W) (ρ : Nv) (x : W) (s : Sto) : Res (T.Flow × Nv) := kSt ρ (setF s c x f v)
noncomputable def fAF1 (C : Call) (c : Nat) (o : Ex) (f : Str) (ρ : Nv) (v : W) (s : Sto) : Res (T.Flow × Nv) := kBind (fAF2 c f v ρ) (evE C o ρ s)
theorem e_asgF (c : Nat) (o : Ex) (f : Str) (e : Ex) : evS C (.asgF c o f e) ρ st = kBind (fAF1 C c o f ρ) (evE C e ρ st) := by rw [evS.eq_def]; rfl
theorem setF_k {c n : Nat} {fs : List (Str × W)} {f : Str} {v : W} (h : st[n]? = some (.ins c fs)) (hl : fs.length < 1000) : fAF2 c f v ρ (.r n) st = .ok (.nx, ρ) (st.set n (.ins c (putFW f v fs))) := by
  unfold fAF2 setF
  simp only [h]
  rw [if_pos ⟨trivial, hl⟩]
  rfl
theorem c_isN_non : cmpW st .isN (.p .non) (.p .non) = some true := rfl
theorem c_isN_int (i : Int) : cmpW st .isN (.p (.int i)) (.p .non) = some false := rfl
theorem c_notN_non : cmpW st .notN (.p .non) (.p .non) = some false := rfl
theorem c_notN_int (i : Int) : cmpW st .notN (.p (.int i)) (.p .non) = some true := rfl
end
/-! sorted(set(..)), count -/
noncomputable def fSst (m : Bool) (x : W) (s : Sto) : Res W := match vw s x with
  | some d => match (itemsD d).bind allI with
    | some ns => if decide (ns.length < 4000) && decide ((setI ns).length < 64) then (if m then newO (.lst ((setI ns).map fun i => W.p (.int i))) s else .ok (.p (.lst ((setI ns).map D.int))) s) else .err
    | none => .err
  | none => .err
theorem e_sst {C : Call} {ρ : Nv} {st : Sto} (m : Bool) (a : Ex) : evE C (.sst m a) ρ st = kBind (fSst m) (evE C a ρ st) := by rw [evE]; rfl
noncomputable def ey := And.intro @e_fld (And.intro @e_mth (And.intro @mth2 (And.intro @e_mak (And.intro @e_asgF (And.intro @c_isN_non (And.intro @c_isN_int (And.intro @c_notN_non (And.intro @c_notN_int (And.intro @fAF1.eq_1 (And.intro @e_sst @e_asgF))))))))))
end T

set_option maxRecDepth 100000
set_option maxHeartbeats 4000000
/-! T: evaluation: downward ranges, sorted, members of a list in the store -/
namespace T
open PySem
section
variable {C : Call} {ρ : Nv} {st : Sto}
theorem mapM_py (ds : List D) (k : Nat) : ((ds.map W.p).mapM (pyW st k)) = toPys ds := by
  induction ds with
  | nil => rfl
  | cons d ds ih =>
    rw [List.map_cons, List.mapM_cons, ih, show pyW st k (.p d) = toPy d by cases k <;> rfl, toPys]
    cases toPy d with
    | none => rfl
    | some e => cases toPys ds <;> rfl
-- slices that are made anew
-- the place in a list of the store
end
end T

set_option maxRecDepth 100000
set_option maxHeartbeats 4000000
/-! T: repr, evaluated; how long a text may be -/
namespace T
open PySem
section
variable {C : Call} {ρ : Nv} {st : Sto}
noncomputable def fRpr (x : W) (s : Sto) : Res W := match pyW s 4 x with
  | some e => if rprOk e then .ok (.p (.str e.shown)) s else .err
  | none => .err
/-- shown in so many signs -/
noncomputable def Shd (n k : Nat) (d : D) : Prop := ∃ e, toPy d = some e ∧ e.showable = true ∧ e.hasDict = false ∧ e.depth ≤ k ∧ e.shown.length ≤ n
theorem Shd.mono {n m k j : Nat} {d : D} (h : Shd n k d) (hn : n ≤ m) (hk : k ≤ j) : Shd m j d := by
  obtain ⟨e, h1, h2, h3, h4, h5⟩ := h
  exact ⟨e, h1, h2, h3, by omega, by omega⟩
theorem shds {k : Nat} : ∀ {ds : List D} {ns : List Nat}, ds.length = ns.length → (∀ x ∈ ds.zip ns, Shd x.2 k x.1) → ∃ es, toPys ds = some es ∧ PyData.showableAll es = true ∧ PyData.hasDictAll es = false ∧ PyData.depthAll es ≤ k ∧ piled (PyData.shownAll es) ≤ ns.sum + 2 * ds.length
  | [], [], _, _ => ⟨[], rfl, rfl, rfl, by simp [PyData.depthAll], by simp [PyData.shownAll, piled]⟩
  | [], _ :: _, h, _ => by cases h
  | _ :: _, [], h, _ => by cases h
  | d :: ds, n :: ns, hl, h => by
    obtain ⟨e, h1, h2, h3, h4, h5⟩ := h (d, n) List.mem_cons_self
    obtain ⟨es, g1, g2, g3, g4, g5⟩ := shds (ds := ds) (ns := ns) (by simpa using hl) fun x hx => h x (List.mem_cons_of_mem _ hx)
    refine ⟨e :: es, by rw [toPys]; simp only [h1, g1], by simp [PyData.showableAll, h2, g2], by simp [PyData.hasDictAll, h3, g3], ?_, ?_⟩
    · simp only [PyData.depthAll]; omega
    · rw [PyData.shownAll, piled_cons, List.sum_cons, List.length_cons]
      have h5 : e.shown.length ≤ n := h5
      omega
theorem join_le (ts : List Str) : (Str.join ", " ts).length ≤ piled ts := by
  by_cases h : ts = []
  · subst h; decide +kernel
  · have := join_length_add ts h; omega
theorem shd_tup {k : Nat} {ds : List D} {ns : List Nat} (hl : ds.length = ns.length) (h : ∀ x ∈ ds.zip ns, Shd x.2 k x.1) : Shd (ns.sum + 2 * ds.length + 3) (k + 1) (.tup ds) := by
  obtain ⟨es, g1, g2, g3, g4, g5⟩ := shds hl h
  refine ⟨.tuple es, by rw [toPy, g1]; rfl, g2, g3, by simp only [PyData.depth]; omega, ?_⟩
  show (tupleText (PyData.shownAll es)).length ≤ _
  have j := join_le (PyData.shownAll es)
  unfold tupleText
  rw [strLen_append, strLen_append]
  have e1 : (("(" : String) : Str).length = 1 := by decide +kernel
  have e2 : ∀ b : Bool, ((if b = true then ",)" else ")" : String) : Str).length ≤ 2 := fun b => by cases b <;> decide +kernel
  have e2' := e2 ((PyData.shownAll es).length == 1)
  omega
theorem sum_rep (n m : Nat) : (List.replicate m n).sum = m * n := by
  induction m with
  | zero => simp
  | succ m ih => rw [List.replicate_succ, List.sum_cons, ih, Nat.succ_mul]; omega
theorem zip_rep {α : Type} {n : Nat} : ∀ (m : Nat) (ds : List α), ∀ x ∈ ds.zip (List.replicate m n), x.1 ∈ ds ∧ x.2 = n := fun m ds x hx => by
  have h := List.of_mem_zip (a := x.1) (b := x.2) hx
  exact ⟨h.1, List.eq_of_mem_replicate h.2⟩
/-- all alike -/
theorem shd_tupN {n k m : Nat} {ds : List D} (h : ∀ d ∈ ds, Shd n k d) (hm : ds.length ≤ m) : Shd (m * (n + 2) + 3) (k + 1) (.tup ds) := by
  refine (shd_tup (k := k) (ns := List.replicate ds.length n) (by simp) fun x hx => ?_).mono ?_ (Nat.le_refl _)
  · obtain ⟨a, b⟩ := zip_rep _ _ x hx
    rw [b]; exact h _ a
  · rw [sum_rep]
    have := Nat.mul_le_mul_right (n + 2) hm
    rw [Nat.mul_add] at this
    omega
/-- a list or tuple that is shown: some text, always the same -/
theorem rpr_k {n : Nat} {d : D} (h : Shd n 60 d) (hn : n ≤ 16000000) (hd : (∃ ds, d = .tup ds) ∨ ∃ ds, d = .lst ds) : ∃ z : Str, ∀ st : Sto, fRpr (.p d) st = .ok (.p (.str z)) st := by
  obtain ⟨e, h1, h2, h3, h4, h5⟩ := h
  refine ⟨e.shown, fun st => ?_⟩
  have p : pyW st 4 (.p d) = some e := h1
  have disp : isDsp e = true := by
    rcases hd with ⟨ds, rfl⟩ | ⟨ds, rfl⟩
    · rw [toPy] at h1
      cases q : toPys ds with
      | none => rw [q] at h1; cases h1
      | some es => rw [q] at h1; cases h1; rfl
    · rw [toPy] at h1
      cases q : toPys ds with
      | none => rw [q] at h1; cases h1
      | some es => rw [q] at h1; cases h1; rfl
  have ok : rprOk e = true := by
    unfold rprOk
    rw [disp, h2, h3, decide_eq_true (show e.depth ≤ 60 from h4), decide_eq_true (show e.shown.length ≤ sizeLine by rw [sizeLine_eq]; omega)]
    rfl
  unfold fRpr
  simp only [p, ok, if_true]
end
end T

set_option maxRecDepth 100000
set_option maxHeartbeats 4000000
/-! T: try, isinstance of what was caught, count and index of truths, worked out -/
namespace T
open PySem
variable {C : Call} {ρ : Nv} {st : Sto}
end T

/-! T: walks over the keys of a dict, exceptions as values: worked out -/
set_option maxRecDepth 100000
set_option maxHeartbeats 4000000
namespace T
open PySem
variable {C : Call} {ρ : Nv} {st : Sto}
/-- behind the look at the dict -/
noncomputable def kKeys (f : List W → Sto → Res (Flow × Nv)) (st : Sto) : Option (List W) → Res (Flow × Nv)
  | some ws => f ws st
  | none => .err
noncomputable def kLock (C : Call) (a : Ex) (f : List W → Sto → Res (Flow × Nv)) (ρ : Nv) (st : Sto) : Option (Nat × O) → Res (Flow × Nv)
  | some (n, o) => unlk n (kBind (fun x s => kKeys f s (keysR n s x)) (evE C a ρ (st.set n o)))
  | none => .err
theorem e_forK (tg : Tg) (a : Ex) (b : Sms) : evS C (.forK tg a b) ρ st = kLock C a (fun ws s => forLoop (turn C tg b) ws ρ s) ρ st (lockW st (evE C a ρ st)) := by
  rw [evS]
  cases lockW st (evE C a ρ st) with
  | none => rfl
  | some x =>
    obtain ⟨n, o⟩ := x
    show unlk n _ = unlk n _
    congr 1
theorem unlk_ok {α : Type} {n : Nat} {a : α} {s : Sto} {o o' : O} (h : s[n]? = some o) (hu : unlockO o = some o') : unlk n (.ok a s) = .ok a (s.set n o') := by
  unfold unlk
  simp only [h, Option.bind_some, hu]
/-- a for over the keys of a dict -/
theorem forK_k {tg : Tg} {a : Ex} {b : Sms} {n : Nat} {o l : O} {ws : List W} {r : Flow × Nv} {s s1 s2 : Sto} {o2 l2 : O} (h1 : evE C a ρ st = .ok (.r n) s) (h2 : st[n]? = some o) (h3 : lockO o = some l) (h4 : evE C a ρ (st.set n l) = .ok (.r n) s1) (h5 : s1[n]? = some l) (h6 : keysO l = some ws)
    (h7 : forLoop (turn C tg b) ws ρ s1 = .ok r s2) (h8 : s2[n]? = some l2) (h9 : unlockO l2 = some o2) : evS C (.forK tg a b) ρ st = .ok r (s2.set n o2) := by
  rw [e_forK, h1]
  have e : lockW st (.ok (.r n) s) = some (n, l) := by
    unfold lockW
    simp only [h2, Option.bind_some, h3, Option.map_some]
  rw [e]
  show unlk n (kBind _ (evE C a ρ (st.set n l))) = _
  rw [h4, k_ok]
  have e2 : keysR n s1 (.r n) = some ws := by
    unfold keysR isR
    simp only [decide_true, if_true, h5, Option.bind_some, h6]
  rw [e2]
  show unlk n (forLoop (turn C tg b) ws ρ s1) = _
  rw [h7, unlk_ok h8 h9]
/-- a comprehension over the keys of a dict -/
theorem lcK_k {m hc : Bool} {tg : Tg} {a c e : Ex} {n : Nat} {o l : O} {ws acc : List W} {s s1 s2 : Sto} {r : W} {s3 : Sto} {o2 l2 : O} (h1 : evE C a ρ st = .ok (.r n) s) (h2 : st[n]? = some o) (h3 : lockO o = some l) (h4 : evE C a ρ (st.set n l) = .ok (.r n) s1) (h5 : s1[n]? = some l) (h6 : keysO l = some ws)
    (h7 : lcLoop (stp C ρ tg hc c e) ws [] s1 = .ok acc s2) (hr : fLce m acc s2 = .ok r s3) (h8 : s3[n]? = some l2) (h9 : unlockO l2 = some o2) : evE C (.lcK m tg a hc c e) ρ st = .ok r (s3.set n o2) := by
  rw [evE, h1]
  have e1 : lockW st (.ok (.r n) s) = some (n, l) := by
    unfold lockW
    simp only [h2, Option.bind_some, h3, Option.map_some]
  rw [e1]
  simp only
  rw [h4, bind_ok]
  have e2 : keysR n s1 (.r n) = some ws := by
    unfold keysR isR
    simp only [decide_true, if_true, h5, Option.bind_some, h6]
  rw [e2]
  simp only
  have hr' : (if m then newO (.lst acc) s2 else match unW acc with
          | some ds => .ok (.p (.lst ds)) s2
          | none => .err) = .ok r s3 := by
    refine Eq.trans ?_ hr
    unfold fLce
    cases m
    · simp only [Bool.false_eq_true, if_false]
      cases unW acc <;> rfl
    · rfl
  have fin : (lcLoop (stp C ρ tg hc c e) ws [] s1).bind (fun acc st => if m then newO (.lst acc) st else match unW acc with
          | some ds => .ok (.p (.lst ds)) st
          | none => .err) = .ok r s3 := by rw [h7, bind_ok, hr']
  have fin2 := unlk_ok (a := r) h8 h9
  rw [← fin] at fin2
  exact fin2
end T

set_option maxRecDepth 100000
set_option maxHeartbeats 4000000
namespace My
open PySem T
-- class 4: Gathering
/-- 0: is_count 0=thing -/
noncomputable def b0 : Sms := (.cons (.ret (.and (.bfn .isiInt (.cons (.var 0) .nil)) (.and (.not (.bfn .isiBool (.cons (.var 0) .nil))) (.cmp .ge (.var 0) (.con (.int 0)))))) .nil)
/-- 1: is_word_of 0=gates 1=thing -/
noncomputable def b1 : Sms := (.cons (.ifs (.bfn .isiTup (.cons (.var 1) .nil)) (.cons (.ret (.and (.cmp .eq (.bfn .len (.cons (.var 1) .nil)) (.con (.int 2))) (.and (.bfn .isiStr (.cons (.ix (.var 1) (.con (.int 0))) .nil)) (.and (.cmp .eq (.ix (.var 1) (.con (.int 0))) (.con (.str "without"))) (.cal false 2 (.cons (.var 0) (.cons (.ix (.var 1) (.con (.int 1))) .nil))))))) .nil) .nil) (.cons (.ret (.and (.bfn .isiInt (.cons (.var 1) .nil)) (.not (.bfn .isiBool (.cons (.var 1) .nil))))) .nil))
/-- 2: is_gate 0=gates 1=thing -/
noncomputable def b2 : Sms := (.cons (.ret (.and (.cal false 0 (.cons (.var 1) .nil)) (.cmp .lt (.var 1) (.var 0)))) .nil)
/-- 3: are_words 0=gates 1=thing 2=word -/
noncomputable def b3 : Sms := (.cons (.ifs (.or (.not (.bfn .isiTup (.cons (.var 1) .nil))) (.cmp .gt (.bfn .len (.cons (.var 1) .nil)) (.glo "MOST_WORDS" (.int 8)))) (.cons (.ret (.con (.bl false))) .nil) .nil) (.cons (.ret (.bfn .all (.cons (.lc false (.nm 2) (.ex (.var 1)) false (.con .non) (.cal false 1 (.cons (.var 0) (.cons (.var 2) .nil)))) .nil))) .nil))
/-- 4: Gathering.__init__ 0=self 1=gates -/
noncomputable def b4 : Sms := (.cons (.ifs (.or (.not (.cal false 0 (.cons (.var 1) .nil))) (.not (.chn .le .le (.con (.int 1)) (.var 1) (.glo "MOST_GATES" (.int 5))))) (.cons (.rai 2) .nil) .nil) (.cons (.asgF 4 (.var 0) "gates" (.var 1)) (.cons (.asgF 4 (.var 0) "lists" (.dnw true)) .nil)))
/-- 5: Gathering.come 0=self 1=gate 2=number 3=words -/
noncomputable def b5 : Sms := (.cons (.ifs (.not (.cal false 2 (.cons (.fld 4 (.var 0) "gates") (.cons (.var 1) .nil)))) (.cons (.rai 2) .nil) .nil) (.cons (.ifs (.or (.not (.cal false 0 (.cons (.var 2) .nil))) (.not (.cal false 3 (.cons (.fld 4 (.var 0) "gates") (.cons (.var 3) .nil))))) (.cons (.rai 3) .nil) .nil) (.cons (.ifs (.cmp .isin (.tup (.cons (.var 1) (.cons (.var 2) .nil))) (.fld 4 (.var 0) "lists")) (.cons (.rai 1) .nil) .nil) (.cons (.asgI (.fld 4 (.var 0) "lists") (.tup (.cons (.var 1) (.cons (.var 2) .nil))) (.var 3)) .nil))))
/-- 6: Gathering.walk 0=self 1=order 2=number 3=left 4=words 5=gate 6=out 7=turn 8=word -/
noncomputable def b6_1 : Sms := (.cons (.exp (.bmt .extend (.var 4) (.cons (.lc false (.nm 8) (.ex (.ix (.fld 4 (.var 0) "lists") (.tup (.cons (.var 5) (.cons (.var 2) .nil))))) false (.con .non) (.tup (.cons (.var 5) (.cons (.var 2) (.cons (.var 8) .nil))))) .nil))) .nil)
noncomputable def b6_0 : Sms := (.cons (.asg 4 (.lst true .nil)) (.cons (.forr (.nm 5) (.ex (.var 3)) b6_1) (.cons (.exp (.bmt .extend (.var 1) (.cons (.var 4) .nil))) (.cons (.fzv 4) (.cons (.asg 6 (.lc false (.tup [5, 7, 8]) (.ex (.var 4)) true (.bfn .isiTup (.cons (.var 8) .nil)) (.ix (.var 8) (.con (.int 1))))) (.cons (.asg 3 (.lc false (.nm 5) (.ex (.var 3)) true (.cmp .notin (.var 5) (.var 6)) (.var 5))) (.cons (.asg 2 (.bin .add (.var 2) (.con (.int 1)))) .nil)))))))
noncomputable def b6 : Sms := (.cons (.asg 1 (.lst true .nil)) (.cons (.asg 2 (.con (.int 0))) (.cons (.asg 3 (.rgl false false (.fld 4 (.var 0) "gates"))) (.cons (.whl (.and (.cmp .ne (.var 3) (.lst false .nil)) (.bfn .all (.cons (.lc false (.nm 5) (.ex (.var 3)) false (.con .non) (.cmp .isin (.tup (.cons (.var 5) (.cons (.var 2) .nil))) (.fld 4 (.var 0) "lists"))) .nil))) b6_0) (.cons (.ret (.tupM (.cons (.var 1) (.cons (.var 2) .nil)))) .nil)))))
/-- 7: Gathering.order 0=self -/
noncomputable def b7 : Sms := (.cons (.ret (.ix (.mth 4 "walk" 6 (.var 0) .nil) (.con (.int 0)))) .nil)
/-- 8: Gathering.known 0=self -/
noncomputable def b8 : Sms := (.cons (.ret (.ix (.mth 4 "walk" 6 (.var 0) .nil) (.con (.int 1)))) .nil)
/-- 9: _law_e_mill 0=cell 1=at 2=fine 3=coarse 4=flour -/
noncomputable def b9 : Sms := (.cons (.ifs (.cmp .ge (.var 0) (.bin .pow (.con (.int 10)) (.con (.int 18)))) (.cons (.ret (.var 0)) .nil) .nil) (.cons (.asg 2 (.bin .mod (.bin .add (.bin .add (.bin .mul (.bin .mod (.var 0) (.con (.int 2147483579))) (.con (.int 25173))) (.bin .mul (.var 1) (.con (.int 13849)))) (.con (.int 101))) (.con (.int 2147483563)))) (.cons (.asg 3 (.bin .mod (.bin .add (.bin .add (.bin .add (.bin .mul (.var 2) (.var 2)) (.bin .mul (.bin .mul (.con (.int 733)) (.var 1)) (.var 1))) (.bin .mul (.con (.int 17)) (.var 2))) (.con (.int 5))) (.con (.int 2147483549)))) (.cons (.asg 4 (.bin .mod (.bin .add (.bin .add (.bin .add (.bin .mul (.var 3) (.var 3)) (.bin .mul (.con (.int 1291)) (.var 3))) (.var 2)) (.var 1)) (.con (.int 2147483543)))) (.cons (.ret (.bin .add (.bin .mul (.var 3) (.con (.int 2147483543))) (.var 4))) .nil)))))
/-- 10: _law_e_grain 0=sack 1=many 2=found 3=at 4=cell -/
noncomputable def b10 : Sms := (.cons (.ifs (.cmp .lt (.ix (.var 0) (.con (.int 2))) (.var 1)) (.cons (.asg 3 (.ix (.var 0) (.con (.int 1)))) (.cons (.asg 4 (.bin .add (.bin .mul (.con (.int 7)) (.var 3)) (.con (.int 3)))) (.cons (.ifs (.cmp .lt (.var 3) (.bfn .len (.cons (.ix (.var 0) (.con (.int 0))) .nil))) (.cons (.asg 4 (.ix (.ix (.var 0) (.con (.int 0))) (.var 3))) .nil) (.cons (.ifs (.cmp .gt (.bfn .len (.cons (.ix (.var 0) (.con (.int 0))) .nil)) (.con (.int 0))) (.cons (.asg 4 (.bin .add (.bin .mod (.ix (.ix (.var 0) (.con (.int 0))) (.bin .mod (.bin .add (.bin .mul (.con (.int 3)) (.var 3)) (.con (.int 1))) (.bfn .len (.cons (.ix (.var 0) (.con (.int 0))) .nil)))) (.con (.int 777777773))) (.bin .mul (.var 3) (.con (.int 4000000))))) .nil) .nil) .nil)) (.cons (.asgI (.var 0) (.con (.int 1)) (.bin .add (.var 3) (.con (.int 1)))) (.cons (.asgI (.var 0) (.con (.int 2)) (.cal false 9 (.cons (.var 4) (.cons (.var 3) .nil)))) .nil))))) .nil) (.cons (.asg 2 (.bin .mod (.ix (.var 0) (.con (.int 2))) (.var 1))) (.cons (.asgI (.var 0) (.con (.int 2)) (.bin .fdiv (.ix (.var 0) (.con (.int 2))) (.var 1))) (.cons (.ret (.var 2)) .nil))))
/-- 11: _law_e_plain 0=sack 1=turn -/
noncomputable def b11 : Sms := (.cons (.ret (.bfn .tupl (.cons (.lc false (.nm 1) (.rng1 (.cal false 10 (.cons (.var 0) (.cons (.con (.int 4)) .nil)))) false (.con .non) (.bin .sub (.cal false 10 (.cons (.var 0) (.cons (.con (.int 50)) .nil))) (.con (.int 9)))) .nil))) .nil)
/-- 12: _law_e_told 0=gates 1=lists 2=gathering 3=gate 4=number -/
noncomputable def b12_0 : Sms := (.cons (.exp (.mth 4 "come" 5 (.var 2) (.cons (.var 3) (.cons (.var 4) (.cons (.ix (.var 1) (.tup (.cons (.var 3) (.cons (.var 4) .nil)))) .nil))))) .nil)
noncomputable def b12 : Sms := (.cons (.asg 2 (.mak 4 4 (.cons (.var 0) .nil))) (.cons (.forK (.tup [3, 4]) (.var 1) b12_0) (.cons (.ret (.tup (.cons (.frz (.mth 4 "order" 7 (.var 2) .nil)) (.cons (.mth 4 "known" 8 (.var 2) .nil) .nil)))) .nil)))
/-- 13: _law_e_due 0=gates 1=lists 2=rounds_here 3=at 4=out 5=found 6=known 7=number 8=left 9=gate 10=word -/
noncomputable def b13_1 : Sms := (.cons (.asg 5 (.bin .add (.var 5) (.lc false (.nm 10) (.ex (.ix (.var 1) (.tup (.cons (.var 9) (.cons (.var 7) .nil))))) false (.con .non) (.tup (.cons (.var 9) (.cons (.var 7) (.cons (.var 10) .nil))))))) .nil)
noncomputable def b13_0 : Sms := (.cons (.asg 8 (.lc false (.nm 9) (.rng1 (.var 0)) true (.or (.cmp .le (.var 7) (.var 3)) (.cmp .notin (.var 9) (.var 4))) (.var 9))) (.cons (.forr (.nm 9) (.ex (.var 8)) b13_1) (.cons (.asg 6 (.bin .add (.var 6) (.bfn .int (.cons (.cmp .ne (.var 8) (.lst false .nil)) .nil)))) .nil)))
noncomputable def b13 : Sms := (.cons (.asg 5 (.lst false .nil)) (.cons (.asg 6 (.con (.int 0))) (.cons (.forr (.nm 7) (.rng1 (.var 2)) b13_0) (.cons (.ret (.tup (.cons (.var 5) (.cons (.var 6) .nil)))) .nil))))
/-- 14: law 0=script 1=sack 2=k 3=gates 4=rounds_here 5=lists 6=number 7=at 8=out 9=some 10=gate 11=left 12=due 13=bare 14=other 15=one -/
noncomputable def b14_6 : Sms := (.cons (.ifs (.cmp .ne (.cal false 12 (.cons (.var 3) (.cons (.var 15) .nil))) (.var 12)) (.cons (.ret (.con (.bl false))) .nil) .nil) .nil)
noncomputable def b14_5 : Sms := (.cons (.ifs (.cmp .eq (.cal false 10 (.cons (.var 1) (.cons (.con (.int 2)) .nil))) (.con (.int 0))) (.cons (.asgI (.var 14) (.tup (.cons (.var 10) (.cons (.var 6) .nil))) (.bin .add (.cal false 11 (.cons (.var 1) .nil)) (.tup (.cons (.tup (.cons (.con (.str "without")) (.cons (.cal false 10 (.cons (.var 1) (.cons (.var 3) .nil))) .nil))) .nil)))) .nil) .nil) .nil)
noncomputable def b14_4 : Sms := (.cons (.forr (.nm 6) (.rng2 (.bin .add (.var 7) (.con (.int 1))) (.bin .add (.var 4) (.con (.int 2)))) b14_5) .nil)
noncomputable def b14_3 : Sms := (.cons (.exp (.bmt .insert (.var 9) (.cons (.cal false 10 (.cons (.var 1) (.cons (.bin .add (.bfn .len (.cons (.var 9) .nil)) (.con (.int 1))) .nil))) (.cons (.tup (.cons (.con (.str "without")) (.cons (.var 10) .nil))) .nil)))) .nil)
noncomputable def b14_2 : Sms := (.cons (.asgI (.var 5) (.tup (.cons (.var 10) (.cons (.var 6) .nil))) (.cal false 11 (.cons (.var 1) .nil))) .nil)
noncomputable def b14_1 : Sms := (.cons (.forr (.nm 10) (.rng1 (.var 3)) b14_2) .nil)
noncomputable def b14_0 : Sms := (.cons (.ifs (.and (.cmp .gt (.var 2) (.con (.int 1))) (.cmp .ge (.ix (.var 1) (.con (.int 1))) (.bfn .len (.cons (.var 0) .nil)))) (.cons .brk .nil) .nil) (.cons (.asg 3 (.bin .add (.con (.int 2)) (.cal false 10 (.cons (.var 1) (.cons (.con (.int 4)) .nil))))) (.cons (.asg 4 (.bin .add (.con (.int 1)) (.cal false 10 (.cons (.var 1) (.cons (.con (.int 6)) .nil))))) (.cons (.asg 5 (.dnw true)) (.cons (.forr (.nm 6) (.rng1 (.var 4)) b14_1) (.cons (.asg 7 (.cal false 10 (.cons (.var 1) (.cons (.var 4) .nil)))) (.cons (.asg 8 (.lc false (.nm 10) (.rng1 (.var 3)) true (.cmp .gt (.cal false 10 (.cons (.var 1) (.cons (.con (.int 3)) .nil))) (.con (.int 0))) (.var 10))) (.cons (.ifs (.cmp .eq (.var 8) (.lst false .nil)) (.cons (.asg 8 (.lst false (.cons (.cal false 10 (.cons (.var 1) (.cons (.var 3) .nil))) .nil))) .nil) .nil) (.cons (.asg 9 (.bfn .lstM (.cons (.ix (.var 5) (.tup (.cons (.cal false 10 (.cons (.var 1) (.cons (.var 3) .nil))) (.cons (.var 7) .nil)))) .nil))) (.cons (.forr (.nm 10) (.ex (.var 8)) b14_3) (.cons (.asgI (.var 5) (.tup (.cons (.cal false 10 (.cons (.var 1) (.cons (.var 3) .nil))) (.cons (.var 7) .nil))) (.bfn .tupl (.cons (.var 9) .nil))) (.cons (.asg 11 (.lc false (.nm 10) (.rng1 (.var 3)) true (.cmp .notin (.var 10) (.var 8)) (.var 10))) (.cons (.ifs (.and (.cmp .ne (.var 11) (.lst false .nil)) (.cmp .lt (.bin .add (.var 7) (.con (.int 1))) (.var 4))) (.cons (.asg 15 (.tup (.cons (.ix (.var 11) (.cal false 10 (.cons (.var 1) (.cons (.bfn .len (.cons (.var 11) .nil)) .nil)))) (.cons (.bin .add (.bin .add (.var 7) (.con (.int 1))) (.cal false 10 (.cons (.var 1) (.cons (.bin .sub (.bin .sub (.var 4) (.var 7)) (.con (.int 1))) .nil)))) .nil)))) (.cons (.asgI (.var 5) (.var 15) (.bin .add (.ix (.var 5) (.var 15)) (.tup (.cons (.tup (.cons (.con (.str "without")) (.cons (.ix (.var 8) (.con (.int 0))) .nil))) .nil)))) .nil)) .nil) (.cons (.asg 12 (.cal false 13 (.cons (.var 3) (.cons (.var 5) (.cons (.var 4) (.cons (.var 7) (.cons (.var 8) .nil))))))) (.cons (.asg 13 (.dcT (.lcK false (.nm 15) (.var 5) true (.or (.cmp .le (.ix (.var 15) (.con (.int 1))) (.var 7)) (.cmp .notin (.ix (.var 15) (.con (.int 0))) (.var 8))) (.tup (.cons (.var 15) (.cons (.ix (.var 5) (.var 15)) .nil)))))) (.cons (.asg 14 (.dcT (.var 13))) (.cons (.forr (.nm 10) (.ex (.var 8)) b14_4) (.cons (.forr (.nm 15) (.ex (.lst true (.cons (.var 5) (.cons (.var 13) (.cons (.var 14) .nil))))) b14_6) .nil))))))))))))))))))
noncomputable def b14 : Sms := (.cons (.asg 1 (.lst true (.cons (.var 0) (.cons (.con (.int 0)) (.cons (.con (.int 0)) .nil))))) (.cons (.forr (.nm 2) (.rng1 (.con (.int 3))) b14_0) (.cons (.ret (.con (.bl true))) .nil)))
noncomputable def ds : List Def := [⟨1, 1, b0⟩, ⟨2, 2, b1⟩, ⟨2, 2, b2⟩, ⟨2, 3, b3⟩, ⟨2, 2, b4⟩, ⟨4, 4, b5⟩, ⟨1, 9, b6⟩, ⟨1, 1, b7⟩, ⟨1, 1, b8⟩, ⟨2, 5, b9⟩, ⟨2, 5, b10⟩, ⟨1, 2, b11⟩, ⟨2, 5, b12⟩, ⟨5, 11, b13⟩, ⟨1, 16, b14⟩]
noncomputable def tb (i : Nat) : Option Def := ds[i]?
end My

set_option maxRecDepth 100000
set_option maxHeartbeats 8000000
namespace My
open PySem T
/-! ### the sack: mill, grain, worth -/
theorem mul_of {i j : Int} (a b : Nat) (h1 : i.natAbs < 2 ^ a) (h2 : j.natAbs < 2 ^ b) (h : a + b ≤ 1000000) : mulOk i j = true := by
  have aux : ∀ (x c : Nat), x < 2 ^ c → x.log2 ≤ c := fun x c hx => by
    by_cases z : x = 0
    · subst z; simp
    · exact Nat.le_of_lt ((Nat.log2_lt z).mpr hx)
  have e1 := aux _ _ h1
  have e2 := aux _ _ h2
  by_cases z1 : i.natAbs = 0
  · unfold mulOk
    rw [z1]
    apply decide_eq_true
    by_cases z2 : j.natAbs = 0
    · rw [z2]; decide
    · have := (Nat.log2_lt z2).mpr h2
      have z : Nat.log2 0 = 0 := by decide
      rw [z]; omega
  · have := (Nat.log2_lt z1).mpr h1
    unfold mulOk
    apply decide_eq_true
    omega
theorem div_of {j : Int} (h : 0 < j) (h2 : j < 2 ^ 80) : divOk j = true := by
  unfold divOk
  rw [Bool.and_eq_true]
  refine ⟨decide_eq_true h, decide_eq_true ?_⟩
  have : j.natAbs.log2 < 80 := (Nat.log2_lt (by omega)).mpr (by omega)
  omega
/-- the tape: the script, the place, the cell -/
noncomputable def tp (ns : List Int) (p c : Int) : O := .lst [.p (.scr ns), .p (.int p), .p (.int c)]
section
variable {C : Call} {ns : List Int} {p c : Int} {s : Sto}
theorem tp0 : ixW (tp ns p c :: s) (.r 0) (.p (.int 0)) = some (.p (.scr ns)) := rfl
theorem tp1 : ixW (tp ns p c :: s) (.r 0) (.p (.int 1)) = some (.p (.int p)) := rfl
theorem tp2 : ixW (tp ns p c :: s) (.r 0) (.p (.int 2)) = some (.p (.int c)) := rfl
theorem tw1 (v : Int) : setW (tp ns p c :: s) (.r 0) (.p (.int 1)) (.p (.int v)) = some (tp ns v c :: s) := rfl
theorem tw2 (v : Int) : setW (tp ns p c :: s) (.r 0) (.p (.int 2)) (.p (.int v)) = some (tp ns p v :: s) := rfl
theorem cq1 (f : Nat) : fCal false C f [.r 0] (tp ns p c :: s) = kQ (tp ns p c :: s) 0 (C f [.r 0] [tp ns p c]) := cal_q rfl rfl rfl
theorem cq2 (f : Nat) (a : D) : fCal false C f [.r 0, .p a] (tp ns p c :: s) = kQ (tp ns p c :: s) 0 (C f [.r 0, .p a] [tp ns p c]) := cal_q rfl rfl rfl
theorem cq4 (f : Nat) (a b d : D) : fCal false C f [.r 0, .p a, .p b, .p d] (tp ns p c :: s) = kQ (tp ns p c :: s) 0 (C f [.r 0, .p a, .p b, .p d] [tp ns p c]) := cal_q rfl rfl rfl
theorem kq {p' c' : Int} (d : D) (s' : Sto) : kQ (tp ns p c :: s) 0 (.ok (.p d) (tp ns p' c' :: s')) = .ok (.p d) (tp ns p' c' :: s) := kQ_p (st := tp ns p c :: s) (n := 0) (o := tp ns p' c') rfl d s'
end
noncomputable def tps := And.intro @tp0 (And.intro @tp1 (And.intro @tp2 (And.intro @tw1 (And.intro @tw2 (And.intro @cq1 (And.intro @cq2 (And.intro @cq4 @kq)))))))
theorem m80 {x m : Int} (a : 0 < m) (b : m < 2 ^ 80) : 0 ≤ x % m ∧ x % m < 2 ^ 80 := ⟨Int.emod_nonneg _ (by omega), Int.lt_trans (Int.emod_lt_of_pos _ a) b⟩
theorem mill (m : Nat) (hm : 1 ≤ m) (cell place : Int) (h0 : 0 ≤ place) (h1 : place < 2 ^ 80) (st : Sto) : ∃ v : Int, T.run tb m 9 [.p (.int cell), .p (.int place)] st = .ok (.p (.int v)) st := by
  obtain ⟨n, rfl⟩ : ∃ n, m = n + 1 := ⟨m - 1, by omega⟩
  rw [run_go 2 5 b9 [some (.p (.int cell)), some (.p (.int place)), none, none, none] rfl st rfl rfl]
  by_cases h : cell ≥ 10 ^ 18
  · have h' : (10 : Int) ^ (18 : Int).toNat ≤ cell := h
    refine ⟨cell, ?_⟩
    simp only [b9, ev0, ev1, ev2, ev3, ev4, ev5, decide_true, decide_false, bin_pow (i := 10) (j := 18) (by decide), h']
  · have h' : ¬ (10 : Int) ^ (18 : Int).toNat ≤ cell := h
    have mm : ∀ x y : Int, (0 ≤ x ∧ x < 2 ^ 80) → (0 ≤ y ∧ y < 2 ^ 80) → mulOk x y = true := fun x y a b => mul_of 80 80 (by omega) (by omega) (by decide)
    have c : ∀ x : Int, 0 ≤ x → x < 2 ^ 80 → (0 ≤ x ∧ x < 2 ^ 80) := fun x a b => ⟨a, b⟩
    have s1 := bin_mul (st := st) (mm (cell % 2147483579) 25173 (m80 (by decide) (by decide)) (c _ (by decide) (by decide)))
    have s2 := bin_mul (st := st) (mm place 13849 ⟨h0, h1⟩ (c _ (by decide) (by decide)))
    have s3 := fun x : Int => bin_mul (st := st) (mm (x % 2147483563) (x % 2147483563) (m80 (by decide) (by decide)) (m80 (by decide) (by decide)))
    have s4 := bin_mul (st := st) (mm 733 place (c _ (by decide) (by decide)) ⟨h0, h1⟩)
    have s4' := bin_mul (st := st) (i := 733 * place) (j := place) (mul_of 100 80 (by omega) (by omega) (by decide))
    have s5 := fun x : Int => bin_mul (st := st) (mm 17 (x % 2147483563) (c _ (by decide) (by decide)) (m80 (by decide) (by decide)))
    have s6 := fun x : Int => bin_mul (st := st) (mm (x % 2147483549) (x % 2147483549) (m80 (by decide) (by decide)) (m80 (by decide) (by decide)))
    have s7 := fun x : Int => bin_mul (st := st) (mm 1291 (x % 2147483549) (c _ (by decide) (by decide)) (m80 (by decide) (by decide)))
    have s8 := fun x : Int => bin_mul (st := st) (mm (x % 2147483549) 2147483543 (m80 (by decide) (by decide)) (c _ (by decide) (by decide)))
    have md := fun (x m : Int) (hm : 0 < m) => bin_mod (st := st) (i := x) hm
    simp only [b9, ev0, ev1, ev2, ev3, ev4, ev5, decide_true, decide_false, bin_pow (i := 10) (j := 18) (by decide), h', md _ 2147483579 (by decide), md _ 2147483563 (by decide), md _ 2147483549 (by decide), md _ 2147483543 (by decide), s1, s2, s3, s4, s4', s5, s6, s7, s8]
    exact ⟨_, rfl⟩
theorem digitM (m : Nat) (hm : 2 ≤ m) (ns : List Int) (p c many : Int) (hp : 0 ≤ p) (hp2 : p < 2 ^ 30) (h0 : 0 < many) (h1 : many < 2 ^ 80) :
    ∃ d p' c' : Int, T.run tb m 10 [.r 0, .p (.int many)] [tp ns p c] = .ok (.p (.int d)) [tp ns p' c'] ∧ 0 ≤ d ∧ d < many ∧ p ≤ p' ∧ p' ≤ p + 1 := by
  obtain ⟨n, rfl⟩ : ∃ n, m = n + 1 := ⟨m - 1, by omega⟩
  rw [run_go 2 5 b10 [some (.r 0), some (.p (.int many)), none, none, none] rfl _ rfl rfl]
  have md := fun (x : Int) (st : Sto) => bin_mod (st := st) (i := x) h0
  have dv := fun (x : Int) (st : Sto) => bin_fdiv (st := st) (i := x) (div_of h0 h1)
  have e0 : ∀ x : Int, 0 ≤ x % many := fun x => Int.emod_nonneg _ (by omega)
  have e1 : ∀ x : Int, x % many < many := fun x => Int.emod_lt_of_pos _ h0
  by_cases h : c < many
  · have fin : ∀ {cell : Int}, ∃ v : Int, T.run tb n 9 [.p (.int cell), .p (.int p)] [] = .ok (.p (.int v)) [] := fun {cell} => mill n (by omega) cell p hp (by omega) []
    have m0 := bin_mul (st := [tp ns p c]) (mul_of (i := 7) (j := p) 64 64 (by decide) (by omega) (by decide))
    by_cases h2 : p < (ns.length : Nat)
    · obtain ⟨x, hx, _, hx2⟩ := at_some (xs := ns.map D.int) hp (by rw [List.length_map]; exact h2)
      obtain ⟨y, _, rfl⟩ := List.mem_map.mp hx
      obtain ⟨v, e⟩ := fin (cell := y)
      simp only [b10, ev0, ev1, ev2, ev3, ev4, ev5, tps, h, h2, m0, decide_true, hx2, e, md, dv]
      exact ⟨_, _, _, rfl, e0 _, e1 _, by omega, by omega⟩
    · by_cases h3 : (0 : Int) < (ns.length : Nat)
      · have m1 := bin_mul (st := [tp ns p c]) (mul_of (i := 3) (j := p) 64 64 (by decide) (by omega) (by decide))
        have m2 := bin_mod (st := [tp ns p c]) (i := 3 * p + 1) (j := (ns.length : Nat)) (by omega)
        have q0 : 0 ≤ (3 * p + 1) % (ns.length : Nat) := Int.emod_nonneg _ (by omega)
        have q1 : (3 * p + 1) % (ns.length : Nat) < (ns.length : Nat) := Int.emod_lt_of_pos _ (by omega)
        obtain ⟨x, hx, _, hx2⟩ := at_some (xs := ns.map D.int) q0 (by rw [List.length_map]; exact q1)
        obtain ⟨y, _, rfl⟩ := List.mem_map.mp hx
        have m4 := bin_mod (st := [tp ns p c]) (i := y) (j := 777777773) (by decide)
        have m5 := bin_mul (st := [tp ns p c]) (mul_of (i := p) (j := 4000000) 64 64 (by omega) (by decide) (by decide))
        obtain ⟨v, e⟩ := fin (cell := y % 777777773 + p * 4000000)
        simp only [b10, ev0, ev1, ev2, ev3, ev4, ev5, tps, h, h2, h3, m0, decide_true, decide_false, e, md, dv, m1, m2, m4, m5, hx2]
        exact ⟨_, _, _, rfl, e0 _, e1 _, by omega, by omega⟩
      · obtain ⟨v, e⟩ := fin (cell := 7 * p + 3)
        simp only [b10, ev0, ev1, ev2, ev3, ev4, ev5, tps, h, h2, h3, m0, decide_true, decide_false, e, md, dv]
        exact ⟨_, _, _, rfl, e0 _, e1 _, by omega, by omega⟩
  · simp only [b10, ev0, ev1, ev2, ev3, ev4, ev5, tps, h, decide_false, md, dv]
    exact ⟨_, _, _, rfl, e0 _, e1 _, by omega, by omega⟩
/-- one of some ints -/
theorem some_at {is : List Int} {d : Int} (d0 : 0 ≤ d) (d1 : d < ((is.length : Nat) : Int)) : ∃ i ∈ is, ∀ st : Sto, ixW st (.p (.lst (is.map D.int))) (.p (.int d)) = some (.p (.int i)) := by
  obtain ⟨x, hx, _, e⟩ := at_some (xs := is.map D.int) d0 (by rw [List.length_map]; exact d1)
  obtain ⟨i, hi, rfl⟩ := List.mem_map.mp hx
  exact ⟨i, hi, fun st => by rw [ix_lst, e]; rfl⟩
/-- a call that sees two things of the store -/
noncomputable def kQ2 (s : Sto) (n m : Nat) : Res W → Res W
  | .ok w s' => match s' with
    | o1 :: o2 :: _ => if o1.flat && o2.flat then kImp (imp s' 2 6 w ((s.set n o1).set m o2) []) else .err
    | _ => .err
  | .exc c s' => match s' with
    | o1 :: o2 :: _ => if o1.flat && o2.flat then .exc c ((s.set n o1).set m o2) else .err
    | _ => .err
  | .err => .err
section
variable {C : Call} {st : Sto}
/-- what room there is -/
noncomputable def rm (r : Int) : O := .lst [.p (.int r)]
end
end My

set_option maxRecDepth 100000
set_option maxHeartbeats 8000000
namespace My
open PySem T
/-! ### lists that have come: (gate, round) to words; the walk through them, plainly -/
abbrev GL := List ((Int × Int) × List D)
noncomputable def k2 (g n : Int) : List L2.Key := [.inl g, .inl n]
noncomputable def dO (L : GL) : O := .dit (L.map fun e => (k2 e.1.1 e.1.2, W.p (.tup e.2)))
noncomputable def hasL (L : GL) (g n : Int) : Bool := L.any fun e => decide (e.1 = (g, n))
noncomputable def getL (L : GL) (g n : Int) : List D := ((L.find? fun e => decide (e.1 = (g, n))).map (·.2)).getD []
theorem k2_inj {g n g' n' : Int} : decide (k2 g n = k2 g' n') = decide ((g, n) = (g', n')) := by
  by_cases h : (g, n) = (g', n')
  · cases h; rw [decide_eq_true rfl, decide_eq_true rfl]
  · rw [decide_eq_false h, decide_eq_false]
    intro q
    unfold k2 at q
    cases q
    exact h rfl
theorem hasK_dO (g n : Int) : ∀ L : GL, hasK (L.map fun e => (k2 e.1.1 e.1.2, W.p (.tup e.2))) (k2 g n) = hasL L g n
  | [] => rfl
  | e :: L => by
    have ih := hasK_dO g n L
    unfold hasK hasL at ih ⊢
    rw [List.map_cons, List.any_cons, List.any_cons, ih, k2_inj]
theorem unK_dO : ∀ L : GL, unK (L.map fun e => (k2 e.1.1 e.1.2, W.p (.tup e.2))) = some (L.map fun e => (k2 e.1.1 e.1.2, D.tup e.2))
  | [] => rfl
  | e :: L => by rw [List.map_cons, unK, unK_dO L]; rfl
theorem hasD_dO (g n : Int) : ∀ L : GL, hasK (L.map fun e => (k2 e.1.1 e.1.2, D.tup e.2)) (k2 g n) = hasL L g n
  | [] => rfl
  | e :: L => by
    have ih := hasD_dO g n L
    unfold hasK hasL at ih ⊢
    rw [List.map_cons, List.any_cons, List.any_cons, ih, k2_inj]
theorem getK_dO (g n : Int) : ∀ L : GL, hasL L g n = true → getK (L.map fun e => (k2 e.1.1 e.1.2, W.p (.tup e.2))) (k2 g n) = some (.p (.tup (getL L g n)))
  | [], h => by cases h
  | e :: L, h => by
    have ih := getK_dO g n L
    unfold getK getL at ih ⊢
    rw [List.map_cons, List.find?_cons, List.find?_cons]
    unfold hasL at h ih
    rw [List.any_cons] at h
    rw [k2_inj]
    show Option.map _ (match decide (e.1 = (g, n)) with
      | true => _
      | false => _) = _
    cases q : decide (e.1 = (g, n)) with
    | true => rfl
    | false =>
      rw [q, Bool.false_or] at h
      exact ih h
theorem putK_dO {L : GL} {g n : Int} (h : hasL L g n = false) (ws : List D) : putK (L.map fun e => (k2 e.1.1 e.1.2, W.p (.tup e.2))) (k2 g n) (.p (.tup ws)) = (L ++ [((g, n), ws)]).map fun e => (k2 e.1.1 e.1.2, W.p (.tup e.2)) := by
  have := hasK_dO g n L
  rw [h] at this
  unfold hasK at this
  unfold putK
  rw [if_neg (by rw [this]; exact Bool.false_ne_true), List.map_append]
  rfl
section
variable {st : Sto} {a : Nat} {L : GL}
theorem kTD (g n : Int) : keyTD (.tup [.int g, .int n]) = some (k2 g n) := rfl
theorem in_dO (h : st[a]? = some (dO L)) (g n : Int) : inW st (.p (.tup [.int g, .int n])) (.r a) = some (hasL L g n) := by
  have e : vw st (.r a) = some (.dit (L.map fun e => (k2 e.1.1 e.1.2, D.tup e.2))) := by
    show (match st[a]? with
      | some (.lst ws) => (unW ws).map D.lst
      | some (.dic kvs) => (unK kvs).map D.dic
      | some (.dit kvs) => (unK kvs).map D.dit
      | some (.ldk kvs) => (unK kvs).map D.dic
      | some (.ldt kvs) => (unK kvs).map D.dit
      | _ => none) = _
    rw [h]
    show (unK _).map D.dit = _
    rw [unK_dO]
    rfl
  unfold inW
  simp only [e, kTD, Option.map_some, hasD_dO]
theorem ix_dO (h : st[a]? = some (dO L)) {g n : Int} (hh : hasL L g n = true) : ixW st (.r a) (.p (.tup [.int g, .int n])) = some (.p (.tup (getL L g n))) := by
  unfold ixW
  simp only [h, dO, kTD, Option.bind_some, getK_dO g n L hh]
theorem set_dO (h : st[a]? = some (dO L)) {g n : Int} (hh : hasL L g n = false) (hl : L.length < 1000) (ws : List D) : setW st (.r a) (.p (.tup [.int g, .int n])) (.p (.tup ws)) = some (st.set a (dO (L ++ [((g, n), ws)]))) := by
  unfold setW
  simp only [h, dO, kTD, Option.bind_some, List.length_map]
  rw [if_pos (by rw [sizeLine_eq]; omega), putK_dO hh]
end
/-! ### the walk -/
noncomputable def wdsL (L : GL) (num : Int) (left : List Int) : List D := left.flatMap fun g => (getL L g num).map fun w => .tup [.int g, .int num, w]
/-- the gates that words leave out -/
noncomputable def outW : D → Option Int
  | .tup [_, .int g] => some g
  | _ => none
noncomputable def outs (ws : List D) : List Int := ws.filterMap fun x => match x with
  | .tup [_, _, w] => outW w
  | _ => none
/-- the gates that are waited for -/
noncomputable def lefts (left : List Int) (ws : List D) : List Int := left.filter fun g => !decide (g ∈ outs ws)
noncomputable def goes (L : GL) (num : Int) (left : List Int) : Bool := !decide (left = []) && left.all fun g => hasL L g num
noncomputable def wk (L : GL) : Nat → List D → Int → List Int → List D × Int
  | 0, ord, num, _ => (ord, num)
  | k + 1, ord, num, left => if goes L num left then wk L k (ord ++ wdsL L num left) (num + 1) (lefts left (wdsL L num left)) else (ord, num)
/-- rounds beyond that haven't come -/
noncomputable def Low (L : GL) (M : Nat) : Prop := ∀ e ∈ L, (0 ≤ e.1.2 ∧ e.1.2 < (M : Int)) ∨ e.1.2 = 10 ^ 20
theorem goes_low {L : GL} {M : Nat} (h : Low L M) {num : Int} (h0 : (M : Int) ≤ num) (h1 : num < 10 ^ 20) (left : List Int) : goes L num left = false := by
  cases left with
  | nil => rfl
  | cons g r =>
    unfold goes
    have : hasL L g num = false := by
      unfold hasL
      rw [List.any_eq_false]
      intro e he q
      have q := of_decide_eq_true q
      have := h e he
      rw [q] at this
      simp only at this
      omega
    rw [List.all_cons, this, Bool.false_and, Bool.and_false]
end My

set_option maxRecDepth 100000
set_option maxHeartbeats 8000000
namespace My
open PySem T
noncomputable def fo (ds : List D) : O := .lst (ds.map W.p)
/-! ### rules that the walk wants -/
section
variable {C : Call} {ρ : Nv} {st : Sto}
noncomputable def kFz (i : Nat) (ρ : Nv) (s : Sto) : Option (Option W) → Res (T.Flow × Nv)
  | some (some w) => match frzW s w with
    | some (w', s') => .ok (.nx, ρ.set i (some w')) s'
    | none => .err
  | _ => .err
theorem e_fzv (i : Nat) : evS C (.fzv i) ρ st = kFz i ρ st ρ[i]? := by
  rw [evS.eq_def]
  simp only
  cases ρ[i]? with
  | none => rfl
  | some o =>
    cases o with
    | none => rfl
    | some w =>
      show _ = (match frzW st w with
        | some (w', s') => Res.ok (T.Flow.nx, ρ.set i (some w')) s'
        | none => .err)
      cases q : frzW st w <;> simp only [q]
theorem kFz_ok {s' : Sto} {i : Nat} {w w' : W} (h : frzW st w = some (w', s')) : kFz i ρ st (some (some w)) = .ok (.nx, ρ.set i (some w')) s' := by
  unfold kFz
  simp only [h]
noncomputable def fRgl (m t : Bool) (x : W) (st : Sto) : Res W := match x with
    | .p (.int j) => if small62 j && decide (j ≤ 16777216) then (if t then .ok (.p (.tup ((List.range j.toNat).map fun i => D.int (0 + (i : Nat))))) st
      else if m then newO (.lst (rngL 0 j.toNat)) st else .ok (.p (.lst ((List.range j.toNat).map fun i => D.int (0 + (i : Nat))))) st) else .err
    | _ => .err
theorem e_rgl (m t : Bool) (a : Ex) : evE C (.rgl m t a) ρ st = kBind (fRgl m t) (evE C a ρ st) := by rw [evE]; rfl
noncomputable def rangeI (n : Int) : List Int := (List.range n.toNat).map fun (i : Nat) => (i : Int)
theorem rgl_k {j : Int} (h0 : 0 ≤ j) (h1 : j ≤ 1000) : fRgl false false (.p (.int j)) st = .ok (.p (.lst ((rangeI j).map D.int))) st := by
  have : (small62 j && decide (j ≤ 16777216)) = true := by
    unfold small62
    rw [Bool.and_eq_true, Bool.and_eq_true]
    exact ⟨⟨decide_eq_true (by omega), decide_eq_true (by omega)⟩, decide_eq_true (by omega)⟩
  unfold fRgl rangeI
  simp only [this, if_true, Bool.false_eq_true, if_false, List.map_map]
  refine congrArg (fun l => Res.ok (W.p (D.lst l)) st) ?_
  apply List.map_congr_left
  intro i _
  show D.int (0 + (i : Int)) = D.int (i : Int)
  rw [Int.zero_add]
theorem e_dnw (t : Bool) : evE C (.dnw t) ρ st = (if t then newO (.dit []) st else newO (.dic []) st) := by rw [evE]
theorem stp_3c (i j k : Nat) (c e : Ex) (x y z : D) : stp C ρ (.tup [i, j, k]) true c e (.p (.tup [x, y, z])) st = kIfs C e (((ρ.set i (some (.p x))).set j (some (.p y))).set k (some (.p z))) (evT C c (((ρ.set i (some (.p x))).set j (some (.p y))).set k (some (.p z))) st) := by
  show (evT C c (((ρ.set i (some (.p x))).set j (some (.p y))).set k (some (.p z))) st).ne.bind _ = _
  cases evT C c (((ρ.set i (some (.p x))).set j (some (.p y))).set k (some (.p z))) st with
  | err => rfl
  | exc _ _ => rfl
  | ok k s =>
    cases k with
    | false => rfl
    | true =>
      show (evE C e _ s).ne.bind _ = kSome (evE C e _ s)
      cases evE C e (((ρ.set i (some (.p x))).set j (some (.p y))).set _ (some (.p z))) s <;> rfl
theorem lc_maps {f : W → Sto → Res (Option W)} {st : Sto} (J : D → D) : ∀ (ds : List D) (acc : List W), (∀ d ∈ ds, f (.p d) st = .ok (some (.p (J d))) st) → acc.length + ds.length ≤ 1000000 →
    lcLoop f (ds.map W.p) acc st = .ok (acc ++ (ds.map J).map W.p) st
  | [], acc, _, _ => by rw [List.map_nil, lc_nil]; show _ = Res.ok (acc ++ []) st; rw [List.append_nil]
  | d :: ds, acc, h, hl => by
    rw [List.length_cons] at hl
    rw [List.map_cons, lc_some (h d (List.mem_cons_self ..)) (by omega), lc_maps J ds _ (fun x hx => h x (List.mem_cons_of_mem _ hx)) (by rw [List.length_append, List.length_singleton]; omega), List.append_assoc]
    rfl
end
/-! ### places in a store that grows -/
theorem at_lt {s x : Sto} {a : Nat} {o : O} (h : s[a]? = some o) : (s ++ x)[a]? = some o := by
  have := (List.getElem?_eq_some_iff.mp h).1
  rw [List.getElem?_append_left this]
  exact h
theorem at_new (s x : Sto) (o : O) : (s ++ o :: x)[s.length]? = some o := by
  rw [List.getElem?_append_right (Nat.le_refl _), Nat.sub_self]; rfl
theorem set_new (s x : Sto) (o o' : O) : (s ++ o :: x).set s.length o' = s ++ o' :: x := by
  rw [List.set_append_right _ _ (Nat.le_refl _), Nat.sub_self]; rfl
/-! ### a gathering -/
noncomputable def fsG (g : Int) (b : Nat) : List (Str × W) := [(("gates" : Str), .p (.int g)), ("lists", .r b)]
theorem fs_gates (g : Int) (b : Nat) : (fsG g b).lookup ("gates" : Str) = some (.p (.int g)) := by kernel_rfl
theorem fs_lists (g : Int) (b : Nat) : (fsG g b).lookup ("lists" : Str) = some (.r b) := by kernel_rfl
theorem fs_come (g : Int) (b : Nat) : (fsG g b).lookup ("come" : Str) = none := by kernel_rfl
theorem fs_walk (g : Int) (b : Nat) : (fsG g b).lookup ("walk" : Str) = none := by kernel_rfl
theorem fs_order (g : Int) (b : Nat) : (fsG g b).lookup ("order" : Str) = none := by kernel_rfl
theorem fs_known (g : Int) (b : Nat) : (fsG g b).lookup ("known" : Str) = none := by kernel_rfl
theorem fs_i1 (w : W) : putFW "gates" w [] = [(("gates" : Str), w)] := by kernel_rfl
theorem fs_i2 (w v : W) : putFW "lists" v [("gates", w)] = [(("gates" : Str), w), ("lists", v)] := by kernel_rfl
structure GAt (st : Sto) (a b : Nat) (g : Int) (L : GL) : Prop where
  i : st[a]? = some (.ins 4 (fsG g b))
  l : st[b]? = some (dO L)
theorem GAt.app {st : Sto} {a b : Nat} {g : Int} {L : GL} (h : GAt st a b g L) (x : Sto) : GAt (st ++ x) a b g L := ⟨at_lt h.i, at_lt h.l⟩
/-- a word -/
noncomputable def Wrd (gates : Int) (w : D) : Prop := (∃ i, w = .int i) ∨ ∃ g, w = .tup [.str "without", .int g] ∧ 0 ≤ g ∧ g < gates
structure GOk (gates : Int) (L : GL) : Prop where
  w : ∀ e ∈ L, ∀ x ∈ e.2, Wrd gates x
  l : ∀ e ∈ L, e.2.length ≤ 8
theorem getL_mem {L : GL} {g n : Int} (h : hasL L g n = true) : ∃ e ∈ L, getL L g n = e.2 := by
  unfold getL hasL at *
  rw [List.any_eq_true] at h
  cases q : L.find? fun e => decide (e.1 = (g, n)) with
  | none =>
    obtain ⟨e, he, h⟩ := h
    have := List.find?_eq_none.mp q e he
    exact absurd h this
  | some e => exact ⟨e, List.mem_of_find?_eq_some q, rfl⟩
/-- what is put in the order -/
noncomputable def Trp (gates : Int) (x : D) : Prop := ∃ g n w, x = .tup [.int g, .int n, w] ∧ Wrd gates w
theorem wds_ok {gates : Int} {L : GL} (h : GOk gates L) {num : Int} {gs : List Int} (hg : ∀ g ∈ gs, hasL L g num = true) : (∀ x ∈ wdsL L num gs, Trp gates x) ∧ (wdsL L num gs).length ≤ 8 * gs.length := by
  induction gs with
  | nil => exact ⟨fun x hx => (by cases hx), Nat.le_refl _⟩
  | cons g r ih =>
    obtain ⟨i1, i2⟩ := ih fun x hx => hg x (List.mem_cons_of_mem _ hx)
    obtain ⟨e, he, q⟩ := getL_mem (hg g (List.mem_cons_self ..))
    have sp : wdsL L num (g :: r) = ((getL L g num).map fun w => D.tup [.int g, .int num, w]) ++ wdsL L num r := rfl
    rw [sp]
    refine ⟨fun x hx => ?_, ?_⟩
    · rcases List.mem_append.mp hx with hx | hx
      · obtain ⟨w, hw, rfl⟩ := List.mem_map.mp hx
        rw [q] at hw
        exact ⟨g, num, w, rfl, h.w e he w hw⟩
      · exact i1 x hx
    · rw [List.length_append, List.length_map, q, List.length_cons]
      have := h.l e he
      omega
section
variable {a b : Nat} {gates : Int} {L : GL}
theorem extL (n : Nat) {B : Sto} (h : GAt B a b gates L) (ok : GOk gates L) (num : Int) (a1 a3 a6 a7 a8 : Option W) : ∀ (gs : List Int) (ws : List D) (a5 : Option W), (∀ g ∈ gs, hasL L g num = true) → ws.length + 8 * gs.length ≤ 1000 →
    ∃ b5, forLoop (turn (T.run tb n) (.nm 5) b6_1) ((gs.map D.int).map W.p) [some (.r a), a1, some (.p (.int num)), a3, some (.r B.length), a5, a6, a7, a8] (B ++ [fo ws]) = .ok (.nx, [some (.r a), a1, some (.p (.int num)), a3, some (.r B.length), b5, a6, a7, a8]) (B ++ [fo (ws ++ wdsL L num gs)])
  | [], ws, a5, _, _ => ⟨a5, by
    have : ws ++ wdsL L num [] = ws := List.append_nil ws
    rw [this]
    exact for_nil _⟩
  | g :: gs, ws, a5, hg, hl => by
    rw [List.length_cons] at hl
    have hh := hg g (List.mem_cons_self ..)
    obtain ⟨e, he, q⟩ := getL_mem hh
    have l8 : (getL L g num).length ≤ 8 := by rw [q]; exact ok.l e he
    obtain ⟨b5, e2⟩ := extL n h ok num a1 a3 a6 a7 a8 gs (ws ++ (getL L g num).map fun w => D.tup [.int g, .int num, w]) (some (.p (.int g))) (fun x hx => hg x (List.mem_cons_of_mem _ hx)) (by rw [List.length_append, List.length_map]; omega)
    refine ⟨b5, ?_⟩
    have hB := h.app [fo ws]
    have f1 := fld_k (c := 4) (n := a) hB.i (fs_lists gates b)
    have ix := ix_dO hB.l hh
    have m1 := fun (es : Exs) (ρ : Nv) => fM1_r (C := T.run tb n) (ρ := ρ) (n := B.length) (xs := ws.map W.p) (st := B ++ [fo ws]) (at_new B [] _) .extend es
    have m2 := m_extend (n := B.length) (xs := ws.map W.p) (st := B ++ [fo ws]) (ds := (getL L g num).map fun w => D.tup [.int g, .int num, w]) (at_new B [] _) (by rw [List.length_map, List.length_map]; omega)
    rw [set_new, ← List.map_append] at m2
    have m2 : fM2 .extend (.r B.length) [.p (.lst ((getL L g num).map fun w => D.tup [.int g, .int num, w]))] (B ++ [fo ws]) = .ok (.p .non) (B ++ [fo (ws ++ (getL L g num).map fun w => D.tup [.int g, .int num, w])]) := m2
    have k3 := fun (x y z : D) st => kTup_some (st := st) (ds := [x, y, z]) (by simp)
    have k2' := fun (x y : D) st => kTup_some (st := st) (ds := [x, y]) (by simp)
    have lp := lc_maps (f := stp (T.run tb n) [some (.r a), a1, some (.p (.int num)), a3, some (.r B.length), some (.p (.int g)), a6, a7, a8] (.nm 8) false (.con .non) (.tup (.cons (.var 5) (.cons (.var 2) (.cons (.var 8) .nil))))) (st := B ++ [fo ws]) (fun w => D.tup [.int g, .int num, w]) (getL L g num) [] (fun d hd => by
      simp only [ev0, ev1, ev2, ev3, ev4, ev5, k3]) (by simp only [List.length_nil]; omega)
    rw [List.nil_append] at lp
    rw [List.map_cons, List.map_cons, for_cons, turn_nm]
    have sp : ws ++ wdsL L num (g :: gs) = ws ++ ((getL L g num).map fun w => D.tup [.int g, .int num, w]) ++ wdsL L num gs := by rw [List.append_assoc]; rfl
    rw [sp, ← e2]
    simp only [b6_1, ev0, ev1, ev2, ev3, ev4, ev5, ey, m1, f1, k2', ix, lp, unW_map, m2, kFor_nx]
theorem outsM (n : Nat) {st : Sto} {ρ : Nv} (hρ : 9 ≤ ρ.length) : ∀ (ws : List D) (acc : List W), (∀ x ∈ ws, Trp gates x) → acc.length + ws.length ≤ 1000000 →
    lcLoop (stp (T.run tb n) ρ (.tup [5, 7, 8]) true (.bfn .isiTup (.cons (.var 8) .nil)) (.ix (.var 8) (.con (.int 1)))) (ws.map W.p) acc st = .ok (acc ++ ((outs ws).map D.int).map W.p) st
  | [], acc, _, _ => by rw [List.map_nil, lc_nil]; show _ = Res.ok (acc ++ []) st; rw [List.append_nil]
  | x :: ws, acc, h, hl => by
    rw [List.length_cons] at hl
    obtain ⟨g, k, w, rfl, hw⟩ := h x (List.mem_cons_self ..)
    have g8 : ((((ρ.set 5 (some (.p (.int g)))).set 7 (some (.p (.int k)))).set 8 (some (.p w)))[8]?) = some (some (.p w)) := by
      rw [List.getElem?_set_self (by simp only [List.length_set]; omega)]
    rw [List.map_cons]
    rcases hw with ⟨i, rfl⟩ | ⟨v, rfl, _, _⟩
    · have e : stp (T.run tb n) ρ (.tup [5, 7, 8]) true (.bfn .isiTup (.cons (.var 8) .nil)) (.ix (.var 8) (.con (.int 1))) (.p (.tup [.int g, .int k, .int i])) st = .ok none st := by
        rw [stp_3c]
        simp only [ev0, ev1, ev2, ev3, ev4, ev5, g8]
        try rfl
      rw [lc_none e, outsM n hρ ws acc (fun y hy => h y (List.mem_cons_of_mem _ hy)) (by omega)]
      rfl
    · have e : stp (T.run tb n) ρ (.tup [5, 7, 8]) true (.bfn .isiTup (.cons (.var 8) .nil)) (.ix (.var 8) (.con (.int 1))) (.p (.tup [.int g, .int k, .tup [.str "without", .int v]])) st = .ok (some (.p (.int v))) st := by
        rw [stp_3c]
        simp only [ev0, ev1, ev2, ev3, ev4, ev5, g8]
        try rfl
      rw [lc_some e (by omega), outsM n hρ ws _ (fun y hy => h y (List.mem_cons_of_mem _ hy)) (by rw [List.length_append, List.length_singleton]; omega), List.append_assoc]
      rfl
end
end My

set_option maxRecDepth 100000
set_option maxHeartbeats 8000000
namespace My
open PySem T
theorem m_extR {st : Sto} {n k : Nat} {xs ys : List D} (h : st[n]? = some (fo xs)) (h2 : st[k]? = some (fo ys)) (hl : xs.length + ys.length ≤ 1000000) : fM2 .extend (.r n) [.r k] st = .ok (.p .non) (st.set n (fo (xs ++ ys))) := by
  have h : st[n]? = some (.lst (xs.map W.p)) := h
  have h2 : st[k]? = some (.lst (ys.map W.p)) := h2
  show bmtW .extend (.r n) [.r k] st = _
  unfold bmtW
  have : lenOk ((xs.map W.p).length + (ys.map W.p).length) = true := by unfold lenOk; rw [List.length_map, List.length_map]; exact decide_eq_true (by omega)
  simp only [h, bmtL, lstW, h2]
  rw [if_pos this]
  unfold fo
  rw [List.map_append]
theorem lefts_len (left : List Int) (ws : List D) : (lefts left ws).length ≤ left.length := List.length_filter_le _ _
/-- a comprehension of truths over values -/
theorem lc_bools {f : W → Sto → Res (Option W)} {st : Sto} {α : Type} (I : α → D) (B : α → Bool) : ∀ (ds : List α) (acc : List W), (∀ d ∈ ds, f (.p (I d)) st = .ok (some (.p (.bl (B d)))) st) → acc.length + ds.length ≤ 1000000 →
    lcLoop f ((ds.map I).map W.p) acc st = .ok (acc ++ ((ds.map B).map D.bl).map W.p) st
  | [], acc, _, _ => by rw [List.map_nil, List.map_nil, lc_nil]; show _ = Res.ok (acc ++ []) st; rw [List.append_nil]
  | d :: ds, acc, h, hl => by
    rw [List.length_cons] at hl
    rw [List.map_cons, List.map_cons, lc_some (h d (List.mem_cons_self ..)) (by omega), lc_bools I B ds _ (fun x hx => h x (List.mem_cons_of_mem _ hx)) (by rw [List.length_append, List.length_singleton]; omega), List.append_assoc]
    rfl
section
variable {a b : Nat} {gates : Int} {L : GL}
noncomputable def wkT : Ex := .and (.cmp .ne (.var 3) (.lst false .nil)) (.bfn .all (.cons (.lc false (.nm 5) (.ex (.var 3)) false (.con .non) (.cmp .isin (.tup (.cons (.var 5) (.cons (.var 2) .nil))) (.fld 4 (.var 0) "lists"))) .nil))
theorem goesT (n : Nat) {st : Sto} (h : GAt st a b gates L) (num : Int) (left : List Int) (hl : left.length ≤ 1000) (a1 a4 a5 a6 a7 a8 : Option W) :
    evT (T.run tb n) wkT [some (.r a), a1, some (.p (.int num)), some (.p (.lst (left.map D.int))), a4, a5, a6, a7, a8] st = .ok (goes L num left) st := by
  have f1 := fld_k (c := 4) (n := a) h.i (fs_lists gates b)
  have i1 := fun g k => in_dO h.l g k
  have z0 : ∀ st, fLst false [] st = .ok (.p (.lst [])) st := fun st => fLst_f (ws := []) (by simp)
  have k2' := fun (x y : D) st => kTup_some (st := st) (ds := [x, y]) (by simp)
  have lp' := lc_bools (f := stp (T.run tb n) [some (.r a), a1, some (.p (.int num)), some (.p (.lst (left.map D.int))), a4, a5, a6, a7, a8] (.nm 5) false (.con .non) (.cmp .isin (.tup (.cons (.var 5) (.cons (.var 2) .nil))) (.fld 4 (.var 0) "lists"))) (st := st) D.int (fun g => hasL L g num) left [] (fun g _ => by
    simp only [ev0, ev1, ev2, ev3, ev4, ev5, ew, ey, k2', f1, i1]) (by simp only [List.length_nil]; omega)
  rw [List.nil_append] at lp'
  have al : ((left.map fun g => hasL L g num).all id) = left.all fun g => hasL L g num := by rw [List.all_map]; rfl
  unfold goes wkT
  cases q : decide (left = []) with
  | true => simp only [ev0, ev1, ev2, ev3, ev4, ev5, ex, z0, q, Bool.not_true, Bool.false_and]
  | false => simp only [ev0, ev1, ev2, ev3, ev4, ev5, ex, z0, q, Bool.not_false, Bool.true_and, lp', unW_map, al]
/-- a round of the walk -/
theorem walkT (n : Nat) {B : Sto} (h : GAt B a b gates L) (ok : GOk gates L) (ord : List D) (num : Int) (left : List Int) (R : Sto) (a4 a5 a6 a7 a8 : Option W) (hg : goes L num left = true) (l5 : left.length ≤ 5) (lo : ord.length ≤ 100000) :
    ∃ b4 b5 b6 b7 b8, evSs (T.run tb n) b6_0 [some (.r a), some (.r B.length), some (.p (.int num)), some (.p (.lst (left.map D.int))), a4, a5, a6, a7, a8] (B ++ fo ord :: R) = .ok (.nx, [some (.r a), some (.r B.length), some (.p (.int (num + 1))), some (.p (.lst ((lefts left (wdsL L num left)).map D.int))), b4, b5, b6, b7, b8]) (B ++ fo (ord ++ wdsL L num left) :: (R ++ [.dead])) := by
  unfold goes at hg
  rw [Bool.and_eq_true, List.all_eq_true] at hg
  obtain ⟨w1, w2⟩ := wds_ok ok hg.2
  obtain ⟨B1, e1⟩ : ∃ B1, B1 = B ++ fo ord :: R := ⟨_, rfl⟩
  have h1 : GAt B1 a b gates L := by rw [e1]; exact h.app _
  have n1 : fLst true [] B1 = .ok (.r B1.length) (B1 ++ [fo []]) := rfl
  obtain ⟨b5, x1⟩ := extL n h1 ok num (some (.r B.length)) (some (.p (.lst (left.map D.int)))) a6 a7 a8 left [] a5 hg.2 (by simp only [List.length_nil]; omega)
  rw [List.nil_append] at x1
  have at0 : (B1 ++ [fo (wdsL L num left)])[B.length]? = some (fo ord) := by rw [e1]; exact at_lt (at_new _ _ _)
  have m1 := fun (es : Exs) (ρ : Nv) => fM1_r (C := T.run tb n) (ρ := ρ) (n := B.length) (xs := ord.map W.p) (st := B1 ++ [fo (wdsL L num left)]) at0 .extend es
  have m2 := m_extR (n := B.length) (k := B1.length) at0 (at_new B1 [] _) (by omega)
  obtain ⟨B2, e2⟩ : ∃ B2, B2 = B ++ fo (ord ++ wdsL L num left) :: R := ⟨_, rfl⟩
  have l2 : B1.length = B2.length := by rw [e1, e2, List.length_append, List.length_append]; rfl
  have s2 : (B1 ++ [fo (wdsL L num left)]).set B.length (fo (ord ++ wdsL L num left)) = B2 ++ [fo (wdsL L num left)] := by
    rw [e1, e2, List.append_assoc, List.cons_append, set_new, List.append_assoc, List.cons_append]
  rw [s2] at m2
  have fz : frzW (B2 ++ [fo (wdsL L num left)]) (.r B1.length) = some (.p (.lst (wdsL L num left)), B2 ++ [.dead]) := by
    rw [l2]
    have := frz_l (n := B2.length) (ds := wdsL L num left) (st := B2 ++ [fo (wdsL L num left)]) (at_new B2 [] _)
    rw [set_new] at this
    exact this
  have fz' := fun (ρ : Nv) => kFz_ok (ρ := ρ) (i := 4) fz
  have o1 := outsM (gates := gates) n (st := B2 ++ [.dead]) (ρ := [some (.r a), some (.r B.length), some (.p (.int num)), some (.p (.lst (left.map D.int))), some (.p (.lst (wdsL L num left))), b5, a6, a7, a8]) (by simp) (wdsL L num left) [] w1 (by simp only [List.length_nil]; omega)
  rw [List.nil_append] at o1
  have i1 := fun (g : Int) (st : Sto) => inI_lst (st := st) g (outs (wdsL L num left))
  have f1 := lc_filt (f := stp (T.run tb n) [some (.r a), some (.r B.length), some (.p (.int num)), some (.p (.lst (left.map D.int))), some (.p (.lst (wdsL L num left))), b5, some (.p (.lst ((outs (wdsL L num left)).map D.int))), a7, a8] (.nm 5) true (.cmp .notin (.var 5) (.var 6)) (.var 5)) (st := B2 ++ [.dead]) D.int (fun g => !decide (g ∈ outs (wdsL L num left))) D.int left [] (fun g hg => by
    rw [stp_nmc]
    cases q : decide (g ∈ outs (wdsL L num left)) <;> simp only [ev0, ev1, ev2, ev3, ev4, ev5, ew, i1, q, Bool.not_true, Bool.not_false, kIfs, if_true, if_false, Bool.false_eq_true]) (by simp only [List.length_nil]; omega)
  rw [List.nil_append] at f1
  refine ⟨some (.p (.lst (wdsL L num left))), b5, some (.p (.lst ((outs (wdsL L num left)).map D.int))), a7, a8, ?_⟩
  have fin : B ++ fo (ord ++ wdsL L num left) :: (R ++ [.dead]) = B2 ++ [.dead] := by rw [e2, List.append_assoc]; rfl
  rw [← e1, fin]
  unfold lefts
  simp only [b6_0, ev0, ev1, ev2, ev3, ev4, ev5, n1, x1, m1, m2, e_fzv, fz', o1, f1, unW_map]
/-- all rounds -/
theorem walkW (n : Nat) {B : Sto} (h : GAt B a b gates L) (ok : GOk gates L) {M : Nat} (low : Low L M) : ∀ (N : Nat) (ord : List D) (num : Int) (left : List Int) (R : Sto) (a4 a5 a6 a7 a8 : Option W), (M : Int) ≤ num + N → num + N ≤ 100 → ord.length + 40 * (N + 1) ≤ 100000 → left.length ≤ 5 → ∀ f, ∃ b3 b4 b5 b6 b7 b8 R',
    whlLoop (evT (T.run tb n) wkT) (evSs (T.run tb n) b6_0) (N + 1 + f) [some (.r a), some (.r B.length), some (.p (.int num)), some (.p (.lst (left.map D.int))), a4, a5, a6, a7, a8] (B ++ fo ord :: R) = .ok (.nx, [some (.r a), some (.r B.length), some (.p (.int (wk L (N + 1) ord num left).2)), b3, b4, b5, b6, b7, b8]) (B ++ fo (wk L (N + 1) ord num left).1 :: R')
  | N, ord, num, left, R, a4, a5, a6, a7, a8, hM, h100, lo, l5, f => by
    have gt := goesT n (h.app (fo ord :: R)) num left (by omega) (some (.r B.length)) a4 a5 a6 a7 a8
    cases q : goes L num left with
    | false =>
      rw [q] at gt
      rw [show N + 1 + f = (N + f) + 1 by omega, wk, q]
      exact ⟨_, _, _, _, _, _, _, whl_f gt⟩
    | true =>
      rw [q] at gt
      cases N with
      | zero =>
        rw [goes_low low (by omega) (by omega)] at q
        cases q
      | succ N =>
        obtain ⟨b4, b5, b6, b7, b8, e1⟩ := walkT n h ok ord num left R a4 a5 a6 a7 a8 q l5 (by omega)
        have hg := q
        unfold goes at hg
        rw [Bool.and_eq_true, List.all_eq_true] at hg
        have w2 := (wds_ok ok hg.2).2
        obtain ⟨c3, c4, c5, c6, c7, c8, R', e2⟩ := walkW n h ok low N (ord ++ wdsL L num left) (num + 1) (lefts left (wdsL L num left)) (R ++ [.dead]) b4 b5 b6 b7 b8 (by omega) (by omega) (by rw [List.length_append]; omega) (Nat.le_trans (lefts_len _ _) l5) f
        refine ⟨c3, c4, c5, c6, c7, c8, R', ?_⟩
        rw [show N + 1 + 1 + f = (N + 1 + f) + 1 by omega, whl_t gt e1, wk]
        simp only [q, if_true]
        exact e2
theorem ranI_len {gates : Int} : (rangeI gates).length = gates.toNat := by unfold rangeI; simp
/-- what the walk comes to -/
noncomputable def wkF (L : GL) (gates : Int) : List D × Int := wk L 21 [] 0 (rangeI gates)
theorem walkM (m : Nat) (hm : 1 ≤ m) {st : Sto} (h : GAt st a b gates L) (ok : GOk gates L) (low : Low L 20) (h0 : 0 ≤ gates) (h5 : gates ≤ 5) :
    ∃ (X : Sto) (t : Nat), T.run tb m 6 [.r a] st = .ok (.r t) (st ++ X) ∧ st.length < t ∧ (st ++ X)[t]? = some (.tup [.r st.length, .p (.int (wkF L gates).2)]) ∧ (st ++ X)[st.length]? = some (fo (wkF L gates).1) := by
  obtain ⟨n, rfl⟩ : ∃ n, m = n + 1 := ⟨m - 1, by omega⟩
  rw [run_go 1 9 b6 [some (.r a), none, none, none, none, none, none, none, none] rfl _ rfl rfl]
  obtain ⟨k, hk⟩ := fuel_eq 20 (by decide)
  have l5 : (rangeI gates).length ≤ 5 := by rw [ranI_len]; omega
  obtain ⟨b3, b4, b5, b6', b7, b8, R', e⟩ := walkW n h ok low 20 [] 0 (rangeI gates) [] none none none none none (by decide) (by decide) (by decide) l5 k
  rw [← hk] at e
  unfold wkT at e
  have n1 : fLst true [] st = .ok (.r st.length) (st ++ [fo []]) := rfl
  have f1 := fun x => fld_k (c := 4) (n := a) (h.app x).i (fs_gates gates b)
  have rg := fun st => rgl_k (st := st) h0 (show gates ≤ 1000 by omega)
  have tm : ∀ es ρ (st : Sto), evE (T.run tb n) (.tupM es) ρ st = kBind (fun ws st => if lenOk ws.length then newO (.tup ws) st else .err) (evEs (T.run tb n) es ρ st) := fun es ρ st => by rw [evE]; rfl
  have tn : ∀ (v : Int) (st' : Sto), (if lenOk [W.r st.length, .p (.int v)].length then newO (.tup [W.r st.length, .p (.int v)]) st' else .err) = .ok (.r st'.length) (st' ++ [.tup [.r st.length, .p (.int v)]]) := fun v st' => rfl
  refine ⟨fo (wkF L gates).1 :: R' ++ [.tup [.r st.length, .p (.int (wkF L gates).2)]], (st ++ fo (wkF L gates).1 :: R').length, ?_, ?_, ?_, ?_⟩
  · simp only [b6, ev0, ev1, ev2, ev3, ev4, ev5, ey, ex, n1, f1, e_rgl, rg, e, tm, tn]
    rw [List.append_assoc]
    rfl
  · rw [List.length_append, List.length_cons]; omega
  · rw [← List.append_assoc]
    exact at_new _ [] _
  · exact at_new _ _ _
theorem orderM (m : Nat) (hm : 2 ≤ m) {st : Sto} (h : GAt st a b gates L) (ok : GOk gates L) (low : Low L 20) (h0 : 0 ≤ gates) (h5 : gates ≤ 5) :
    ∃ (X : Sto), T.run tb m 7 [.r a] st = .ok (.r st.length) (st ++ X) ∧ (st ++ X)[st.length]? = some (fo (wkF L gates).1) := by
  obtain ⟨n, rfl⟩ : ∃ n, m = n + 1 := ⟨m - 1, by omega⟩
  rw [run_go 1 1 b7 [some (.r a)] rfl _ rfl rfl]
  obtain ⟨X, t, e, lt, h1, h2⟩ := walkM n (by omega) h ok low h0 h5
  have mk := fun (es : Exs) (ρ : Nv) => mth_k (C := T.run tb n) (ρ := ρ) (c := 4) (n := a) (f := 6) (es := es) (st := st) h.i (fs_walk gates b)
  have ix : ixW (st ++ X) (.r t) (.p (.int 0)) = some (.r st.length) := by
    unfold ixW
    simp only [h1]
    rfl
  refine ⟨X, ?_, h2⟩
  simp only [b7, ev0, ev1, ev2, ev3, ev4, ev5, ey, mk, e, ix]
theorem knownM (m : Nat) (hm : 2 ≤ m) {st : Sto} (h : GAt st a b gates L) (ok : GOk gates L) (low : Low L 20) (h0 : 0 ≤ gates) (h5 : gates ≤ 5) :
    ∃ (X : Sto), T.run tb m 8 [.r a] st = .ok (.p (.int (wkF L gates).2)) (st ++ X) := by
  obtain ⟨n, rfl⟩ : ∃ n, m = n + 1 := ⟨m - 1, by omega⟩
  rw [run_go 1 1 b8 [some (.r a)] rfl _ rfl rfl]
  obtain ⟨X, t, e, lt, h1, h2⟩ := walkM n (by omega) h ok low h0 h5
  have mk := fun (es : Exs) (ρ : Nv) => mth_k (C := T.run tb n) (ρ := ρ) (c := 4) (n := a) (f := 6) (es := es) (st := st) h.i (fs_walk gates b)
  have ix : ixW (st ++ X) (.r t) (.p (.int 1)) = some (.p (.int (wkF L gates).2)) := by
    unfold ixW
    simp only [h1]
    rfl
  refine ⟨X, ?_⟩
  simp only [b8, ev0, ev1, ev2, ev3, ev4, ev5, ey, mk, e, ix]
end
end My

set_option maxRecDepth 100000
set_option maxHeartbeats 8000000
namespace My
open PySem T
/-! ### the law's walk, plainly -/
noncomputable def addI : List Int → List Int → List Int
  | out, [] => out
  | out, g :: r => addI (if g ∈ out then out else out ++ [g]) r
noncomputable def wait (gates : Int) (out : List Int) : List Int := (rangeI gates).filter fun g => !decide (g ∈ out)
theorem rangeI_nodup (gates : Int) : (rangeI gates).Nodup := by
  unfold rangeI
  rw [List.nodup_iff_pairwise_ne, List.pairwise_map]
  have := List.nodup_range (n := gates.toNat)
  rw [List.nodup_iff_pairwise_ne] at this
  exact this.imp fun h q => h (by omega)
theorem rangeI_mem {gates g : Int} : g ∈ rangeI gates ↔ 0 ≤ g ∧ g < gates := by
  unfold rangeI
  simp only [List.mem_map, List.mem_range]
  constructor
  · rintro ⟨i, h, rfl⟩; omega
  · intro h
    exact ⟨g.toNat, by omega, by omega⟩
/-- one more gate is out -/
theorem wait_one {gates g : Int} {out : List Int} (hg : 0 ≤ g ∧ g < gates) (h : g ∉ out) : (wait gates (out ++ [g])).length + 1 = (wait gates out).length := by
  have e : wait gates (out ++ [g]) = (wait gates out).erase g := by
    have nd : (wait gates out).Nodup := (rangeI_nodup gates).filter _
    rw [nd.erase_eq_filter]
    unfold wait
    rw [List.filter_filter]
    apply List.filter_congr
    intro x _
    by_cases q : x = g
    · subst q
      simp
    · simp [q]
  have m : g ∈ wait gates out := by
    unfold wait
    rw [List.mem_filter]
    exact ⟨rangeI_mem.mpr hg, by simp [h]⟩
  rw [e, List.length_erase_of_mem m]
  have := List.length_pos_of_mem m
  omega
/-- the law's walk -/
noncomputable def wl (L : GL) (gates : Int) : Nat → List D → Int → List Int → List D × Int
  | 0, ord, num, _ => (ord, num)
  | k + 1, ord, num, out => if decide ((out.length : Int) < gates) && (wait gates out).all fun g => hasL L g num then wl L gates k (ord ++ wdsL L num (wait gates out)) (num + 1) (addI out (outs (ord ++ wdsL L num (wait gates out)))) else (ord, num)
structure Inv (gates : Int) (ord : List D) (out : List Int) : Prop where
  o : ∀ g ∈ outs ord, g ∈ out
  l : ((out.length + (wait gates out).length : Nat) : Int) = gates
end My

set_option maxRecDepth 100000
set_option maxHeartbeats 8000000
namespace My
open PySem T
theorem dyn_go {step : W → Nv → Sto → Res (T.Flow × Nv)} {n : Nat} {ws : List W} (P : Nat → Nv → Sto → Prop) (h0 : ∀ i ρ st, P i ρ st → st[n]? = some (.lst ws)) (h1 : ∀ i x ρ st, ws[i]? = some x → P i ρ st → ∃ ρ' st', step x ρ st = .ok (.nx, ρ') st' ∧ P (i + 1) ρ' st') :
    ∀ (d f i : Nat) (ρ : Nv) (st : Sto), P i ρ st → ws.length - i ≤ d → i ≤ ws.length → ∃ ρ' st', dynLoop step n (d + 1 + f) i ρ st = .ok (.nx, ρ') st' ∧ P ws.length ρ' st'
  | d, f, i, ρ, st, hP, hd, hi => by
    rw [show d + 1 + f = (d + f) + 1 by omega, dynLoop]
    simp only [h0 i ρ st hP]
    by_cases q : i < ws.length
    · rw [List.getElem?_eq_getElem q]
      obtain ⟨ρ1, st1, e, hP1⟩ := h1 i ws[i] ρ st (List.getElem?_eq_getElem q) hP
      simp only [e, bind_ok]
      cases d with
      | zero => omega
      | succ d' =>
        obtain ⟨ρ', st', e2, hP'⟩ := dyn_go P h0 h1 d' f (i + 1) ρ1 st1 hP1 (by omega) q
        refine ⟨ρ', st', ?_, hP'⟩
        rw [show d' + 1 + f = d' + 1 + f from rfl] at e2
        rw [← e2]
    · rw [List.getElem?_eq_none (by omega)]
      have : i = ws.length := by omega
      subst this
      exact ⟨ρ, st, rfl, hP⟩
theorem for_dyn {C : Call} {ρ : Nv} {st : Sto} (tg : Tg) (b : Sms) (n : Nat) : fFor C tg b ρ (.dyn n) st = dynLoop (turn C tg b) n fuel 0 ρ st := rfl
theorem mapM_py : ∀ {ds : List D} {es : List PyData} {st : Sto} {k : Nat}, toPys ds = some es → (ds.map W.p).mapM (pyW st k) = some es := by
  intro ds
  induction ds with
  | nil => intro es st k h; rw [toPys] at h; cases h; rfl
  | cons d ds ih =>
    intro es st k h
    rw [toPys] at h
    cases q1 : toPy d with
    | none => simp only [q1] at h; cases h
    | some e =>
      cases q2 : toPys ds with
      | none => simp only [q1, q2] at h; cases h
      | some es' =>
        simp only [q1, q2] at h
        cases h
        have : pyW st k (.p d) = some e := by cases k <;> exact q1
        rw [List.map_cons, List.mapM_cons, this, ih q2]
        rfl
theorem rng_I (gates : Int) : rngL 0 gates.toNat = ((rangeI gates).map D.int).map W.p := by
  unfold rngL rangeI
  rw [List.map_map, List.map_map]
  apply List.map_congr_left
  intro i _
  show W.p (.int (0 + (i : Int))) = _
  rw [Int.zero_add]
  rfl
theorem sm62 {j : Int} (h0 : -1000 ≤ j) (h1 : j ≤ 100000) : small62 j = true := by
  unfold small62
  rw [Bool.and_eq_true]
  exact ⟨decide_eq_true (by omega), decide_eq_true (by omega)⟩
end My

set_option maxRecDepth 100000
set_option maxHeartbeats 8000000
namespace My
open PySem T
noncomputable def Pd (k : Nat) (d : D) : Prop := ∃ e, toPy d = some e ∧ e.depth ≤ k ∧ e.plain = true
theorem pd_int (i : Int) : Pd 1 (.int i) := ⟨_, rfl, by simp [PyData.depth], rfl⟩
theorem pd_str (x : Str) : Pd 1 (.str x) := ⟨_, rfl, by simp [PyData.depth], rfl⟩
theorem pds {k : Nat} : ∀ {ds : List D}, (∀ d ∈ ds, Pd k d) → ∃ es, toPys ds = some es ∧ PyData.depthAll es ≤ k ∧ PyData.plainAll es = true
  | [], _ => ⟨[], rfl, by simp [PyData.depthAll], rfl⟩
  | d :: ds, h => by
    obtain ⟨e, h1, h2, h3⟩ := h d (List.mem_cons_self ..)
    obtain ⟨es, h4, h5, h6⟩ := pds fun x hx => h x (List.mem_cons_of_mem _ hx)
    refine ⟨e :: es, by rw [toPys, h1, h4], ?_, by simp only [PyData.plainAll, h3, h6, Bool.and_self]⟩
    simp only [PyData.depthAll]
    omega
theorem pd_tup {k : Nat} {ds : List D} (h : ∀ d ∈ ds, Pd k d) : Pd (k + 1) (.tup ds) := by
  obtain ⟨es, h4, h5, h6⟩ := pds h
  exact ⟨.tuple es, by rw [toPy, h4]; rfl, by simp only [PyData.depth]; omega, by simp only [PyData.plain, h6]⟩
theorem pd_lst {k : Nat} {ds : List D} (h : ∀ d ∈ ds, Pd k d) : Pd (k + 1) (.lst ds) := by
  obtain ⟨es, h4, h5, h6⟩ := pds h
  exact ⟨.list es, by rw [toPy, h4]; rfl, by simp only [PyData.depth]; omega, by simp only [PyData.plain, h6]⟩
theorem Pd.mono {k l : Nat} {d : D} (h : Pd k d) (hl : k ≤ l) : Pd l d := by
  obtain ⟨e, h1, h2, h3⟩ := h
  exact ⟨e, h1, by omega, h3⟩
theorem eq_self' {d : D} (h : Pd 60 d) {st : Sto} : eqW st (.p d) (.p d) = some true := by
  obtain ⟨e, h1, h2, h3⟩ := h
  exact eqW_refl h1 (by omega) h3
theorem mem2 {P : D → Prop} {a b : D} (h1 : P a) (h2 : P b) : ∀ d ∈ [a, b], P d := fun d hd => by
  simp only [List.mem_cons, List.not_mem_nil, or_false] at hd
  rcases hd with rfl | rfl
  · exact h1
  · exact h2
theorem mem1 {P : D → Prop} {a : D} (h1 : P a) : ∀ d ∈ [a], P d := fun d hd => by
  simp only [List.mem_cons, List.not_mem_nil, or_false] at hd
  subst hd; exact h1
theorem mem3 {P : D → Prop} {a b c : D} (h1 : P a) (h2 : P b) (h3 : P c) : ∀ d ∈ [a, b, c], P d := fun d hd => by
  simp only [List.mem_cons, List.not_mem_nil, or_false] at hd
  rcases hd with rfl | rfl | rfl
  · exact h1
  · exact h2
  · exact h3
theorem pd_trp {gates : Int} {x : D} (h : Trp gates x) : Pd 3 x := by
  obtain ⟨g, n, w, rfl, hw⟩ := h
  refine pd_tup (mem3 ((pd_int _).mono (by decide)) ((pd_int _).mono (by decide)) ?_)
  rcases hw with ⟨i, rfl⟩ | ⟨v, rfl, _, _⟩
  · exact (pd_int _).mono (by decide)
  · exact pd_tup (mem2 (pd_str _) (pd_int _))
section
variable {a b : Nat} {gates : Int} {L : GL}
theorem wk_trp (ok : GOk gates L) : ∀ (k : Nat) (ord : List D) (num : Int) (left : List Int), (∀ x ∈ ord, Trp gates x) → left.length ≤ 5 → (∀ x ∈ (wk L k ord num left).1, Trp gates x) ∧ (wk L k ord num left).1.length ≤ ord.length + 40 * k
  | 0, ord, num, left, h, _ => ⟨h, Nat.le_refl _⟩
  | k + 1, ord, num, left, h, hl => by
    rw [wk]
    split
    · rename_i q
      unfold goes at q
      rw [Bool.and_eq_true, List.all_eq_true] at q
      obtain ⟨w1, w2⟩ := wds_ok ok q.2
      obtain ⟨i1, i2⟩ := wk_trp ok k (ord ++ wdsL L num left) (num + 1) (lefts left (wdsL L num left)) (fun x hx => (List.mem_append.mp hx).elim (h x) (w1 x)) (Nat.le_trans (lefts_len _ _) hl)
      refine ⟨i1, ?_⟩
      rw [List.length_append] at i2
      omega
    · exact ⟨h, by show ord.length ≤ _; omega⟩
theorem wkF_trp (ok : GOk gates L) (h5 : gates ≤ 5) : (∀ x ∈ (wkF L gates).1, Trp gates x) ∧ (wkF L gates).1.length ≤ 840 := by
  have := wk_trp ok 21 [] 0 (rangeI gates) (fun x hx => by cases hx) (by rw [ranI_len]; omega)
  exact ⟨this.1, by have h2 := this.2; show (wk L 21 [] 0 (rangeI gates)).1.length ≤ 840; simpa using h2⟩
/-! ### counts, words, gates -/
theorem countM (m : Nat) (hm : 1 ≤ m) (i : Int) (h : 0 ≤ i) (st : Sto) : T.run tb m 0 [.p (.int i)] st = .ok (.p (.bl true)) st := by
  obtain ⟨n, rfl⟩ : ∃ n, m = n + 1 := ⟨m - 1, by omega⟩
  rw [run_go 1 1 b0 [some (.p (.int i))] rfl _ rfl rfl]
  have : decide (0 ≤ i) = true := decide_eq_true h
  simp only [b0, ev0, ev1, ev2, ev3, ev4, ev5, this]
theorem gateM (m : Nat) (hm : 2 ≤ m) (g : Int) (h : 0 ≤ g) (h1 : g < gates) : T.run tb m 2 [.p (.int gates), .p (.int g)] [] = .ok (.p (.bl true)) [] := by
  obtain ⟨n, rfl⟩ : ∃ n, m = n + 1 := ⟨m - 1, by omega⟩
  rw [run_go 2 2 b2 [some (.p (.int gates)), some (.p (.int g))] rfl _ rfl rfl]
  have : decide (g < gates) = true := decide_eq_true h1
  simp only [b2, ev0, ev1, ev2, ev3, ev4, ev5, countM n (by omega) g h, this]
theorem wordM (m : Nat) (hm : 3 ≤ m) (w : D) (h : Wrd gates w) : T.run tb m 1 [.p (.int gates), .p w] [] = .ok (.p (.bl true)) [] := by
  obtain ⟨n, rfl⟩ : ∃ n, m = n + 1 := ⟨m - 1, by omega⟩
  rw [run_go 2 2 b1 [some (.p (.int gates)), some (.p w)] rfl _ rfl rfl]
  rcases h with ⟨i, rfl⟩ | ⟨v, rfl, v0, v1⟩
  · simp only [b1, ev0, ev1, ev2, ev3, ev4, ev5]
    try rfl
  · simp only [b1, ev0, ev1, ev2, ev3, ev4, ev5, decide_true, List.length_cons, List.length_nil, gateM n (by omega) v v0 v1]
    try rfl
theorem wordsM (m : Nat) (hm : 4 ≤ m) (ws : List D) (h : ∀ w ∈ ws, Wrd gates w) (hl : ws.length ≤ 8) : T.run tb m 3 [.p (.int gates), .p (.tup ws)] [] = .ok (.p (.bl true)) [] := by
  obtain ⟨n, rfl⟩ : ∃ n, m = n + 1 := ⟨m - 1, by omega⟩
  rw [run_go 2 3 b3 [some (.p (.int gates)), some (.p (.tup ws)), none] rfl _ rfl rfl]
  have lp := lc_maps (f := stp (T.run tb n) [some (.p (.int gates)), some (.p (.tup ws)), none] (.nm 2) false (.con .non) (.cal false 1 (.cons (.var 0) (.cons (.var 2) .nil)))) (st := []) (fun _ => .bl true) ws [] (fun d hd => by
    simp only [ev0, ev1, ev2, ev3, ev4, ev5, wordM n (by omega) d (h d hd)]) (by simp only [List.length_nil]; omega)
  rw [List.nil_append] at lp
  have mp : (ws.map fun _ => D.bl true) = (ws.map fun _ => true).map D.bl := by rw [List.map_map]; rfl
  have al : ((ws.map fun _ => true).all id) = true := by rw [List.all_map]; exact List.all_eq_true.mpr fun _ _ => rfl
  have l8 : decide ((8 : Int) < ((ws.length : Nat) : Int)) = false := decide_eq_false (by omega)
  simp only [b3, ev0, ev1, ev2, ev3, ev4, ev5, l8, lp, mp, unW_map, al]
/-- a list comes -/
theorem comeM (m : Nat) (hm : 5 ≤ m) {st : Sto} (h : GAt st a b gates L) (g k : Int) (g0 : 0 ≤ g) (g1 : g < gates) (k0 : 0 ≤ k) (ws : List D) (hw : ∀ w ∈ ws, Wrd gates w) (hl : ws.length ≤ 8) (hn : hasL L g k = false) (hL : L.length < 1000) :
    T.run tb m 5 [.r a, .p (.int g), .p (.int k), .p (.tup ws)] st = .ok (.p .non) (st.set b (dO (L ++ [((g, k), ws)]))) := by
  obtain ⟨n, rfl⟩ : ∃ n, m = n + 1 := ⟨m - 1, by omega⟩
  rw [run_go 4 4 b5 [some (.r a), some (.p (.int g)), some (.p (.int k)), some (.p (.tup ws))] rfl _ rfl rfl]
  have f1 := fld_k (c := 4) (n := a) h.i (fs_gates gates b)
  have f2 := fld_k (c := 4) (n := a) h.i (fs_lists gates b)
  have k2' := fun (x y : D) st => kTup_some (st := st) (ds := [x, y]) (by simp)
  have i1 := in_dO h.l g k
  have s1 := set_dO h.l hn hL ws
  simp only [b5, ev0, ev1, ev2, ev3, ev4, ev5, ew, ey, f1, f2, gateM n (by omega) g g0 g1, countM n (by omega) k k0, wordsM n (by omega) ws hw hl, k2', i1, hn, s1]
theorem initM (m : Nat) (hm : 2 ≤ m) (g0 : 1 ≤ gates) (g5 : gates ≤ 5) (st : Sto) : T.run tb m 4 [.r st.length, .p (.int gates)] (st ++ [.ins 4 []]) = .ok (.p .non) (st ++ [.ins 4 (fsG gates (st.length + 1)), dO []]) := by
  obtain ⟨n, rfl⟩ : ∃ n, m = n + 1 := ⟨m - 1, by omega⟩
  rw [run_go 2 2 b4 [some (.r st.length), some (.p (.int gates))] rfl _ rfl rfl]
  have d1 : decide ((1 : Int) ≤ gates) = true := decide_eq_true g0
  have d2 : decide (gates ≤ 5) = true := decide_eq_true g5
  have s1 := fun (ρ : Nv) => setF_k (st := st ++ [.ins 4 []]) (ρ := ρ) (c := 4) (n := st.length) (f := "gates") (v := .p (.int gates)) (at_new st [] _) (by simp)
  simp only [set_new, fs_i1] at s1
  have s2 := fun (ρ : Nv) => setF_k (st := st ++ [.ins 4 [("gates", .p (.int gates))], dO []]) (ρ := ρ) (c := 4) (n := st.length) (f := "lists") (v := .r (st.length + 1)) (at_new st [dO []] _) (by simp)
  simp only [set_new, fs_i2] at s2
  have nd : newO (.dit []) (st ++ [.ins 4 [("gates", .p (.int gates))]]) = .ok (.r (st.length + 1)) (st ++ [.ins 4 [("gates", .p (.int gates))], dO []]) := by
    show Res.ok (W.r (st ++ [O.ins 4 [("gates", .p (.int gates))]]).length) _ = _
    rw [List.length_append, List.append_assoc]
    rfl
  simp only [b4, ev0, ev1, ev2, ev3, ev4, ev5, ey, e_dnw, countM n (by omega) gates (by omega), d1, d2, s1, if_true, nd, s2]
  try rfl
end
end My

set_option maxRecDepth 100000
set_option maxHeartbeats 8000000
namespace My
open PySem T
theorem b_len_fo {ds : List D} {n : Nat} {st : Sto} (h : st[n]? = some (fo ds)) : fBfn .len [.r n] st = .ok (.p (.int ((ds.length : Nat) : Int))) st := by
  show (match vws st [.r n] with
    | some ds => resD st (bfnD .len ds)
    | none => resD st (bfnO .len [.r n] st)) = _
  rw [vws_c (vw_l h) vws_n]
  rfl
section
variable {C : Call} {ρ : Nv} {x : O} {r : Sto}
end
theorem b_tupl_fo {ds : List D} {n : Nat} {st : Sto} (h : st[n]? = some (fo ds)) : fBfn .tupl [.r n] st = .ok (.p (.tup ds)) st := by
  show (match vws st [.r n] with
    | some ds => resD st (bfnD .tupl ds)
    | none => resD st (bfnO .tupl [.r n] st)) = _
  rw [vws_c (vw_l h) vws_n]
  rfl
/-! ### words drawn -/
end My

set_option maxRecDepth 100000
set_option maxHeartbeats 8000000
namespace My
open PySem T
/-! ### gates left out: the plain law -/
/-- the lists as they are drawn: all gates in all rounds; at a round some are left out -/
structure Bs (G R a : Int) (out : List Int) (E : GL) : Prop where
  has : ∀ g n, 0 ≤ g → g < G → 0 ≤ n → n < R → hasL E g n = true
  on : ∀ x : Int, (∃ g, 0 ≤ g ∧ g < G ∧ ∃ w ∈ getL E g a, outW w = some x) ↔ x ∈ out
  bef : ∀ g n, 0 ≤ g → g < G → 0 ≤ n → n < a → ∀ w ∈ getL E g n, outW w = none
  aft : ∀ g n, 0 ≤ g → g < G → a < n → n < R → g ∉ out → ∀ w ∈ getL E g n, ∀ x, outW w = some x → x ∈ out
/-- lists that are alike but for those of gates left out, for later rounds -/
structure Lk (G R a : Int) (out : List Int) (E L : GL) : Prop where
  has : ∀ g n, 0 ≤ g → g < G → 0 ≤ n → n < R → (n ≤ a ∨ g ∉ out) → hasL L g n = true ∧ getL L g n = getL E g n
  no : ∀ g, 0 ≤ g → g < G → g ∉ out → hasL L g R = false
noncomputable def leftF (G a : Int) (out : List Int) (n : Int) : List Int := (rangeI G).filter fun g => decide (n ≤ a) || !decide (g ∈ out)
noncomputable def dueK (G a : Int) (out : List Int) (E : GL) : Nat → Int → List D → Int → List D × Int
  | 0, _, ord, kn => (ord, kn)
  | k + 1, n, ord, kn => dueK G a out E k (n + 1) (ord ++ wdsL E n (leftF G a out n)) (kn + if leftF G a out n = [] then 0 else 1)
theorem leftF_mem {G a : Int} {out : List Int} {n g : Int} : g ∈ leftF G a out n ↔ (0 ≤ g ∧ g < G) ∧ (n ≤ a ∨ g ∉ out) := by
  unfold leftF
  rw [List.mem_filter, rangeI_mem, Bool.or_eq_true, decide_eq_true_eq, Bool.not_eq_true', decide_eq_false_iff_not]
theorem leftF_late {G a : Int} {out : List Int} {n m : Int} (h1 : a < n) (h2 : a < m) : leftF G a out n = leftF G a out m := by
  unfold leftF
  rw [decide_eq_false (show ¬ n ≤ a by omega), decide_eq_false (show ¬ m ≤ a by omega)]
theorem leftF_soon {G a : Int} {out : List Int} {n : Int} (h : n ≤ a) : leftF G a out n = rangeI G := by
  unfold leftF
  rw [decide_eq_true h]
  exact List.filter_eq_self.mpr fun _ _ => rfl
theorem wds_nil (E : GL) (n : Int) : wdsL E n [] = [] := rfl
theorem due_nil {G a : Int} {out : List Int} {E : GL} : ∀ (k : Nat) (n : Int) (ord : List D) (kn : Int), (∀ m, n ≤ m → leftF G a out m = []) → dueK G a out E k n ord kn = (ord, kn)
  | 0, _, _, _, _ => rfl
  | k + 1, n, ord, kn, h => by
    rw [dueK, h n (Int.le_refl _), wds_nil, List.append_nil, if_pos rfl, Int.add_zero]
    exact due_nil k (n + 1) ord kn fun m hm => h m (by omega)
theorem wds_alike {E L : GL} {n : Int} : ∀ {left : List Int}, (∀ g ∈ left, getL L g n = getL E g n) → wdsL L n left = wdsL E n left
  | [], _ => rfl
  | g :: r, h => by
    have ih := wds_alike (left := r) fun x hx => h x (List.mem_cons_of_mem _ hx)
    unfold wdsL at ih ⊢
    rw [List.flatMap_cons, List.flatMap_cons, ih, h g List.mem_cons_self]
theorem outs_wds {L : GL} {n : Int} {x : Int} : ∀ {left : List Int}, x ∈ outs (wdsL L n left) ↔ ∃ g ∈ left, ∃ w ∈ getL L g n, outW w = some x := by
  intro left
  unfold outs wdsL
  rw [List.mem_filterMap]
  constructor
  · rintro ⟨y, hy, e⟩
    obtain ⟨g, hg, hy⟩ := List.mem_flatMap.mp hy
    obtain ⟨w, hw, rfl⟩ := List.mem_map.mp hy
    exact ⟨g, hg, w, hw, e⟩
  · rintro ⟨g, hg, w, hw, e⟩
    exact ⟨_, List.mem_flatMap.mpr ⟨g, hg, List.mem_map.mpr ⟨w, hw, rfl⟩⟩, e⟩
theorem next_left {G R a : Int} {out : List Int} {E : GL} (B : Bs G R a out E) {n : Int} (h0 : 0 ≤ n) (h1 : n < R) : lefts (leftF G a out n) (wdsL E n (leftF G a out n)) = leftF G a out (n + 1) := by
  unfold lefts
  by_cases c1 : n < a
  · rw [leftF_soon (show n ≤ a by omega), leftF_soon (show n + 1 ≤ a by omega)]
    refine List.filter_eq_self.mpr fun g hg => ?_
    rw [Bool.not_eq_true', decide_eq_false_iff_not]
    intro q
    obtain ⟨g', hg', w, hw, e⟩ := outs_wds.mp q
    have hg' := rangeI_mem.mp hg'
    rw [B.bef g' n hg'.1 hg'.2 h0 c1 w hw] at e
    cases e
  · by_cases c2 : n = a
    · subst c2
      have r : leftF G n out n = rangeI G := leftF_soon (Int.le_refl _)
      have mem : ∀ g, g ∈ outs (wdsL E n (leftF G n out n)) ↔ g ∈ out := fun g => by
        rw [outs_wds, ← B.on g, r]
        exact ⟨fun ⟨g', h, q⟩ => ⟨g', (rangeI_mem.mp h).1, (rangeI_mem.mp h).2, q⟩, fun ⟨g', h1, h2, q⟩ => ⟨g', rangeI_mem.mpr ⟨h1, h2⟩, q⟩⟩
      rw [r] at mem ⊢
      unfold leftF
      refine List.filter_congr fun g _ => ?_
      rw [decide_eq_false (show ¬ n + 1 ≤ n by omega), Bool.false_or]
      congr 1
      exact decide_eq_decide.mpr (mem g)
    · have c3 : a < n := by omega
      rw [leftF_late (m := n) (show a < n + 1 by omega) c3]
      refine List.filter_eq_self.mpr fun g hg => ?_
      rw [Bool.not_eq_true', decide_eq_false_iff_not]
      intro q
      obtain ⟨g', hg', w, hw, e⟩ := outs_wds.mp q
      have hg := leftF_mem.mp hg
      have hg' := leftF_mem.mp hg'
      have no : g ∉ out := hg.2.resolve_left (by omega)
      exact no (B.aft g' n hg'.1.1 hg'.1.2 c3 h1 (hg'.2.resolve_left (by omega)) w hw g e)
theorem wk_due {G R a : Int} {out : List Int} {E L : GL} (B : Bs G R a out E) (K : Lk G R a out E L) (ha : a < R) : ∀ (k j : Nat) (n : Int) (ord : List D), 0 ≤ n → n + k = R → wk L (k + (j + 1)) ord n (leftF G a out n) = dueK G a out E k n ord n
  | 0, j, n, ord, h0, hn => by
    have e : n = R := by omega
    subst e
    have g : goes L n (leftF G a out n) = false := by
      unfold goes
      cases q : leftF G a out n with
      | nil => rw [decide_eq_true rfl]; rfl
      | cons x r =>
        have hx := leftF_mem.mp (show x ∈ leftF G a out n by rw [q]; exact List.mem_cons_self)
        rw [List.all_cons, K.no x hx.1.1 hx.1.2 (hx.2.resolve_left (by omega)), Bool.false_and, Bool.and_false]
    rw [Nat.zero_add, wk, g, if_neg Bool.false_ne_true, dueK]
  | k + 1, j, n, ord, h0, hn => by
    rw [show k + 1 + (j + 1) = (k + (j + 1)) + 1 by omega, wk]
    by_cases q : leftF G a out n = []
    · have g : goes L n (leftF G a out n) = false := by
        unfold goes
        rw [decide_eq_true q]
        rfl
      rw [g, if_neg Bool.false_ne_true, due_nil]
      intro m hm
      by_cases c : n ≤ a
      · rw [leftF_soon c] at q
        have : ∀ z, z ∈ rangeI G → False := fun z hz => by rw [q] at hz; cases hz
        refine List.eq_nil_iff_forall_not_mem.mpr fun z hz => this z ?_
        have := (leftF_mem.mp hz).1
        exact rangeI_mem.mpr this
      · rw [leftF_late (m := n) (by omega) (by omega)]
        exact q
    · have g : goes L n (leftF G a out n) = true := by
        unfold goes
        rw [decide_eq_false q, Bool.not_false, Bool.true_and, List.all_eq_true]
        intro x hx
        have hx := leftF_mem.mp hx
        exact (K.has x n hx.1.1 hx.1.2 h0 (by omega) hx.2).1
      have al : wdsL L n (leftF G a out n) = wdsL E n (leftF G a out n) := wds_alike fun x hx => by
        have hx := leftF_mem.mp hx
        exact (K.has x n hx.1.1 hx.1.2 h0 (by omega) hx.2).2
      rw [g, if_pos rfl, al, next_left B h0 (by omega), dueK, if_neg q]
      exact wk_due B K ha k j (n + 1) _ (by omega) (by omega)
noncomputable def dueF (G : Int) (R : Nat) (a : Int) (out : List Int) (E : GL) : List D × Int := dueK G a out E R 0 [] 0
theorem wkF_due {G a : Int} {R : Nat} {out : List Int} {E L : GL} (B : Bs G R a out E) (K : Lk G R a out E L) (h0 : 0 ≤ a) (ha : a < R) (r20 : R ≤ 20) : wkF L G = dueF G R a out E := by
  have e := wk_due B K ha R (20 - R) 0 [] (Int.le_refl _) (by omega)
  rw [leftF_soon h0, show R + (20 - R + 1) = 21 by omega] at e
  exact e
end My

set_option maxRecDepth 100000
set_option maxHeartbeats 8000000
namespace My
open PySem T
/-! ### lists by gate and round -/
theorem dO_flat (L : GL) : (dO L).flat = true := by
  show ((L.map fun e => (k2 e.1.1 e.1.2, W.p (.tup e.2))).all fun x => x.2.isP) = true
  rw [List.all_map]
  exact List.all_eq_true.mpr fun _ _ => rfl
theorem hasL_mem {L : GL} {g n : Int} : hasL L g n = true ↔ ∃ e ∈ L, e.1 = (g, n) := by
  unfold hasL
  rw [List.any_eq_true]
  exact ⟨fun ⟨e, he, q⟩ => ⟨e, he, of_decide_eq_true q⟩, fun ⟨e, he, q⟩ => ⟨e, he, decide_eq_true q⟩⟩
theorem getL_of : ∀ {L : GL} {e : (Int × Int) × List D}, (L.map (·.1)).Nodup → e ∈ L → getL L e.1.1 e.1.2 = e.2
  | [], e, _, h => by cases h
  | x :: L, e, nd, h => by
    rw [List.map_cons, List.nodup_cons] at nd
    unfold getL
    rw [List.find?_cons]
    rcases List.mem_cons.mp h with rfl | h
    · have : decide (e.1 = (e.1.1, e.1.2)) = true := decide_eq_true rfl
      rw [this]
      rfl
    · have : decide (x.1 = (e.1.1, e.1.2)) = false := decide_eq_false fun q => nd.1 (List.mem_map.mpr ⟨e, h, by rw [q]⟩)
      rw [this]
      exact getL_of nd.2 h
noncomputable def updL (E : GL) (g n : Int) (ws : List D) : GL := E.map fun e => if e.1 = (g, n) then (e.1, ws) else e
theorem updL_keys (E : GL) (g n : Int) (ws : List D) : (updL E g n ws).map (·.1) = E.map (·.1) := by
  unfold updL
  rw [List.map_map]
  apply List.map_congr_left
  intro e _
  show (if e.1 = (g, n) then (e.1, ws) else e).1 = e.1
  split <;> rfl
theorem updL_len (E : GL) (g n : Int) (ws : List D) : (updL E g n ws).length = E.length := by unfold updL; rw [List.length_map]
theorem hasL_keys {E F : GL} (h : E.map (·.1) = F.map (·.1)) (g n : Int) : hasL E g n = hasL F g n := by
  have e : ∀ L : GL, hasL L g n = (L.map (·.1)).any fun k => decide (k = (g, n)) := fun L => by unfold hasL; rw [List.any_map]; rfl
  rw [e, e, h]
theorem find_upd (g n : Int) (ws : List D) (g' n' : Int) : ∀ E : GL, (updL E g n ws).find? (fun e => decide (e.1 = (g', n'))) = (E.find? fun e => decide (e.1 = (g', n'))).map fun e => if e.1 = (g, n) then (e.1, ws) else e
  | [] => rfl
  | e :: E => by
    have ih := find_upd g n ws g' n' E
    unfold updL at ih ⊢
    rw [List.map_cons, List.find?_cons, List.find?_cons]
    have k : (if e.1 = (g, n) then (e.1, ws) else e).1 = e.1 := by split <;> rfl
    rw [k]
    cases decide (e.1 = (g', n')) with
    | true => rfl
    | false => exact ih
theorem get_upd {E : GL} {g n : Int} (h : hasL E g n = true) (ws : List D) (g' n' : Int) : getL (updL E g n ws) g' n' = if (g', n') = (g, n) then ws else getL E g' n' := by
  unfold getL
  rw [find_upd]
  cases q : E.find? fun e => decide (e.1 = (g', n')) with
  | none =>
    rw [if_neg fun z => ?_]
    · rfl
    · obtain ⟨e, he, e1⟩ := hasL_mem.mp h
      rw [z] at q
      exact (List.find?_eq_none.mp q) e he (decide_eq_true e1)
  | some e =>
    have e1 : e.1 = (g', n') := of_decide_eq_true (List.find?_some (p := fun e : (Int × Int) × List D => decide (e.1 = (g', n'))) q)
    simp only [Option.map_some, Option.getD_some]
    by_cases z : (g', n') = (g, n)
    · rw [if_pos (e1.trans z), if_pos z]
    · rw [if_neg (fun y => z (e1.symm.trans y)), if_neg z]
theorem putK_upd {E : GL} {g n : Int} (h : hasL E g n = true) (ws : List D) : putK (E.map fun e => (k2 e.1.1 e.1.2, W.p (.tup e.2))) (k2 g n) (.p (.tup ws)) = (updL E g n ws).map fun e => (k2 e.1.1 e.1.2, W.p (.tup e.2)) := by
  have a : ((E.map fun e => (k2 e.1.1 e.1.2, W.p (.tup e.2))).any fun kv => decide (kv.1 = k2 g n)) = true := by
    have := hasK_dO g n E
    unfold hasK at this
    rw [this, h]
  unfold putK updL
  rw [if_pos a, List.map_map, List.map_map]
  apply List.map_congr_left
  intro e _
  have d := k2_inj (g := e.1.1) (n := e.1.2) (g' := g) (n' := n)
  show (if k2 e.1.1 e.1.2 = k2 g n then (k2 e.1.1 e.1.2, W.p (.tup ws)) else (k2 e.1.1 e.1.2, W.p (.tup e.2))) = _
  by_cases z : e.1 = (g, n)
  · have : k2 e.1.1 e.1.2 = k2 g n := by rw [z]
    rw [if_pos this]
    show _ = (k2 (if e.1 = (g, n) then (e.1, ws) else e).1.1 (if e.1 = (g, n) then (e.1, ws) else e).1.2, W.p (.tup (if e.1 = (g, n) then (e.1, ws) else e).2))
    rw [if_pos z]
  · have : ¬ k2 e.1.1 e.1.2 = k2 g n := fun y => by
      rw [decide_eq_true y] at d
      exact z (of_decide_eq_true d.symm)
    rw [if_neg this]
    show _ = (k2 (if e.1 = (g, n) then (e.1, ws) else e).1.1 (if e.1 = (g, n) then (e.1, ws) else e).1.2, W.p (.tup (if e.1 = (g, n) then (e.1, ws) else e).2))
    rw [if_neg z]
theorem set_upd {st : Sto} {a : Nat} {E : GL} (h : st[a]? = some (dO E)) {g n : Int} (hh : hasL E g n = true) (hl : E.length < 1000) (ws : List D) : setW st (.r a) (.p (.tup [.int g, .int n])) (.p (.tup ws)) = some (st.set a (dO (updL E g n ws))) := by
  unfold setW
  simp only [h, dO, kTD, Option.bind_some, List.length_map]
  rw [if_pos (by rw [sizeLine_eq]; omega), putK_upd hh]
/-- good lists -/
structure Gd (G : Int) (E : GL) : Prop where
  w : ∀ e ∈ E, ∀ x ∈ e.2, Wrd G x
  l : ∀ e ∈ E, e.2.length ≤ 8
  k : ∀ e ∈ E, (0 ≤ e.1.1 ∧ e.1.1 < G) ∧ 0 ≤ e.1.2 ∧ e.1.2 < 8
  nd : (E.map (·.1)).Nodup
theorem Gd.ok {G : Int} {E : GL} (h : Gd G E) : GOk G E := ⟨h.w, h.l⟩
theorem Gd.low {G : Int} {E : GL} (h : Gd G E) : Low E 20 := fun e he => .inl ⟨(h.k e he).2.1, by have := (h.k e he).2.2; omega⟩
theorem Gd.pre {G : Int} {L X : GL} (h : Gd G (L ++ X)) : Gd G L := ⟨fun e he => h.w e (List.mem_append_left _ he), fun e he => h.l e (List.mem_append_left _ he), fun e he => h.k e (List.mem_append_left _ he), by
  have := h.nd
  rw [List.map_append] at this
  exact (List.nodup_append.mp this).1⟩
/-! ### told -/
noncomputable def lkO (E : GL) : O := .ldt (E.map fun e => (k2 e.1.1 e.1.2, W.p (.tup e.2)))
theorem ix_lk {st : Sto} {a : Nat} {E : GL} (h : st[a]? = some (lkO E)) {g n : Int} (hh : hasL E g n = true) : ixW st (.r a) (.p (.tup [.int g, .int n])) = some (.p (.tup (getL E g n))) := by
  have h : st[a]? = some (.ldt (E.map fun e => (k2 e.1.1 e.1.2, W.p (.tup e.2)))) := h
  unfold ixW
  simp only [h, kTD, Option.bind_some, getK_dO g n E hh]
theorem keys_lk (E : GL) : keysO (lkO E) = some ((E.map fun e => D.tup [.int e.1.1, .int e.1.2]).map W.p) := by
  show some ((E.map fun e => (k2 e.1.1 e.1.2, W.p (.tup e.2))).map fun kv => W.p (.tup (kv.1.map kD))) = _
  rw [List.map_map, List.map_map]
  rfl
theorem comeLp (n : Nat) (hn : 5 ≤ n) {G : Int} {E : GL} (hE : Gd G E) (hl : E.length ≤ 200) (a0 a1 : Option W) (h1 : a1 = some (.r 0)) : ∀ (X L : GL) (st : Sto) (a3 a4 : Option W), E = L ++ X → st[0]? = some (lkO E) → GAt st 1 2 G L →
    ∃ b3 b4, forLoop (turn (T.run tb n) (.tup [3, 4]) b12_0) ((X.map fun e => D.tup [.int e.1.1, .int e.1.2]).map W.p) [a0, a1, some (.r 1), a3, a4] st = .ok (.nx, [a0, a1, some (.r 1), b3, b4]) (st.set 2 (dO E))
  | [], L, st, a3, a4, e, _, A => by
    rw [List.append_nil] at e
    subst e
    refine ⟨a3, a4, ?_⟩
    have : st.set 2 (dO E) = st := by
      obtain ⟨h1, h2⟩ := List.getElem?_eq_some_iff.mp A.l
      rw [← h2, List.set_getElem_self]
    rw [this]
    exact for_nil _
  | x :: X, L, st, a3, a4, e, h0, A => by
    subst h1
    have mem : x ∈ E := by rw [e]; exact List.mem_append_right _ List.mem_cons_self
    obtain ⟨⟨g0, g1⟩, k0, k8⟩ := hE.k x mem
    have hx : hasL E x.1.1 x.1.2 = true := hasL_mem.mpr ⟨x, mem, rfl⟩
    have gx := getL_of hE.nd mem
    have i1 := ix_lk h0 hx
    rw [gx] at i1
    have len : L.length < 1000 := by
      have := congrArg List.length e
      rw [List.length_append, List.length_cons] at this
      omega
    have no : hasL L x.1.1 x.1.2 = false := by
      cases q : hasL L x.1.1 x.1.2 with
      | false => rfl
      | true =>
        obtain ⟨y, hy, ey⟩ := hasL_mem.mp q
        have nd := hE.nd
        rw [e, List.map_append, List.map_cons] at nd
        have := (List.nodup_append.mp nd).2.2 y.1 (List.mem_map.mpr ⟨y, hy, rfl⟩) x.1 List.mem_cons_self
        exact absurd ey this
    have cm := comeM n hn A x.1.1 x.1.2 g0 g1 k0 x.2 (hE.w x mem) (hE.l x mem) no len
    have l2 : 2 < st.length := (List.getElem?_eq_some_iff.mp A.l).1
    have A2 : GAt (st.set 2 (dO (L ++ [((x.1.1, x.1.2), x.2)]))) 1 2 G (L ++ [x]) := ⟨by rw [List.getElem?_set_ne (by decide)]; exact A.i, by rw [List.getElem?_set_self l2]⟩
    obtain ⟨b3, b4, e2⟩ := comeLp n hn hE hl a0 (some (.r 0)) rfl X (L ++ [x]) (st.set 2 (dO (L ++ [((x.1.1, x.1.2), x.2)]))) (some (.p (.int x.1.1))) (some (.p (.int x.1.2))) (by rw [e, List.append_assoc]; rfl) (by rw [List.getElem?_set_ne (by decide)]; exact h0) A2
    rw [List.set_set] at e2
    refine ⟨b3, b4, ?_⟩
    have mk := fun (es : Exs) (ρ : Nv) => mth_k (C := T.run tb n) (ρ := ρ) (c := 4) (n := 1) (f := 5) (es := es) A.i (fs_come G _)
    have k2' := fun (x y : D) (st : Sto) => kTup_some (st := st) (ds := [x, y]) (by simp)
    rw [List.map_cons, List.map_cons, for_cons, turn_t2]
    simp only [b12_0, ev0, ev1, ev2, ev3, ev4, ev5, ew, ey, ex, mk, k2', i1, cm, kFor_nx]
    exact e2
theorem toldM (m : Nat) (hm : 7 ≤ m) {G : Int} (g0 : 1 ≤ G) (g5 : G ≤ 5) {E : GL} (hE : Gd G E) (hl : E.length ≤ 200) : ∃ s, T.run tb m 12 [.p (.int G), .r 0] [dO E] = .ok (.p (.tup [.lst (wkF E G).1, .int (wkF E G).2])) (dO E :: s) := by
  obtain ⟨n, rfl⟩ : ∃ n, m = n + 1 := ⟨m - 1, by omega⟩
  rw [run_go 2 5 b12 [some (.p (.int G)), some (.r 0), none, none, none] rfl _ rfl rfl]
  have i1 : fMak (T.run tb n) 4 4 [.p (.int G)] [dO E] = .ok (.r 1) [dO E, .ins 4 (fsG G 2), dO []] := mak_k (st := [dO E]) (initM n (by omega) g0 g5 [dO E])
  obtain ⟨b3, b4, e1⟩ := comeLp n (by omega) hE hl (some (.p (.int G))) (some (.r 0)) rfl E [] [lkO E, .ins 4 (fsG G 2), dO []] none none rfl rfl ⟨rfl, rfl⟩
  have e1 : forLoop (turn (T.run tb n) (.tup [3, 4]) b12_0) ((E.map fun e => D.tup [.int e.1.1, .int e.1.2]).map W.p) [some (.p (.int G)), some (.r 0), some (.r 1), none, none] [lkO E, .ins 4 (fsG G 2), dO []] = .ok (.nx, [some (.p (.int G)), some (.r 0), some (.r 1), b3, b4]) [lkO E, .ins 4 (fsG G 2), dO E] := e1
  have fk : evS (T.run tb n) (.forK (.tup [3, 4]) (.var 1) b12_0) [some (.p (.int G)), some (.r 0), some (.r 1), none, none] [dO E, .ins 4 (fsG G 2), dO []] = .ok (.nx, [some (.p (.int G)), some (.r 0), some (.r 1), b3, b4]) [dO E, .ins 4 (fsG G 2), dO E] := by
    have := forK_k (C := T.run tb n) (tg := .tup [3, 4]) (a := .var 1) (b := b12_0) (n := 0) (o := dO E) (l := lkO E) (ρ := [some (.p (.int G)), some (.r 0), some (.r 1), none, none]) (st := [dO E, .ins 4 (fsG G 2), dO []]) (s := [dO E, .ins 4 (fsG G 2), dO []]) (s1 := [lkO E, .ins 4 (fsG G 2), dO []]) (o2 := dO E) (by simp only [ev0, ev1, ev2, ev3, ev4, ev5]) rfl rfl (by simp only [ev0, ev1, ev2, ev3, ev4, ev5]) rfl (keys_lk E) e1 rfl rfl
    exact this
  have A1 : GAt [dO E, .ins 4 (fsG G 2), dO E] 1 2 G E := ⟨rfl, rfl⟩
  obtain ⟨X1, e2, o1⟩ := orderM n (by omega) A1 hE.ok hE.low (by omega) g5
  have fz := fFz_l o1
  obtain ⟨S2, hS2⟩ : ∃ S2, S2 = ([dO E, .ins 4 (fsG G 2), dO E] ++ X1).set 3 O.dead := ⟨_, rfl⟩
  have fz : fFz (.r 3) ([dO E, .ins 4 (fsG G 2), dO E] ++ X1) = .ok (.p (.lst (wkF E G).1)) S2 := by rw [hS2]; exact fz
  have e2 : T.run tb n 7 [.r 1] [dO E, .ins 4 (fsG G 2), dO E] = .ok (.r 3) ([dO E, .ins 4 (fsG G 2), dO E] ++ X1) := e2
  have A2 : GAt S2 1 2 G E := by
    have q := A1.app X1
    refine ⟨?_, ?_⟩
    · rw [hS2, List.getElem?_set_ne (by decide)]; exact q.i
    · rw [hS2, List.getElem?_set_ne (by decide)]; exact q.l
  obtain ⟨X2, e3⟩ := knownM n (by omega) A2 hE.ok hE.low (by omega) g5
  have mk1 := fun (es : Exs) (ρ : Nv) => mth_k (C := T.run tb n) (ρ := ρ) (c := 4) (n := 1) (f := 7) (es := es) A1.i (fs_order G _)
  have mk2 := fun (es : Exs) (ρ : Nv) => mth_k (C := T.run tb n) (ρ := ρ) (c := 4) (n := 1) (f := 8) (es := es) A2.i (fs_known G _)
  have k2' := fun (x y : D) (st : Sto) => kTup_some (st := st) (ds := [x, y]) (by simp)
  obtain ⟨Y, hY⟩ : ∃ Y, S2 ++ X2 = dO E :: Y := by
    rw [hS2]
    exact ⟨_, rfl⟩
  rw [hY] at e3
  refine ⟨Y, ?_⟩
  simp only [b12, ev0, ev1, ev2, ev3, ev4, ev5, ew, ey, ex, i1, fk, mk1, e2, fz, mk2, e3, k2']
end My

set_option maxRecDepth 100000
set_option maxHeartbeats 8000000
namespace My
open PySem T
/-! ### drawn: numbers, words, lists -/
theorem rng_nat (n : Nat) : rngL 0 n = ((List.range n).map fun (i : Nat) => D.int (i : Int)).map W.p := by
  unfold rngL
  rw [List.map_map]
  apply List.map_congr_left
  intro i _
  rw [Int.zero_add]
  rfl
theorem tp_flat (ns : List Int) (p c : Int) : (tp ns p c).flat = true := rfl
theorem st_lt0 {s : Sto} {x : O} {i : Nat} (h : s[i]? = some x) : i < s.length := (List.getElem?_eq_some_iff.mp h).1
theorem digS (n : Nat) (hn : 2 ≤ n) {st : Sto} {ns : List Int} {p c : Int} (h : st[0]? = some (tp ns p c)) (hp : 0 ≤ p) (hp2 : p < 2 ^ 30) (many : Int) (h0 : 0 < many) (h1 : many < 2 ^ 80) :
    ∃ d p' c' : Int, fCal false (T.run tb n) 10 [.r 0, .p (.int many)] st = .ok (.p (.int d)) (st.set 0 (tp ns p' c')) ∧ 0 ≤ d ∧ d < many ∧ p ≤ p' ∧ p' ≤ p + 1 := by
  obtain ⟨d, p', c', e, r⟩ := digitM n hn ns p c many hp hp2 h0 h1
  refine ⟨d, p', c', ?_, r⟩
  rw [cal_q h (tp_flat ns p c) rfl, e, kQ_p (tp_flat ns p' c')]
theorem plnL {n : Nat} (hn : 2 ≤ n) {ρ : Nv} (h0 : ρ[0]? = some (some (.r 0))) (hl : 1 < ρ.length) (ns : List Int) : ∀ (xs acc : List W) (p c : Int), acc.length + xs.length ≤ 1000 → 0 ≤ p → p + (xs.length : Nat) < 2 ^ 30 →
    ∃ (is : List Int) (p' c' : Int), lcLoop (stp (T.run tb n) ρ (.nm 1) false (.con .non) (.bin .sub (.cal false 10 (.cons (.var 0) (.cons (.con (.int 50)) .nil))) (.con (.int 9)))) xs acc [tp ns p c] = .ok (acc ++ (is.map D.int).map W.p) [tp ns p' c'] ∧ is.length = xs.length ∧ p ≤ p' ∧ p' ≤ p + (xs.length : Nat)
  | [], acc, p, c, _, _, _ => ⟨[], p, c, by rw [lc_nil]; show _ = Res.ok (acc ++ []) _; rw [List.append_nil], rfl, Int.le_refl _, by simp⟩
  | x :: xs, acc, p, c, hl', hp, hp2 => by
    rw [List.length_cons] at hl' hp2
    obtain ⟨d, p1, c1, e1, d0, d1, pa, pb⟩ := digS n hn (st := [tp ns p c]) rfl hp (by omega) 50 (by decide) (by decide)
    have e1 : fCal false (T.run tb n) 10 [.r 0, .p (.int 50)] [tp ns p c] = .ok (.p (.int d)) [tp ns p1 c1] := e1
    obtain ⟨is, p2, c2, e2, l, pc, pd⟩ := plnL hn h0 hl ns xs (acc ++ [.p (.int (d - 9))]) p1 c1 (by rw [List.length_append, List.length_singleton]; omega) (by omega) (by omega)
    refine ⟨(d - 9) :: is, p2, c2, ?_, by rw [List.length_cons, l, List.length_cons], by omega, by rw [List.length_cons]; omega⟩
    have v0 : (ρ.set 1 (some x))[0]? = some (some (.r 0)) := by rw [List.getElem?_set_ne (by decide)]; exact h0
    have st1 : stp (T.run tb n) ρ (.nm 1) false (.con .non) (.bin .sub (.cal false 10 (.cons (.var 0) (.cons (.con (.int 50)) .nil))) (.con (.int 9))) x [tp ns p c] = .ok (some (.p (.int (d - 9)))) [tp ns p1 c1] := by
      rw [stp_nm]
      simp only [ev0, ev1, ev2, ev3, ev4, ev5, v0, e1]
    rw [lc_some st1 (by omega), e2, List.append_assoc]
    rfl
theorem plainM (m : Nat) (hm : 3 ≤ m) (ns : List Int) (p c : Int) (hp : 0 ≤ p) (hp2 : p + 10 < 2 ^ 30) : ∃ (is : List Int) (p' c' : Int), T.run tb m 11 [.r 0] [tp ns p c] = .ok (.p (.tup (is.map D.int))) [tp ns p' c'] ∧ is.length ≤ 3 ∧ p ≤ p' ∧ p' ≤ p + 4 := by
  obtain ⟨n, rfl⟩ : ∃ n, m = n + 1 := ⟨m - 1, by omega⟩
  rw [run_go 1 2 b11 [some (.r 0), none] rfl _ rfl rfl]
  obtain ⟨d, p1, c1, e1, d0, d1, pa, pb⟩ := digS n (by omega) (st := [tp ns p c]) rfl hp (by omega) 4 (by decide) (by decide)
  have e1 : fCal false (T.run tb n) 10 [.r 0, .p (.int 4)] [tp ns p c] = .ok (.p (.int d)) [tp ns p1 c1] := e1
  have rl : (rngL 0 d.toNat).length = d.toNat := by simp [rngL]
  obtain ⟨is, p2, c2, e2, l, pc, pd⟩ := plnL (n := n) (by omega) (ρ := [some (.r 0), none]) rfl (by decide) ns (rngL 0 d.toNat) [] p1 c1 (by rw [rl, List.length_nil]; omega) (by omega) (by rw [rl]; omega)
  rw [rl] at l pd
  rw [List.nil_append] at e2
  refine ⟨is, p2, c2, ?_, by omega, by omega, by omega⟩
  simp only [b11, ev0, ev1, ev2, ev3, ev4, ev5, e1, fR1_int (sm62 (j := d) (by omega) (by omega)), e2, unW_map]
theorem plnS (n : Nat) (hn : 3 ≤ n) {st : Sto} {ns : List Int} {p c : Int} (h : st[0]? = some (tp ns p c)) (hp : 0 ≤ p) (hp2 : p + 10 < 2 ^ 30) : ∃ (is : List Int) (p' c' : Int), fCal false (T.run tb n) 11 [.r 0] st = .ok (.p (.tup (is.map D.int))) (st.set 0 (tp ns p' c')) ∧ is.length ≤ 3 ∧ p ≤ p' ∧ p' ≤ p + 4 := by
  obtain ⟨is, p', c', e, r⟩ := plainM n hn ns p c hp hp2
  refine ⟨is, p', c', ?_, r⟩
  rw [cal_q h (tp_flat ns p c) rfl, e, kQ_p (tp_flat ns p' c')]
/-- drawn as far as a round and a gate -/
structure Dr (G num i : Int) (E : GL) : Prop where
  k : ∀ e ∈ E, (0 ≤ e.1.1 ∧ e.1.1 < G) ∧ 0 ≤ e.1.2 ∧ (e.1.2 < num ∨ (e.1.2 = num ∧ e.1.1 < i))
  h : ∀ g n, 0 ≤ g → g < G → 0 ≤ n → (n < num ∨ (n = num ∧ g < i)) → hasL E g n = true
  nd : (E.map (·.1)).Nodup
  w : ∀ e ∈ E, ∃ is : List Int, e.2 = is.map D.int ∧ is.length ≤ 3
  l : (E.length : Int) ≤ 5 * num + i
theorem Dr.new {G num i : Int} {E : GL} (Dh : Dr G num i E) : hasL E i num = false := by
  cases q : hasL E i num with
  | false => rfl
  | true =>
    obtain ⟨e, he, e1⟩ := hasL_mem.mp q
    have := (Dh.k e he).2.2
    rw [e1] at this
    omega
theorem Dr.step {G num i : Int} {E : GL} (Dh : Dr G num i E) (n0 : 0 ≤ num) (i0 : 0 ≤ i) (iG : i < G) (is : List Int) (hs : is.length ≤ 3) : Dr G num (i + 1) (E ++ [((i, num), is.map D.int)]) := by
  refine ⟨fun e he => ?_, fun g n g0 g1 h0 h => ?_, ?_, fun e he => ?_, ?_⟩
  · rcases List.mem_append.mp he with he | he
    · obtain ⟨a, b, c⟩ := Dh.k e he
      exact ⟨a, b, by omega⟩
    · rw [List.mem_singleton.mp he]
      exact ⟨⟨i0, iG⟩, n0, .inr ⟨rfl, by show i < i + 1; omega⟩⟩
  · by_cases z : n < num ∨ (n = num ∧ g < i)
    · obtain ⟨e, he, q⟩ := hasL_mem.mp (Dh.h g n g0 g1 h0 z)
      exact hasL_mem.mpr ⟨e, List.mem_append_left _ he, q⟩
    · refine hasL_mem.mpr ⟨_, List.mem_append_right _ List.mem_cons_self, ?_⟩
      show (i, num) = (g, n)
      rw [show g = i by omega, show n = num by omega]
  · rw [List.map_append]
    refine List.nodup_append.mpr ⟨Dh.nd, by simp, fun a ha b hb => ?_⟩
    rintro rfl
    rw [List.map_cons, List.map_nil, List.mem_singleton] at hb
    have := Dh.new
    obtain ⟨e, he, q⟩ := List.mem_map.mp ha
    rw [hasL_mem.mpr ⟨e, he, q.trans hb⟩] at this
    cases this
  · rcases List.mem_append.mp he with he | he
    · exact Dh.w e he
    · rw [List.mem_singleton.mp he]
      exact ⟨is, rfl, hs⟩
  · rw [List.length_append, List.length_singleton]
    have := Dh.l
    omega
theorem Dr.next {G num : Int} {E : GL} (Dh : Dr G num G E) (g5 : G ≤ 5) : Dr G (num + 1) 0 E := by
  refine ⟨fun e he => ?_, fun g n g0 g1 h0 h => Dh.h g n g0 g1 h0 (by omega), Dh.nd, Dh.w, by have := Dh.l; omega⟩
  obtain ⟨a, b, c⟩ := Dh.k e he
  exact ⟨a, b, by omega⟩
theorem gateL (n : Nat) (hn : 3 ≤ n) (ns : List Int) {G num : Int} (g5 : G ≤ 5) (n0 : 0 ≤ num) (n8 : num < 8) (q : Nat) (hq : 1 ≤ q) (a0 a2 a3 a4 a7 a8 a9 a11 a12 a13 a14 a15 : Option W) : ∀ (k i : Nat) (E : GL) (st : Sto) (p c : Int) (a10 : Option W), ((i + k : Nat) : Int) = G → Dr G num i E → st[0]? = some (tp ns p c) → st[q]? = some (dO E) → 0 ≤ p → p + (4 * k : Nat) + 10 < 2 ^ 30 →
    ∃ (E' : GL) (p' c' : Int) (b10 : Option W), forLoop (turn (T.run tb n) (.nm 10) b14_2) (((List.range' i k).map fun (j : Nat) => D.int (j : Int)).map W.p) [a0, some (.r 0), a2, a3, a4, some (.r q), some (.p (.int num)), a7, a8, a9, a10, a11, a12, a13, a14, a15] st = .ok (.nx, [a0, some (.r 0), a2, a3, a4, some (.r q), some (.p (.int num)), a7, a8, a9, b10, a11, a12, a13, a14, a15]) ((st.set 0 (tp ns p' c')).set q (dO E')) ∧ Dr G num G E' ∧ p ≤ p' ∧ p' ≤ p + (4 * k : Nat)
  | 0, i, E, st, p, c, a10, hi, Dh, h0, hq', hp, _ => by
    refine ⟨E, p, c, a10, ?_, by have : ((i : Nat) : Int) = G := hi; rw [this] at Dh; exact Dh, Int.le_refl _, by simp⟩
    have e1 : st.set 0 (tp ns p c) = st := by
      obtain ⟨x1, x2⟩ := List.getElem?_eq_some_iff.mp h0
      rw [← x2, List.set_getElem_self]
    have e2 : st.set q (dO E) = st := by
      obtain ⟨x1, x2⟩ := List.getElem?_eq_some_iff.mp hq'
      rw [← x2, List.set_getElem_self]
    rw [e1, e2]
    exact for_nil _
  | k + 1, i, E, st, p, c, a10, hi, Dh, h0, hq', hp, hp2 => by
    obtain ⟨is, p1, c1, e1, l3, pa, pb⟩ := plnS n hn h0 hp (by omega)
    have s1 : (st.set 0 (tp ns p1 c1))[q]? = some (dO E) := by rw [List.getElem?_set_ne (by omega)]; exact hq'
    have len := Dh.l
    have sw := set_dO s1 Dh.new (by omega) (is.map D.int)
    have k2' := fun (x y : D) (st : Sto) => kTup_some (st := st) (ds := [x, y]) (by simp)
    have D' := Dh.step n0 (by omega) (by omega) is l3
    have z0 : ((st.set 0 (tp ns p1 c1)).set q (dO (E ++ [(((i : Int), num), is.map D.int)])))[0]? = some (tp ns p1 c1) := by
      rw [List.getElem?_set_ne (by omega), List.getElem?_set_self (st_lt0 h0)]
    have zq : ((st.set 0 (tp ns p1 c1)).set q (dO (E ++ [(((i : Int), num), is.map D.int)])))[q]? = some (dO (E ++ [(((i : Int), num), is.map D.int)])) := List.getElem?_set_self (st_lt0 s1)
    obtain ⟨E', p2, c2, b10, e2, D2, pc, pd⟩ := gateL n hn ns g5 n0 n8 q hq a0 a2 a3 a4 a7 a8 a9 a11 a12 a13 a14 a15 k (i + 1) _ _ p1 c1 (some (.p (.int (i : Int)))) (by omega) D' z0 zq (by omega) (by omega)
    refine ⟨E', p2, c2, b10, ?_, D2, by omega, by omega⟩
    have sh : (((st.set 0 (tp ns p1 c1)).set q (dO (E ++ [(((i : Int), num), is.map D.int)]))).set 0 (tp ns p2 c2)).set q (dO E') = (st.set 0 (tp ns p2 c2)).set q (dO E') := by
      rw [List.set_comm _ _ (show q ≠ 0 by omega), List.set_set, List.set_set]
    rw [sh] at e2
    rw [List.range'_succ, List.map_cons, List.map_cons, for_cons, turn_nm]
    simp only [b14_2, ev0, ev1, ev2, ev3, ev4, ev5, e1, k2', sw, kFor_nx]
    exact e2
theorem roundL (n : Nat) (hn : 3 ≤ n) (ns : List Int) {G : Int} (g1 : 1 ≤ G) (g5 : G ≤ 5) (q : Nat) (hq : 1 ≤ q) (a0 a2 a4 a7 a8 a9 a11 a12 a13 a14 a15 : Option W) : ∀ (k i : Nat) (E : GL) (st : Sto) (p c : Int) (a6 a10 : Option W), i + k ≤ 8 → Dr G i 0 E → st[0]? = some (tp ns p c) → st[q]? = some (dO E) → 0 ≤ p → p + (20 * k : Nat) + 30 < 2 ^ 30 →
    ∃ (E' : GL) (p' c' : Int) (b6 b10 : Option W), forLoop (turn (T.run tb n) (.nm 6) b14_1) (((List.range' i k).map fun (j : Nat) => D.int (j : Int)).map W.p) [a0, some (.r 0), a2, some (.p (.int G)), a4, some (.r q), a6, a7, a8, a9, a10, a11, a12, a13, a14, a15] st = .ok (.nx, [a0, some (.r 0), a2, some (.p (.int G)), a4, some (.r q), b6, a7, a8, a9, b10, a11, a12, a13, a14, a15]) ((st.set 0 (tp ns p' c')).set q (dO E')) ∧ Dr G ((i + k : Nat) : Int) 0 E' ∧ p ≤ p' ∧ p' ≤ p + (20 * k : Nat)
  | 0, i, E, st, p, c, a6, a10, hi, Dh, h0, hq', hp, _ => by
    refine ⟨E, p, c, a6, a10, ?_, Dh, Int.le_refl _, by simp⟩
    have e1 : st.set 0 (tp ns p c) = st := by
      obtain ⟨x1, x2⟩ := List.getElem?_eq_some_iff.mp h0
      rw [← x2, List.set_getElem_self]
    have e2 : st.set q (dO E) = st := by
      obtain ⟨x1, x2⟩ := List.getElem?_eq_some_iff.mp hq'
      rw [← x2, List.set_getElem_self]
    rw [e1, e2]
    exact for_nil _
  | k + 1, i, E, st, p, c, a6, a10, hi, Dh, h0, hq', hp, hp2 => by
    obtain ⟨g, rfl⟩ : ∃ g : Nat, G = (g : Int) := ⟨G.toNat, by omega⟩
    obtain ⟨E1, p1, c1, b10, e1, D1, pa, pb⟩ := gateL n hn ns (num := (i : Int)) g5 (by omega) (by omega) q hq a0 a2 (some (.p (.int (g : Int)))) a4 a7 a8 a9 a11 a12 a13 a14 a15 g 0 E st p c a10 (by omega) Dh h0 hq' hp (by omega)
    rw [← List.range_eq_range', ← rng_nat] at e1
    have z0 : ((st.set 0 (tp ns p1 c1)).set q (dO E1))[0]? = some (tp ns p1 c1) := by
      rw [List.getElem?_set_ne (by omega), List.getElem?_set_self (st_lt0 h0)]
    have zq : ((st.set 0 (tp ns p1 c1)).set q (dO E1))[q]? = some (dO E1) := List.getElem?_set_self (by rw [List.length_set]; exact st_lt0 hq')
    have D1' := D1.next g5
    obtain ⟨E2, p2, c2, b6, b10', e2, D2, pc, pd⟩ := roundL n hn ns g1 g5 q hq a0 a2 a4 a7 a8 a9 a11 a12 a13 a14 a15 k (i + 1) E1 _ p1 c1 (some (.p (.int (i : Int)))) b10 (by omega) D1' z0 zq (by omega) (by omega)
    refine ⟨E2, p2, c2, b6, b10', ?_, by rw [show i + (k + 1) = i + 1 + k by omega]; exact D2, by omega, by omega⟩
    have sh : (((st.set 0 (tp ns p1 c1)).set q (dO E1)).set 0 (tp ns p2 c2)).set q (dO E2) = (st.set 0 (tp ns p2 c2)).set q (dO E2) := by
      rw [List.set_comm _ _ (show q ≠ 0 by omega), List.set_set, List.set_set]
    rw [sh] at e2
    have tn : ((g : Nat) : Int).toNat = g := Int.toNat_natCast _
    rw [List.range'_succ, List.map_cons, List.map_cons, for_cons, turn_nm]
    simp only [b14_1, ev0, ev1, ev2, ev3, ev4, ev5, fR1_int (sm62 (j := (g : Int)) (by omega) (by omega)), tn, e1, kFor_nx]
    exact e2
end My

set_option maxRecDepth 100000
set_option maxHeartbeats 8000000
namespace My
open PySem T
theorem set_id {s : Sto} {x : O} {i : Nat} (h : s[i]? = some x) : s.set i x = s := by
  obtain ⟨x1, x2⟩ := List.getElem?_eq_some_iff.mp h
  rw [← x2, List.set_getElem_self]
/-! ### gates that are left out -/
noncomputable def outC : Ex := .cmp .gt (.cal false 10 (.cons (.var 1) (.cons (.con (.int 3)) .nil))) (.con (.int 0))
theorem outL {n : Nat} (hn : 2 ≤ n) {ρ : Nv} (h1 : ρ[1]? = some (some (.r 0))) (hl : 10 < ρ.length) (ns : List Int) : ∀ (k i : Nat) (acc : List W) (st : Sto) (p c : Int), st[0]? = some (tp ns p c) → acc.length + k ≤ 1000 → 0 ≤ p → p + (k : Nat) < 2 ^ 30 →
    ∃ (gs : List Int) (p' c' : Int), lcLoop (stp (T.run tb n) ρ (.nm 10) true outC (.var 10)) (((List.range' i k).map fun (j : Nat) => D.int (j : Int)).map W.p) acc st = .ok (acc ++ (gs.map D.int).map W.p) (st.set 0 (tp ns p' c')) ∧ (∀ g ∈ gs, (i : Int) ≤ g ∧ g < ((i + k : Nat) : Int)) ∧ gs.Pairwise (· < ·) ∧ gs.length ≤ k ∧ p ≤ p' ∧ p' ≤ p + (k : Nat)
  | 0, i, acc, st, p, c, h0, _, hp, _ => ⟨[], p, c, by rw [set_id h0]; show lcLoop _ [] acc st = Res.ok (acc ++ []) _; rw [lc_nil, List.append_nil], (fun g hg => by cases hg), .nil, Nat.le_refl _, Int.le_refl _, by simp⟩
  | k + 1, i, acc, st, p, c, h0, ha, hp, hp2 => by
    obtain ⟨d, p1, c1, e1, d0, d1, pa, pb⟩ := digS n hn h0 hp (by omega) 3 (by decide) (by decide)
    have z0 : (st.set 0 (tp ns p1 c1))[0]? = some (tp ns p1 c1) := List.getElem?_set_self (st_lt0 h0)
    have v1 : (ρ.set 10 (some (.p (.int (i : Int)))))[1]? = some (some (.r 0)) := by rw [List.getElem?_set_ne (by decide)]; exact h1
    have v10 : (ρ.set 10 (some (.p (.int (i : Int)))))[10]? = some (some (.p (.int (i : Int)))) := List.getElem?_set_self hl
    rw [List.range'_succ, List.map_cons, List.map_cons]
    by_cases g : 0 < d
    · obtain ⟨gs, p2, c2, e2, a1, a2, a3, pc, pd⟩ := outL hn h1 hl ns k (i + 1) (acc ++ [.p (.int (i : Int))]) _ p1 c1 z0 (by rw [List.length_append, List.length_singleton]; omega) (by omega) (by omega)
      rw [List.set_set] at e2
      refine ⟨(i : Int) :: gs, p2, c2, ?_, fun x hx => ?_, List.pairwise_cons.mpr ⟨fun x hx => by have := a1 x hx; omega, a2⟩, by rw [List.length_cons]; omega, by omega, by omega⟩
      · have s1 : stp (T.run tb n) ρ (.nm 10) true outC (.var 10) (.p (.int (i : Int))) st = .ok (some (.p (.int (i : Int)))) (st.set 0 (tp ns p1 c1)) := by
          rw [stp_nmc]
          have zz : decide ((0 : Int) < d) = true := decide_eq_true g
          simp only [outC, ev0, ev1, ev2, ev3, ev4, ev5, v1, e1, zz, v10]
        rw [lc_some s1 (by omega), e2, List.append_assoc]
        rfl
      · rcases List.mem_cons.mp hx with rfl | hx
        · omega
        · have := a1 x hx
          omega
    · obtain ⟨gs, p2, c2, e2, a1, a2, a3, pc, pd⟩ := outL hn h1 hl ns k (i + 1) acc _ p1 c1 z0 (by omega) (by omega) (by omega)
      rw [List.set_set] at e2
      refine ⟨gs, p2, c2, ?_, fun x hx => by have := a1 x hx; omega, a2, by omega, by omega, by omega⟩
      have s1 : stp (T.run tb n) ρ (.nm 10) true outC (.var 10) (.p (.int (i : Int))) st = .ok none (st.set 0 (tp ns p1 c1)) := by
        rw [stp_nmc]
        have zz : decide ((0 : Int) < d) = false := decide_eq_false g
        simp only [outC, ev0, ev1, ev2, ev3, ev4, ev5, v1, e1, zz]
      rw [lc_none s1, e2]
/-! ### words by which they are left out, put in -/
noncomputable def wo (g : Int) : D := .tup [.str "without", .int g]
theorem ins_fo {st : Sto} {w : Nat} {ds : List D} (h : st[w]? = some (fo ds)) (hl : ds.length < 100000) {i : Int} (i0 : 0 ≤ i) (i1 : i ≤ (ds.length : Nat)) (d : D) : fM2 .insert (.r w) [.p (.int i), .p d] st = .ok (.p .non) (st.set w (fo (ds.take i.toNat ++ [d] ++ ds.drop i.toNat))) := by
  have h0 : st[w]? = some (.lst (ds.map W.p)) := h
  show bmtW .insert (.r w) [.p (.int i), .p d] _ = _
  unfold bmtW
  have c : (decide ((ds.map W.p).length < sizeLine) && decide (0 ≤ i) && decide (i ≤ (((ds.map W.p).length : Nat) : Int)) && small62 i) = true := by
    rw [List.length_map, decide_eq_true (show ds.length < sizeLine by rw [sizeLine_eq]; omega), decide_eq_true i0, decide_eq_true i1, sm62 (by omega) (by omega)]
    rfl
  simp only [h0, bmtL, c, if_true]
  unfold fo
  rw [List.map_append, List.map_append, List.map_take, List.map_drop]
  rfl
theorem mem_ins {ds : List D} {i : Nat} {d x : D} : x ∈ ds.take i ++ [d] ++ ds.drop i ↔ x ∈ ds ∨ x = d := by
  rw [List.mem_append, List.mem_append, List.mem_singleton]
  constructor
  · rintro ((h | h) | h)
    · exact .inl (List.mem_of_mem_take h)
    · exact .inr h
    · exact .inl (List.mem_of_mem_drop h)
  · rintro (h | h)
    · rw [← List.take_append_drop i ds, List.mem_append] at h
      exact h.elim (fun h => .inl (.inl h)) .inr
    · exact .inl (.inr h)
theorem insL (n : Nat) (hn : 2 ≤ n) (ns : List Int) (w : Nat) (hw : 1 ≤ w) (a0 a2 a3 a4 a5 a6 a7 a8 a11 a12 a13 a14 a15 : Option W) : ∀ (gs : List Int) (ws : List D) (st : Sto) (p c : Int) (a10 : Option W), st[0]? = some (tp ns p c) → st[w]? = some (fo ws) → ws.length + gs.length ≤ 1000 → 0 ≤ p → p + (gs.length : Nat) < 2 ^ 30 →
    ∃ (ws' : List D) (p' c' : Int) (b10 : Option W), forLoop (turn (T.run tb n) (.nm 10) b14_3) ((gs.map D.int).map W.p) [a0, some (.r 0), a2, a3, a4, a5, a6, a7, a8, some (.r w), a10, a11, a12, a13, a14, a15] st = .ok (.nx, [a0, some (.r 0), a2, a3, a4, a5, a6, a7, a8, some (.r w), b10, a11, a12, a13, a14, a15]) ((st.set 0 (tp ns p' c')).set w (fo ws')) ∧ (∀ x, x ∈ ws' ↔ x ∈ ws ∨ ∃ g ∈ gs, x = wo g) ∧ ws'.length = ws.length + gs.length ∧ p ≤ p' ∧ p' ≤ p + (gs.length : Nat)
  | [], ws, st, p, c, a10, h0, hw', _, hp, _ => ⟨ws, p, c, a10, by rw [set_id h0, set_id hw']; exact for_nil _, fun x => ⟨.inl, fun h => h.elim id fun ⟨g, hg, _⟩ => by cases hg⟩, rfl, Int.le_refl _, by simp⟩
  | g :: gs, ws, st, p, c, a10, h0, hw', hl, hp, hp2 => by
    rw [List.length_cons] at hl hp2
    obtain ⟨d, p1, c1, e1, d0, d1, pa, pb⟩ := digS n hn h0 hp (by omega) ((ws.length : Int) + 1) (by omega) (by omega)
    have s1 : (st.set 0 (tp ns p1 c1))[w]? = some (fo ws) := by rw [List.getElem?_set_ne (by omega)]; exact hw'
    have i1 := ins_fo s1 (by omega) d0 (show d ≤ (ws.length : Nat) by omega) (wo g)
    have z0 : ((st.set 0 (tp ns p1 c1)).set w (fo (ws.take d.toNat ++ [wo g] ++ ws.drop d.toNat)))[0]? = some (tp ns p1 c1) := by rw [List.getElem?_set_ne (by omega), List.getElem?_set_self (st_lt0 h0)]
    have zw : ((st.set 0 (tp ns p1 c1)).set w (fo (ws.take d.toNat ++ [wo g] ++ ws.drop d.toNat)))[w]? = some (fo (ws.take d.toNat ++ [wo g] ++ ws.drop d.toNat)) := List.getElem?_set_self (st_lt0 s1)
    have len : (ws.take d.toNat ++ [wo g] ++ ws.drop d.toNat).length = ws.length + 1 := by
      rw [List.length_append, List.length_append, List.length_take, List.length_drop, List.length_singleton]
      omega
    obtain ⟨ws', p2, c2, b10, e2, m2, l2, pc, pd⟩ := insL n hn ns w hw a0 a2 a3 a4 a5 a6 a7 a8 a11 a12 a13 a14 a15 gs _ _ p1 c1 (some (.p (.int g))) z0 zw (by rw [len]; omega) (by omega) (by omega)
    have sh : (((st.set 0 (tp ns p1 c1)).set w (fo (ws.take d.toNat ++ [wo g] ++ ws.drop d.toNat))).set 0 (tp ns p2 c2)).set w (fo ws') = (st.set 0 (tp ns p2 c2)).set w (fo ws') := by
      rw [List.set_comm _ _ (show w ≠ 0 by omega), List.set_set, List.set_set]
    rw [sh] at e2
    refine ⟨ws', p2, c2, b10, ?_, fun x => ?_, by rw [l2, len, List.length_cons]; omega, by omega, by rw [List.length_cons]; omega⟩
    · have fr := fun (es : Exs) (ρ : Nv) => fM1_r (C := T.run tb n) (ρ := ρ) (n := w) (xs := ws.map W.p) (st := st) hw' .insert es
      have bl := b_len_fo hw'
      have k2' : ∀ st : Sto, kTup st (some [.str "without", .int g]) = .ok (.p (wo g)) st := fun st => kTup_some (ds := [.str "without", .int g]) (by simp)
      rw [List.map_cons, List.map_cons, for_cons, turn_nm]
      simp only [b14_3, ev0, ev1, ev2, ev3, ev4, ev5, fr, bl, e1, k2', i1, kFor_nx]
      exact e2
    · rw [m2, mem_ins]
      constructor
      · rintro ((h | h) | ⟨y, hy, h⟩)
        · exact .inl h
        · exact .inr ⟨g, List.mem_cons_self, h⟩
        · exact .inr ⟨y, List.mem_cons_of_mem _ hy, h⟩
      · rintro (h | ⟨y, hy, h⟩)
        · exact .inl (.inl h)
        · rcases List.mem_cons.mp hy with rfl | hy
          · exact .inl (.inr h)
          · exact .inr ⟨y, hy, h⟩
/-! ### what is due -/
theorem wdsG (n : Nat) {E : GL} (hE : ∀ e ∈ E, e.2.length ≤ 9) (num : Int) (a0 a2 a3 a4 a6 a8 : Option W) : ∀ (gs : List Int) (ord : List D) (a9 a10 : Option W), (∀ g ∈ gs, hasL E g num = true) → ord.length + 9 * gs.length ≤ 10000 →
    ∃ b9 b10, forLoop (turn (T.run tb n) (.nm 9) b13_1) ((gs.map D.int).map W.p) [a0, some (.r 0), a2, a3, a4, some (.p (.lst ord)), a6, some (.p (.int num)), a8, a9, a10] [dO E] = .ok (.nx, [a0, some (.r 0), a2, a3, a4, some (.p (.lst (ord ++ wdsL E num gs))), a6, some (.p (.int num)), a8, b9, b10]) [dO E]
  | [], ord, a9, a10, _, _ => ⟨a9, a10, by
    have : ord ++ wdsL E num [] = ord := List.append_nil ord
    rw [this]
    exact for_nil _⟩
  | g :: gs, ord, a9, a10, hg, hl => by
    rw [List.length_cons] at hl
    have hh := hg g (List.mem_cons_self ..)
    obtain ⟨e, he, q⟩ := getL_mem hh
    have l8 : (getL E g num).length ≤ 9 := by rw [q]; exact hE e he
    obtain ⟨b9, b10, e2⟩ := wdsG n hE num a0 a2 a3 a4 a6 a8 gs (ord ++ (getL E g num).map fun w => D.tup [.int g, .int num, w]) (some (.p (.int g))) a10 (fun x hx => hg x (List.mem_cons_of_mem _ hx)) (by rw [List.length_append, List.length_map]; omega)
    refine ⟨b9, b10, ?_⟩
    have ix := ix_dO (st := [dO E]) (a := 0) rfl hh
    have k3 := fun (x y z : D) (st : Sto) => kTup_some (st := st) (ds := [x, y, z]) (by simp)
    have k2' := fun (x y : D) (st : Sto) => kTup_some (st := st) (ds := [x, y]) (by simp)
    have lp := lc_maps (f := stp (T.run tb n) [a0, some (.r 0), a2, a3, a4, some (.p (.lst ord)), a6, some (.p (.int num)), a8, some (.p (.int g)), a10] (.nm 10) false (.con .non) (.tup (.cons (.var 9) (.cons (.var 7) (.cons (.var 10) .nil))))) (st := [dO E]) (fun w => .tup [.int g, .int num, w]) (getL E g num) [] (fun w hw => by
      simp only [ev0, ev1, ev2, ev3, ev4, ev5, k3]) (by simp only [List.length_nil]; omega)
    rw [List.nil_append] at lp
    have bl := fun (st : Sto) => bin_lst (st := st) (x := ord) (y := (getL E g num).map fun w => D.tup [.int g, .int num, w]) (by rw [List.length_map]; omega)
    rw [List.map_cons, List.map_cons, for_cons, turn_nm]
    have sp : ord ++ wdsL E num (g :: gs) = ord ++ ((getL E g num).map fun w => D.tup [.int g, .int num, w]) ++ wdsL E num gs := by rw [List.append_assoc]; rfl
    rw [sp, ← e2]
    simp only [b13_1, ev0, ev1, ev2, ev3, ev4, ev5, ew, k2', ix, lp, unW_map, bl, kFor_nx]
theorem wds_len {E : GL} (hE : ∀ e ∈ E, e.2.length ≤ 9) {num : Int} : ∀ {gs : List Int}, (∀ g ∈ gs, hasL E g num = true) → (wdsL E num gs).length ≤ 9 * gs.length
  | [], _ => Nat.zero_le _
  | g :: gs, h => by
    have ih := wds_len hE (num := num) (gs := gs) fun x hx => h x (List.mem_cons_of_mem _ hx)
    obtain ⟨e, he, q⟩ := getL_mem (h g List.mem_cons_self)
    have := hE e he
    unfold wdsL at ih ⊢
    rw [List.flatMap_cons, List.length_append, List.length_map, q, List.length_cons]
    omega
theorem leftF_len (G a : Int) (out : List Int) (n : Int) : (leftF G a out n).length ≤ G.toNat := by
  have := List.length_filter_le (fun g => decide (n ≤ a) || !decide (g ∈ out)) (rangeI G)
  rw [ranI_len] at this
  exact this
theorem dueL (n : Nat) {G a : Int} {R : Nat} (g0 : 0 ≤ G) (g5 : G ≤ 5) (out : List Int) {E : GL} (hE : ∀ e ∈ E, e.2.length ≤ 9) (hh : ∀ g n, 0 ≤ g → g < G → 0 ≤ n → n < (R : Int) → hasL E g n = true) (a2 : Option W) : ∀ (k i : Nat) (ord : List D) (kn : Int) (a7 a8 a9 a10 : Option W), i + k = R → ord.length + 45 * k ≤ 10000 →
    ∃ b7 b8 b9 b10, forLoop (turn (T.run tb n) (.nm 7) b13_0) (((List.range' i k).map fun (j : Nat) => D.int (j : Int)).map W.p) [some (.p (.int G)), some (.r 0), a2, some (.p (.int a)), some (.p (.lst (out.map D.int))), some (.p (.lst ord)), some (.p (.int kn)), a7, a8, a9, a10] [dO E] = .ok (.nx, [some (.p (.int G)), some (.r 0), a2, some (.p (.int a)), some (.p (.lst (out.map D.int))), some (.p (.lst (dueK G a out E k (i : Int) ord kn).1)), some (.p (.int (dueK G a out E k (i : Int) ord kn).2)), b7, b8, b9, b10]) [dO E]
  | 0, i, ord, kn, a7, a8, a9, a10, _, _ => ⟨a7, a8, a9, a10, for_nil _⟩
  | k + 1, i, ord, kn, a7, a8, a9, a10, hi, hl => by
    have hg : ∀ g ∈ leftF G a out (i : Int), hasL E g (i : Int) = true := fun g hg => by
      have := leftF_mem.mp hg
      exact hh g i this.1.1 this.1.2 (by omega) (by omega)
    have wl := wds_len hE hg
    have ll := leftF_len G a out (i : Int)
    obtain ⟨b9, b10, e1⟩ := wdsG n hE (i : Int) (some (.p (.int G))) a2 (some (.p (.int a))) (some (.p (.lst (out.map D.int)))) (some (.p (.int kn))) (some (.p (.lst ((leftF G a out (i : Int)).map D.int)))) (leftF G a out (i : Int)) ord a9 a10 hg (by omega)
    obtain ⟨c7, c8, c9, c10, e2⟩ := dueL n g0 g5 out hE hh a2 k (i + 1) (ord ++ wdsL E (i : Int) (leftF G a out (i : Int))) (kn + if leftF G a out (i : Int) = [] then 0 else 1) (some (.p (.int (i : Int)))) (some (.p (.lst ((leftF G a out (i : Int)).map D.int)))) b9 b10 (by omega) (by rw [List.length_append]; omega)
    refine ⟨c7, c8, c9, c10, ?_⟩
    have li := lc_filt (f := stp (T.run tb n) [some (.p (.int G)), some (.r 0), a2, some (.p (.int a)), some (.p (.lst (out.map D.int))), some (.p (.lst ord)), some (.p (.int kn)), some (.p (.int (i : Int))), a8, a9, a10] (.nm 9) true (.or (.cmp .le (.var 7) (.var 3)) (.cmp .notin (.var 9) (.var 4))) (.var 9)) (st := [dO E]) D.int (fun g => decide ((i : Int) ≤ a) || !decide (g ∈ out)) D.int (rangeI G) [] (fun g _ => by
      cases z1 : decide ((i : Int) ≤ a) with
      | true => simp only [ev0, ev1, ev2, ev3, ev4, ev5, ew, z1, Bool.true_or, if_true]
      | false =>
        cases z2 : decide (g ∈ out) with
        | true => simp only [ev0, ev1, ev2, ev3, ev4, ev5, ew, inI_lst, z1, z2, Bool.false_or, Bool.not_true, Bool.false_eq_true, if_false]
        | false => simp only [ev0, ev1, ev2, ev3, ev4, ev5, ew, inI_lst, z1, z2, Bool.false_or, Bool.not_false, if_true]) (by rw [ranI_len, List.length_nil]; omega)
    rw [List.nil_append, show (rangeI G).filter (fun g => decide ((i : Int) ≤ a) || !decide (g ∈ out)) = leftF G a out (i : Int) from rfl] at li
    have it : ∀ st : Sto, iterW st (.p (.lst ((leftF G a out (i : Int)).map D.int))) = some (.fix (((leftF G a out (i : Int)).map D.int).map W.p)) := fun st => rfl
    have kk : (if (!decide (leftF G a out (i : Int) = [])) = true then (1 : Int) else 0) = if leftF G a out (i : Int) = [] then 0 else 1 := by
      by_cases z : leftF G a out (i : Int) = []
      · rw [if_pos z, decide_eq_true z]; rfl
      · rw [if_neg z, decide_eq_false z]; rfl
    have e2 := e2
    rw [show (((i + 1 : Nat)) : Int) = (i : Int) + 1 by omega] at e2
    rw [List.range'_succ, List.map_cons, List.map_cons, for_cons, turn_nm, dueK]
    simp only [b13_0, ev0, ev1, ev2, ev3, ev4, ev5, ew, fR1_int (sm62 (j := G) (by omega) (by omega)), rng_I, li, unW_map, it, e1, eqI_nil, fLst_f (ws := []) (by simp), b_int_bl, kk, kFor_nx]
    exact e2
theorem dueM (m : Nat) (hm : 1 ≤ m) {G a : Int} {R : Nat} (g0 : 0 ≤ G) (g5 : G ≤ 5) (r8 : R ≤ 8) (out : List Int) {E : GL} (hE : ∀ e ∈ E, e.2.length ≤ 9) (hh : ∀ g n, 0 ≤ g → g < G → 0 ≤ n → n < (R : Int) → hasL E g n = true) :
    T.run tb m 13 [.p (.int G), .r 0, .p (.int (R : Int)), .p (.int a), .p (.lst (out.map D.int))] [dO E] = .ok (.p (.tup [.lst (dueF G R a out E).1, .int (dueF G R a out E).2])) [dO E] := by
  obtain ⟨n, rfl⟩ : ∃ n, m = n + 1 := ⟨m - 1, by omega⟩
  rw [run_go 5 11 b13 [some (.p (.int G)), some (.r 0), some (.p (.int (R : Int))), some (.p (.int a)), some (.p (.lst (out.map D.int))), none, none, none, none, none, none] rfl _ rfl rfl]
  obtain ⟨b7, b8, b9, b10, e⟩ := dueL n (a := a) g0 g5 out hE hh (some (.p (.int (R : Int)))) R 0 [] 0 none none none none (by omega) (by rw [List.length_nil]; omega)
  rw [← List.range_eq_range', ← rng_nat] at e
  have tn : ((R : Nat) : Int).toNat = R := Int.toNat_natCast _
  have k2' := fun (x y : D) (st : Sto) => kTup_some (st := st) (ds := [x, y]) (by simp)
  simp only [b13, ev0, ev1, ev2, ev3, ev4, ev5, fLst_f (ws := []) (by simp), fR1_int (sm62 (j := (R : Int)) (by omega) (by omega)), tn, e, k2']
  rfl
end My

set_option maxRecDepth 100000
set_option maxHeartbeats 8000000
namespace My
open PySem T
/-! ### the lists that are handed in -/
theorem getL_no {L : GL} {g n : Int} (h : hasL L g n = false) : getL L g n = [] := by
  unfold getL
  have : L.find? (fun e => decide (e.1 = (g, n))) = none := by
    rw [List.find?_eq_none]
    intro e he q
    have : hasL L g n = true := hasL_mem.mpr ⟨e, he, of_decide_eq_true q⟩
    rw [h] at this; cases this
  rw [this]
  rfl
theorem Dr.ints {G num i : Int} {E : GL} (Dh : Dr G num i E) {g n : Int} : ∀ w ∈ getL E g n, ∃ j, w = .int j := fun w hw => by
  cases q : hasL E g n with
  | false => rw [getL_no q] at hw; cases hw
  | true =>
    obtain ⟨e, he, e1⟩ := getL_mem q
    obtain ⟨is, e2, _⟩ := Dh.w e he
    rw [e1, e2] at hw
    obtain ⟨j, _, rfl⟩ := List.mem_map.mp hw
    exact ⟨j, rfl⟩
theorem Dr.few {G num i : Int} {E : GL} (Dh : Dr G num i E) (g n : Int) : (getL E g n).length ≤ 3 := by
  cases q : hasL E g n with
  | false => rw [getL_no q]; exact Nat.zero_le _
  | true =>
    obtain ⟨e, he, e1⟩ := getL_mem q
    obtain ⟨is, e2, l⟩ := Dh.w e he
    rw [e1, e2, List.length_map]
    exact l
/-- .. some changed -/
structure Chg (G a : Int) (R : Nat) (out : List Int) (E0 E : GL) : Prop where
  keys : E.map (·.1) = E0.map (·.1)
  on : ∃ g2, 0 ≤ g2 ∧ g2 < G ∧ (∀ g, g ≠ g2 → getL E g a = getL E0 g a) ∧ (∀ x, x ∈ getL E g2 a → (∃ j, x = .int j) ∨ ∃ o ∈ out, x = wo o) ∧ (∀ o ∈ out, wo o ∈ getL E g2 a) ∧ (getL E g2 a).length ≤ 8
  off : ∀ g n, n ≠ a → getL E g n = getL E0 g n ∨ (a < n ∧ ∃ o ∈ out, getL E g n = getL E0 g n ++ [wo o])
theorem Chg.ok {G a : Int} {R : Nat} {out : List Int} {E0 E : GL} (C : Chg G a R out E0 E) (Dh : Dr G R 0 E0) (ho : ∀ o ∈ out, 0 ≤ o ∧ o < G) (r6 : R ≤ 6) : Bs G R a out E ∧ Gd G E := by
  obtain ⟨g2, x0, x1, same, sub, put, l8⟩ := C.on
  have oi : ∀ j : Int, outW (.int j) = none := fun j => rfl
  have ow : ∀ o : Int, outW (wo o) = some o := fun o => rfl
  have nd : (E.map (·.1)).Nodup := by rw [C.keys]; exact Dh.nd
  have key : ∀ e ∈ E, ∃ e0 ∈ E0, e0.1 = e.1 := fun e he => by
    have : e.1 ∈ E0.map (·.1) := by rw [← C.keys]; exact List.mem_map.mpr ⟨e, he, rfl⟩
    obtain ⟨e0, h0, q⟩ := List.mem_map.mp this
    exact ⟨e0, h0, q⟩
  have words : ∀ e ∈ E, (∀ x ∈ e.2, (∃ j, x = .int j) ∨ ∃ o ∈ out, x = wo o) ∧ e.2.length ≤ 8 := fun e he => by
    have ge := getL_of nd he
    by_cases z : e.1.2 = a
    · by_cases z2 : e.1.1 = g2
      · rw [z, z2] at ge
        rw [← ge]
        exact ⟨sub, l8⟩
      · rw [z, same _ z2] at ge
        rw [← ge]
        exact ⟨fun x hx => .inl (Dh.ints x hx), Nat.le_trans (Dh.few _ _) (by decide)⟩
    · rcases C.off e.1.1 e.1.2 z with q | ⟨_, o, hoo, q⟩
      · rw [q] at ge
        rw [← ge]
        exact ⟨fun x hx => .inl (Dh.ints x hx), Nat.le_trans (Dh.few _ _) (by decide)⟩
      · rw [q] at ge
        rw [← ge]
        refine ⟨fun x hx => ?_, ?_⟩
        · rcases List.mem_append.mp hx with hx | hx
          · exact .inl (Dh.ints x hx)
          · exact .inr ⟨o, hoo, List.mem_singleton.mp hx⟩
        · rw [List.length_append, List.length_singleton]
          have := Dh.few e.1.1 e.1.2
          omega
  refine ⟨⟨fun g n g0 g1 n0 n1 => ?_, fun x => ⟨?_, fun hx => ?_⟩, fun g n g0 g1 n0 n1 w hw => ?_, fun g n g0 g1 n0 n1 _ w hw x e => ?_⟩, ⟨fun e he x hx => ?_, fun e he => (words e he).2, fun e he => ?_, nd⟩⟩
  · rw [hasL_keys C.keys]
    exact Dh.h g n g0 g1 n0 (.inl n1)
  · rintro ⟨g, g0, g1, w, hw, e⟩
    by_cases z : g = g2
    · rw [z] at hw
      rcases sub w hw with ⟨j, rfl⟩ | ⟨o, hoo, rfl⟩
      · rw [oi] at e; cases e
      · rw [ow] at e; cases e; exact hoo
    · rw [same g z] at hw
      obtain ⟨j, rfl⟩ := Dh.ints w hw
      rw [oi] at e
      cases e
  · exact ⟨g2, x0, x1, wo x, put x hx, ow x⟩
  · rcases C.off g n (by omega) with q | ⟨q, _⟩
    · rw [q] at hw
      obtain ⟨j, rfl⟩ := Dh.ints w hw
      exact oi j
    · omega
  · rcases C.off g n (by omega) with q | ⟨_, o, hoo, q⟩
    · rw [q] at hw
      obtain ⟨j, rfl⟩ := Dh.ints w hw
      rw [oi] at e
      cases e
    · rw [q] at hw
      rcases List.mem_append.mp hw with hw | hw
      · obtain ⟨j, rfl⟩ := Dh.ints w hw
        rw [oi] at e
        cases e
      · rw [List.mem_singleton.mp hw, ow] at e
        cases e
        exact hoo
  · rcases (words e he).1 x hx with ⟨j, rfl⟩ | ⟨o, hoo, rfl⟩
    · exact .inl ⟨j, rfl⟩
    · exact .inr ⟨o, rfl, (ho o hoo).1, (ho o hoo).2⟩
  · obtain ⟨e0, h0, q⟩ := key e he
    have := Dh.k e0 h0
    rw [q] at this
    exact ⟨this.1, this.2.1, by omega⟩
/-- those that are left -/
noncomputable def bareF (a : Int) (out : List Int) (E : GL) : GL := E.filter fun e => decide (e.1.2 ≤ a) || !decide (e.1.1 ∈ out)
theorem late_no {G : Int} {R : Nat} {E0 E : GL} (k : E.map (·.1) = E0.map (·.1)) (Dh : Dr G R 0 E0) {g n : Int} (g0 : 0 ≤ g) (h : (R : Int) ≤ n) : hasL E g n = false := by
  rw [hasL_keys k]
  cases q : hasL E0 g n with
  | false => rfl
  | true =>
    obtain ⟨e, he, e1⟩ := hasL_mem.mp q
    have := Dh.k e he
    rw [e1] at this
    simp only at this
    omega
theorem bare_has {a : Int} {out : List Int} {E : GL} (nd : (E.map (·.1)).Nodup) {g n : Int} (h : hasL E g n = true) (c : n ≤ a ∨ g ∉ out) : hasL (bareF a out E) g n = true ∧ getL (bareF a out E) g n = getL E g n := by
  obtain ⟨e, he, q⟩ := hasL_mem.mp h
  have eg : e.1.1 = g := by rw [q]
  have en : e.1.2 = n := by rw [q]
  have m : e ∈ bareF a out E := by
    refine List.mem_filter.mpr ⟨he, ?_⟩
    rw [eg, en, Bool.or_eq_true]
    rcases c with c | c
    · exact .inl (decide_eq_true c)
    · exact .inr (by rw [decide_eq_false c]; rfl)
  have nd' : ((bareF a out E).map (·.1)).Nodup := List.Nodup.sublist (List.Sublist.map _ List.filter_sublist) nd
  refine ⟨hasL_mem.mpr ⟨e, m, q⟩, ?_⟩
  have h1 := getL_of nd' m
  have h2 := getL_of nd he
  rw [eg, en] at h1 h2
  rw [h1, h2]
theorem bare_gd {G a : Int} {out : List Int} {E : GL} (h : Gd G E) : Gd G (bareF a out E) :=
  ⟨fun e he => h.w e (List.mem_filter.mp he).1, fun e he => h.l e (List.mem_filter.mp he).1, fun e he => h.k e (List.mem_filter.mp he).1, List.Nodup.sublist (List.Sublist.map _ List.filter_sublist) h.nd⟩
theorem hasL_sub {E F : GL} (h : ∀ e ∈ F, e ∈ E) {g n : Int} (q : hasL E g n = false) : hasL F g n = false := by
  cases z : hasL F g n with
  | false => rfl
  | true =>
    obtain ⟨e, he, e1⟩ := hasL_mem.mp z
    rw [hasL_mem.mpr ⟨e, h e he, e1⟩] at q
    cases q
theorem lk_all {G a : Int} {R : Nat} {out : List Int} {E0 E : GL} (k : E.map (·.1) = E0.map (·.1)) (Dh : Dr G R 0 E0) (B : Bs G R a out E) : Lk G R a out E E :=
  ⟨fun g n g0 g1 n0 n1 _ => ⟨B.has g n g0 g1 n0 n1, rfl⟩, fun g g0 _ _ => late_no k Dh g0 (Int.le_refl _)⟩
theorem lk_bare {G a : Int} {R : Nat} {out : List Int} {E0 E : GL} (k : E.map (·.1) = E0.map (·.1)) (nd : (E.map (·.1)).Nodup) (Dh : Dr G R 0 E0) (B : Bs G R a out E) : Lk G R a out E (bareF a out E) :=
  ⟨fun g n g0 g1 n0 n1 c => bare_has nd (B.has g n g0 g1 n0 n1) c, fun g g0 _ _ => hasL_sub (fun e he => (List.mem_filter.mp he).1) (late_no k Dh g0 (Int.le_refl _))⟩
theorem app_get {L X : GL} {g n : Int} (h : hasL L g n = true) : hasL (L ++ X) g n = true ∧ getL (L ++ X) g n = getL L g n := by
  obtain ⟨e, he, q⟩ := hasL_mem.mp h
  refine ⟨hasL_mem.mpr ⟨e, List.mem_append_left _ he, q⟩, ?_⟩
  unfold getL
  rw [List.find?_append]
  cases z : L.find? fun e => decide (e.1 = (g, n)) with
  | none => exact absurd (decide_eq_true q) ((List.find?_eq_none.mp z) e he)
  | some x => rfl
theorem lk_oth {G a : Int} {R : Nat} {out : List Int} {E L X : GL} (K : Lk G R a out E L) (hX : ∀ e ∈ X, e.1.1 ∈ out) : Lk G R a out E (L ++ X) := by
  refine ⟨fun g n g0 g1 n0 n1 c => ?_, fun g g0 g1 no => ?_⟩
  · obtain ⟨h1, h2⟩ := K.has g n g0 g1 n0 n1 c
    obtain ⟨h3, h4⟩ := app_get (X := X) h1
    exact ⟨h3, h4.trans h2⟩
  · cases z : hasL (L ++ X) g R with
    | false => rfl
    | true =>
      obtain ⟨e, he, q⟩ := hasL_mem.mp z
      rcases List.mem_append.mp he with he | he
      · have := K.no g g0 g1 no
        rw [hasL_mem.mpr ⟨e, he, q⟩] at this
        cases this
      · have := hX e he
        rw [q] at this
        exact absurd this no
end My

set_option maxRecDepth 100000
set_option maxHeartbeats 8000000
namespace My
open PySem T
/-! ### other lists of gates left out -/
structure Ot (G a : Int) (out : List Int) (B L : GL) (done : List Int) (g i : Int) : Prop where
  x : ∃ X, L = B ++ X ∧ ∀ e ∈ X, e.1.1 ∈ out ∧ a < e.1.2 ∧ (e.1.1 ∈ done ∨ (e.1.1 = g ∧ e.1.2 < i))
  b : ∀ e ∈ B, e.1.2 ≤ a ∨ e.1.1 ∉ out
  gd : Gd G L
theorem Ot.new {G a : Int} {out done : List Int} {B L : GL} {g i : Int} (O : Ot G a out B L done g i) (hg : g ∈ out) (hd : g ∉ done) (hi : a < i) : hasL L g i = false := by
  cases q : hasL L g i with
  | false => rfl
  | true =>
    obtain ⟨X, rfl, hX⟩ := O.x
    obtain ⟨e, he, q⟩ := hasL_mem.mp q
    rcases List.mem_append.mp he with he | he
    · have := O.b e he
      rw [q] at this
      simp only at this
      rcases this with h | h
      · omega
      · exact absurd hg h
    · obtain ⟨_, _, h⟩ := hX e he
      rw [q] at h
      simp only at h
      rcases h with h | h
      · exact absurd h hd
      · omega
theorem Ot.up {G a : Int} {out done : List Int} {B L : GL} {g i : Int} (O : Ot G a out B L done g i) : Ot G a out B L done g (i + 1) := by
  obtain ⟨X, e, hX⟩ := O.x
  refine ⟨⟨X, e, fun e he => ?_⟩, O.b, O.gd⟩
  obtain ⟨h1, h2, h3⟩ := hX e he
  exact ⟨h1, h2, h3.imp id fun h => ⟨h.1, by omega⟩⟩
theorem Ot.step {G a : Int} {out done : List Int} {B L : GL} {g i : Int} (O : Ot G a out B L done g i) (hg : g ∈ out) (hG : 0 ≤ g ∧ g < G) (hd : g ∉ done) (hi : a < i) (i0 : 0 ≤ i) (i8 : i < 8) (ws : List D) (hw : ∀ w ∈ ws, Wrd G w) (l8 : ws.length ≤ 8) : Ot G a out B (L ++ [((g, i), ws)]) done g (i + 1) := by
  have nw := O.new hg hd hi
  obtain ⟨X, e, hX⟩ := O.x
  refine ⟨⟨X ++ [((g, i), ws)], by rw [e, List.append_assoc], fun y hy => ?_⟩, O.b, ⟨fun y hy => ?_, fun y hy => ?_, fun y hy => ?_, ?_⟩⟩
  · rcases List.mem_append.mp hy with hy | hy
    · obtain ⟨h1, h2, h3⟩ := hX y hy
      exact ⟨h1, h2, h3.imp id fun h => ⟨h.1, by omega⟩⟩
    · rw [List.mem_singleton.mp hy]
      exact ⟨hg, hi, .inr ⟨rfl, by show i < i + 1; omega⟩⟩
  · rcases List.mem_append.mp hy with hy | hy
    · exact O.gd.w y hy
    · rw [List.mem_singleton.mp hy]; exact hw
  · rcases List.mem_append.mp hy with hy | hy
    · exact O.gd.l y hy
    · rw [List.mem_singleton.mp hy]; exact l8
  · rcases List.mem_append.mp hy with hy | hy
    · exact O.gd.k y hy
    · rw [List.mem_singleton.mp hy]; exact ⟨hG, i0, i8⟩
  · rw [List.map_append]
    refine List.nodup_append.mpr ⟨O.gd.nd, by simp, fun u hu v hv => ?_⟩
    rintro rfl
    rw [List.map_cons, List.map_nil, List.mem_singleton] at hv
    obtain ⟨y, hy, q⟩ := List.mem_map.mp hu
    rw [hasL_mem.mpr ⟨y, hy, q.trans hv⟩] at nw
    cases nw
theorem rng_from (i k : Nat) : rngL (i : Int) k = ((List.range' i k).map fun (j : Nat) => D.int (j : Int)).map W.p := by
  unfold rngL
  rw [List.range'_eq_map_range, List.map_map, List.map_map]
  apply List.map_congr_left
  intro j _
  show W.p (.int ((i : Int) + (j : Int))) = W.p (.int ((i + j : Nat) : Int))
  rw [Int.natCast_add]
theorem numL (n : Nat) (hn : 3 ≤ n) (ns : List Int) {G : Int} {a : Nat} (g1 : 1 ≤ G) (g5 : G ≤ 5) {out done : List Int} {B : GL} (o : Nat) (ho : 1 ≤ o) {g : Int} (hg : g ∈ out) (hG : 0 ≤ g ∧ g < G) (hd : g ∉ done) (a0 a2 a4 a5 a7 a8 a9 a11 a12 a13 a15 : Option W) : ∀ (k i : Nat) (L : GL) (st : Sto) (p c : Int) (a6 : Option W), a < i → i + k ≤ 8 → Ot G a out B L done g i → st[0]? = some (tp ns p c) → st[o]? = some (dO L) → L.length + k ≤ 900 → 0 ≤ p → p + (6 * k : Nat) + 20 < 2 ^ 30 →
    ∃ (L' : GL) (p' c' : Int) (b6 : Option W), forLoop (turn (T.run tb n) (.nm 6) b14_5) (((List.range' i k).map fun (j : Nat) => D.int (j : Int)).map W.p) [a0, some (.r 0), a2, some (.p (.int G)), a4, a5, a6, a7, a8, a9, some (.p (.int g)), a11, a12, a13, some (.r o), a15] st = .ok (.nx, [a0, some (.r 0), a2, some (.p (.int G)), a4, a5, b6, a7, a8, a9, some (.p (.int g)), a11, a12, a13, some (.r o), a15]) ((st.set 0 (tp ns p' c')).set o (dO L')) ∧ Ot G a out B L' done g ((i + k : Nat) : Int) ∧ L'.length ≤ L.length + k ∧ p ≤ p' ∧ p' ≤ p + (6 * k : Nat)
  | 0, i, L, st, p, c, a6, _, _, O, h0, hq, _, hp, _ => ⟨L, p, c, a6, by rw [set_id h0, set_id hq]; exact for_nil _, O, Nat.le_refl _, Int.le_refl _, by simp⟩
  | k + 1, i, L, st, p, c, a6, ai, i8, O, h0, hq, hl, hp, hp2 => by
    obtain ⟨d, p1, c1, e1, d0, d1, pa, pb⟩ := digS n (by omega) h0 hp (by omega) 2 (by decide) (by decide)
    have z0 : (st.set 0 (tp ns p1 c1))[0]? = some (tp ns p1 c1) := List.getElem?_set_self (st_lt0 h0)
    have zq : (st.set 0 (tp ns p1 c1))[o]? = some (dO L) := by rw [List.getElem?_set_ne (by omega)]; exact hq
    have ee : ((i + 1 : Nat) : Int) = (i : Int) + 1 := by omega
    by_cases dz : d = 0
    · obtain ⟨is, p2, c2, e2, l3, pc, pd⟩ := plnS n hn z0 (by omega) (by omega)
      rw [List.set_set] at e2
      have y0 : (st.set 0 (tp ns p2 c2))[0]? = some (tp ns p2 c2) := List.getElem?_set_self (st_lt0 h0)
      obtain ⟨x, p3, c3, e3, x0, x1, pe, pf⟩ := digS n (by omega) y0 (by omega) (by omega) G (by omega) (by omega)
      rw [List.set_set] at e3
      have w0 : (st.set 0 (tp ns p3 c3))[0]? = some (tp ns p3 c3) := List.getElem?_set_self (st_lt0 h0)
      have wq : (st.set 0 (tp ns p3 c3))[o]? = some (dO L) := by rw [List.getElem?_set_ne (by omega)]; exact hq
      have sw := set_dO wq (O.new hg hd (by omega)) (by omega) (is.map D.int ++ [wo x])
      have O' := O.step hg hG hd (by omega) (by omega) (by omega) (is.map D.int ++ [wo x]) (fun w hw => by
        rcases List.mem_append.mp hw with hw | hw
        · obtain ⟨j, _, rfl⟩ := List.mem_map.mp hw
          exact .inl ⟨j, rfl⟩
        · rw [List.mem_singleton.mp hw]; exact .inr ⟨x, rfl, x0, x1⟩) (by rw [List.length_append, List.length_map, List.length_singleton]; omega)
      have v0 : ((st.set 0 (tp ns p3 c3)).set o (dO (L ++ [((g, (i : Int)), is.map D.int ++ [wo x])])))[0]? = some (tp ns p3 c3) := by rw [List.getElem?_set_ne (by omega)]; exact w0
      have vq : ((st.set 0 (tp ns p3 c3)).set o (dO (L ++ [((g, (i : Int)), is.map D.int ++ [wo x])])))[o]? = some (dO (L ++ [((g, (i : Int)), is.map D.int ++ [wo x])])) := List.getElem?_set_self (st_lt0 wq)
      rw [← ee] at O'
      obtain ⟨L', p4, c4, b6, e4, O2, l2, pg, ph⟩ := numL n hn ns g1 g5 o ho hg hG hd a0 a2 a4 a5 a7 a8 a9 a11 a12 a13 a15 k (i + 1) _ _ p3 c3 (some (.p (.int (i : Int)))) (by omega) (by omega) O' v0 vq (by rw [List.length_append, List.length_singleton]; omega) (by omega) (by omega)
      have sh : (((st.set 0 (tp ns p3 c3)).set o (dO (L ++ [((g, (i : Int)), is.map D.int ++ [wo x])]))).set 0 (tp ns p4 c4)).set o (dO L') = (st.set 0 (tp ns p4 c4)).set o (dO L') := by
        rw [List.set_comm _ _ (show o ≠ 0 by omega), List.set_set, List.set_set]
      rw [sh] at e4
      refine ⟨L', p4, c4, b6, ?_, by rw [show i + (k + 1) = i + 1 + k by omega]; exact O2, by rw [List.length_append, List.length_singleton] at l2; omega, by omega, by omega⟩
      have dd : decide (d = 0) = true := decide_eq_true dz
      have k2' := fun (x y : D) (st : Sto) => kTup_some (st := st) (ds := [x, y]) (by simp)
      have k1' := fun (x : D) (st : Sto) => kTup_some (st := st) (ds := [x]) (by simp)
      have bt : ∀ st : Sto, bin .add (.p (.tup (is.map D.int))) (.p (.tup [.tup [.str "without", .int x]])) st = .ok (.p (.tup (is.map D.int ++ [wo x]))) st := fun st => bin_tup (by rw [List.length_map, List.length_singleton]; omega)
      rw [List.range'_succ, List.map_cons, List.map_cons, for_cons, turn_nm]
      simp only [b14_5, ev0, ev1, ev2, ev3, ev4, ev5, e1, dd, e2, e3, k2', k1', bt, sw, kFor_nx]
      exact e4
    · obtain ⟨L', p4, c4, b6, e4, O2, l2, pg, ph⟩ := numL n hn ns (a := a) g1 g5 o ho hg hG hd a0 a2 a4 a5 a7 a8 a9 a11 a12 a13 a15 k (i + 1) L _ p1 c1 (some (.p (.int (i : Int)))) (by omega) (by omega) (by rw [ee]; exact O.up) z0 zq (by omega) (by omega) (by omega)
      rw [List.set_set] at e4
      refine ⟨L', p4, c4, b6, ?_, by rw [show i + (k + 1) = i + 1 + k by omega]; exact O2, by omega, by omega, by omega⟩
      have dd : decide (d = 0) = false := decide_eq_false dz
      rw [List.range'_succ, List.map_cons, List.map_cons, for_cons, turn_nm]
      simp only [b14_5, ev0, ev1, ev2, ev3, ev4, ev5, e1, dd, kFor_nx]
      exact e4
theorem othL (n : Nat) (hn : 3 ≤ n) (ns : List Int) {G : Int} {a R : Nat} (g1 : 1 ≤ G) (g5 : G ≤ 5) (aR : a < R) (r6 : R ≤ 6) {out : List Int} (hG : ∀ g ∈ out, 0 ≤ g ∧ g < G) {B : GL} (o : Nat) (ho : 1 ≤ o) (a0 a2 a5 a8 a9 a11 a12 a13 a15 : Option W) : ∀ (gs done : List Int) (L : GL) (st : Sto) (p c : Int) (a6 a10 : Option W), out = done ++ gs → out.Nodup → (∃ g, Ot G a out B L done g 0) → st[0]? = some (tp ns p c) → st[o]? = some (dO L) → L.length + 8 * gs.length ≤ 900 → 0 ≤ p → p + (60 * gs.length : Nat) + 100 < 2 ^ 30 →
    ∃ (L' : GL) (p' c' : Int) (b6 b10 : Option W), forLoop (turn (T.run tb n) (.nm 10) b14_4) ((gs.map D.int).map W.p) [a0, some (.r 0), a2, some (.p (.int G)), some (.p (.int (R : Int))), a5, a6, some (.p (.int (a : Int))), a8, a9, a10, a11, a12, a13, some (.r o), a15] st = .ok (.nx, [a0, some (.r 0), a2, some (.p (.int G)), some (.p (.int (R : Int))), a5, b6, some (.p (.int (a : Int))), a8, a9, b10, a11, a12, a13, some (.r o), a15]) ((st.set 0 (tp ns p' c')).set o (dO L')) ∧ (∃ g, Ot G a out B L' out g 0) ∧ L'.length ≤ L.length + 8 * gs.length ∧ p ≤ p' ∧ p' ≤ p + (60 * gs.length : Nat)
  | [], done, L, st, p, c, a6, a10, e, _, O, h0, hq, _, hp, _ => ⟨L, p, c, a6, a10, by rw [set_id h0, set_id hq]; exact for_nil _, by rw [List.append_nil] at e; rw [← e] at O; exact O, Nat.le_refl _, Int.le_refl _, by simp⟩
  | g :: gs, done, L, st, p, c, a6, a10, e, nd, ⟨g', O⟩, h0, hq, hl, hp, hp2 => by
    rw [List.length_cons] at hl hp2
    have mem : g ∈ out := by rw [e]; exact List.mem_append_right _ List.mem_cons_self
    have hd : g ∉ done := fun h => by
      rw [e] at nd
      exact (List.nodup_append.mp nd).2.2 g h g List.mem_cons_self rfl
    have O1 : Ot G a out B L done g ((a + 1 : Nat) : Int) := by
      obtain ⟨X, e, hX⟩ := O.x
      refine ⟨⟨X, e, fun y hy => ?_⟩, O.b, O.gd⟩
      obtain ⟨h1, h2, h3⟩ := hX y hy
      exact ⟨h1, h2, h3.imp id fun h => absurd h.2 (by omega)⟩
    obtain ⟨L1, p1, c1, b6, e1, O2, l1, pa, pb⟩ := numL n hn ns g1 g5 o ho mem (hG g mem) hd a0 a2 (some (.p (.int (R : Int)))) a5 (some (.p (.int (a : Int)))) a8 a9 a11 a12 a13 a15 (R + 2 - (a + 1)) (a + 1) L st p c a6 (by omega) (by omega) O1 h0 hq (by omega) hp (by omega)
    rw [← rng_from] at e1
    have z0 : ((st.set 0 (tp ns p1 c1)).set o (dO L1))[0]? = some (tp ns p1 c1) := by rw [List.getElem?_set_ne (by omega), List.getElem?_set_self (st_lt0 h0)]
    have zq : ((st.set 0 (tp ns p1 c1)).set o (dO L1))[o]? = some (dO L1) := List.getElem?_set_self (by rw [List.length_set]; exact st_lt0 hq)
    have O3 : Ot G a out B L1 (done ++ [g]) g 0 := by
      obtain ⟨X, e, hX⟩ := O2.x
      refine ⟨⟨X, e, fun y hy => ?_⟩, O2.b, O2.gd⟩
      obtain ⟨h1, h2, h3⟩ := hX y hy
      refine ⟨h1, h2, .inl ?_⟩
      rcases h3 with h3 | h3
      · exact List.mem_append_left _ h3
      · rw [h3.1]; exact List.mem_append_right _ List.mem_cons_self
    obtain ⟨L', p2, c2, c6, c10, e2, O4, l2, pc, pd⟩ := othL n hn ns g1 g5 aR r6 hG o ho a0 a2 a5 a8 a9 a11 a12 a13 a15 gs (done ++ [g]) L1 _ p1 c1 b6 (some (.p (.int g))) (by rw [e, List.append_assoc]; rfl) nd ⟨g, O3⟩ z0 zq (by omega) (by omega) (by omega)
    have sh : (((st.set 0 (tp ns p1 c1)).set o (dO L1)).set 0 (tp ns p2 c2)).set o (dO L') = (st.set 0 (tp ns p2 c2)).set o (dO L') := by
      rw [List.set_comm _ _ (show o ≠ 0 by omega), List.set_set, List.set_set]
    rw [sh] at e2
    refine ⟨L', p2, c2, c6, c10, ?_, O4, by rw [List.length_cons]; omega, by omega, by rw [List.length_cons]; omega⟩
    have r2 : ∀ st : Sto, fR2b (.p (.int ((a : Int) + 1))) (.p (.int ((R : Int) + 2))) st = .ok (.fix (rngL ((a + 1 : Nat) : Int) (R + 2 - (a + 1)))) st := fun st => by
      rw [fR2b_int (sm62 (by omega) (by omega)) (sm62 (by omega) (by omega)), show ((R : Int) + 2 - ((a : Int) + 1)).toNat = R + 2 - (a + 1) by omega]
      rfl
    rw [List.map_cons, List.map_cons, for_cons, turn_nm]
    simp only [b14_4, ev0, ev1, ev2, ev3, ev4, ev5, ew, r2, e1, kFor_nx]
    exact e2
end My

set_option maxRecDepth 100000
set_option maxHeartbeats 16000000
namespace My
open PySem T
noncomputable def hc : Ex := (.and (.cmp .gt (.var 2) (.con (.int 1))) (.cmp .ge (.ix (.var 1) (.con (.int 1))) (.bfn .len (.cons (.var 0) .nil))))
noncomputable def i8 : Sm := (.ifs (.cmp .eq (.var 8) (.lst false .nil)) (.cons (.asg 8 (.lst false (.cons (.cal false 10 (.cons (.var 1) (.cons (.var 3) .nil))) .nil))) .nil) .nil)
noncomputable def i15 : Sm := (.ifs (.and (.cmp .ne (.var 11) (.lst false .nil)) (.cmp .lt (.bin .add (.var 7) (.con (.int 1))) (.var 4))) (.cons (.asg 15 (.tup (.cons (.ix (.var 11) (.cal false 10 (.cons (.var 1) (.cons (.bfn .len (.cons (.var 11) .nil)) .nil)))) (.cons (.bin .add (.bin .add (.var 7) (.con (.int 1))) (.cal false 10 (.cons (.var 1) (.cons (.bin .sub (.bin .sub (.var 4) (.var 7)) (.con (.int 1))) .nil)))) .nil)))) (.cons (.asgI (.var 5) (.var 15) (.bin .add (.ix (.var 5) (.var 15)) (.tup (.cons (.tup (.cons (.con (.str "without")) (.cons (.ix (.var 8) (.con (.int 0))) .nil))) .nil)))) .nil)) .nil)
noncomputable def t3 : Sms := (.cons (.asg 12 (.cal false 13 (.cons (.var 3) (.cons (.var 5) (.cons (.var 4) (.cons (.var 7) (.cons (.var 8) .nil))))))) (.cons (.asg 13 (.dcT (.lcK false (.nm 15) (.var 5) true (.or (.cmp .le (.ix (.var 15) (.con (.int 1))) (.var 7)) (.cmp .notin (.ix (.var 15) (.con (.int 0))) (.var 8))) (.tup (.cons (.var 15) (.cons (.ix (.var 5) (.var 15)) .nil)))))) (.cons (.asg 14 (.dcT (.var 13))) (.cons (.forr (.nm 10) (.ex (.var 8)) b14_4) (.cons (.forr (.nm 15) (.ex (.lst true (.cons (.var 5) (.cons (.var 13) (.cons (.var 14) .nil))))) b14_6) .nil)))))
noncomputable def t2 : Sms := (.cons (.asg 9 (.bfn .lstM (.cons (.ix (.var 5) (.tup (.cons (.cal false 10 (.cons (.var 1) (.cons (.var 3) .nil))) (.cons (.var 7) .nil)))) .nil))) (.cons (.forr (.nm 10) (.ex (.var 8)) b14_3) (.cons (.asgI (.var 5) (.tup (.cons (.cal false 10 (.cons (.var 1) (.cons (.var 3) .nil))) (.cons (.var 7) .nil))) (.bfn .tupl (.cons (.var 9) .nil))) (.cons (.asg 11 (.lc false (.nm 10) (.rng1 (.var 3)) true (.cmp .notin (.var 10) (.var 8)) (.var 10))) (.cons i15 t3)))))
noncomputable def t1 : Sms := (.cons (.asg 3 (.bin .add (.con (.int 2)) (.cal false 10 (.cons (.var 1) (.cons (.con (.int 4)) .nil))))) (.cons (.asg 4 (.bin .add (.con (.int 1)) (.cal false 10 (.cons (.var 1) (.cons (.con (.int 6)) .nil))))) (.cons (.asg 5 (.dnw true)) (.cons (.forr (.nm 6) (.rng1 (.var 4)) b14_1) (.cons (.asg 7 (.cal false 10 (.cons (.var 1) (.cons (.var 4) .nil)))) (.cons (.asg 8 (.lc false (.nm 10) (.rng1 (.var 3)) true (.cmp .gt (.cal false 10 (.cons (.var 1) (.cons (.con (.int 3)) .nil))) (.con (.int 0))) (.var 10))) (.cons i8 t2)))))))
theorem b14_h : b14_0 = .cons (.ifs hc (.cons .brk .nil) .nil) t1 := rfl
/-! ### dict(..) -/
noncomputable def fDc (x : W) (st : Sto) : Res W := dcTW st x
theorem e_dcT {C : Call} {ρ : Nv} {st : Sto} (a : Ex) : evE C (.dcT a) ρ st = kBind fDc (evE C a ρ st) := by rw [evE]; rfl
noncomputable def prE (e : (Int × Int) × List D) : D := .tup [.tup [.int e.1.1, .int e.1.2], .tup e.2]
theorem pairs_prE : ∀ L : GL, pairsT (L.map prE) = some (L.map fun e => (k2 e.1.1 e.1.2, D.tup e.2))
  | [] => rfl
  | e :: L => by
    have q : pairT (prE e) = some (k2 e.1.1 e.1.2, D.tup e.2) := rfl
    rw [List.map_cons, pairsT, q, pairs_prE L]
    rfl
theorem dc_pairs {L : GL} (nd : (L.map (·.1)).Nodup) (st : Sto) : fDc (.p (.lst (L.map prE))) st = .ok (.r st.length) (st ++ [dO L]) := by
  have nd2 : ((L.map fun e => (k2 e.1.1 e.1.2, D.tup e.2)).map (·.1)).Nodup := by
    rw [List.map_map]
    refine List.pairwise_map.mpr ((List.pairwise_map.mp nd).imp fun {a b} ne h => ne ?_)
    have d := k2_inj (g := a.1.1) (n := a.1.2) (g' := b.1.1) (n' := b.1.2)
    have h : k2 a.1.1 a.1.2 = k2 b.1.1 b.1.2 := h
    rw [decide_eq_true h] at d
    exact of_decide_eq_true d.symm
  unfold fDc dcTW
  simp only [pairs_prE]
  rw [if_pos nd2, List.map_map]
  rfl
theorem dc_dict {G : Int} (g5 : G ≤ 5) {L : GL} (gd : Gd G L) {st : Sto} {b : Nat} (h : st[b]? = some (dO L)) : fDc (.r b) st = .ok (.r st.length) (st ++ [dO L]) := by
  have h : st[b]? = some (.dit (L.map fun e => (k2 e.1.1 e.1.2, W.p (.tup e.2)))) := h
  have al : ((L.map fun e => (k2 e.1.1 e.1.2, W.p (.tup e.2))).all fun kv => gridB kv.1) = true := by
    rw [List.all_map, List.all_eq_true]
    intro e he
    obtain ⟨⟨h1, h2⟩, h3, h4⟩ := gd.k e he
    show gridB (k2 e.1.1 e.1.2) = true
    unfold k2 gridB
    simp only [Bool.and_eq_true, decide_eq_true_eq]
    omega
  unfold fDc dcTW
  simp only [h]
  rw [if_pos al]
  rfl
/-! ### each of the three is told alike -/
noncomputable def dueD (F : List D × Int) : D := .tup [.lst F.1, .int F.2]
theorem one6 (n : Nat) (hn : 8 ≤ n) {G : Int} (g1 : 1 ≤ G) (g5 : G ≤ 5) {L : GL} (gd : Gd G L) (len : L.length ≤ 200) {F : List D × Int} (hF : wkF L G = F) {S : Sto} {r : Nat} (hS : S[r]? = some (dO L)) (a0 a1 a2 a4 a5 a6 a7 a8 a9 a10 a11 a13 a14 : Option W) :
    evSs (T.run tb n) b14_6 [a0, a1, a2, some (.p (.int G)), a4, a5, a6, a7, a8, a9, a10, a11, some (.p (dueD F)), a13, a14, some (.r r)] S = .ok (.nx, [a0, a1, a2, some (.p (.int G)), a4, a5, a6, a7, a8, a9, a10, a11, some (.p (dueD F)), a13, a14, some (.r r)]) S := by
  obtain ⟨s, e⟩ := toldM n (by omega) g1 g5 gd len
  rw [hF] at e
  have e1 : fCal false (T.run tb n) 12 [.p (.int G), .r r] S = .ok (.p (dueD F)) S := by
    rw [cal_q hS (dO_flat L) rfl, e, kQ_p (dO_flat L), set_id hS]
    rfl
  have t := (wkF_trp gd.ok g5).1
  rw [hF] at t
  have pd : Pd 60 (dueD F) := Pd.mono (k := 5) (pd_tup (mem2 (pd_lst fun d hd => pd_trp (t d hd)) ((pd_int _).mono (by decide)))) (by decide)
  have q := fun (st : Sto) => eq_self' pd (st := st)
  simp only [b14_6, ev0, ev1, ev2, ev3, ev4, ev5, e1, q, Bool.not_true]
theorem stage3 (n : Nat) (hn : 8 ≤ n) (ns : List Int) {G : Int} {a R : Nat} (g1 : 1 ≤ G) (g5 : G ≤ 5) (aR : a < R) (r6 : R ≤ 6) {out : List Int} (hG : ∀ g ∈ out, 0 ≤ g ∧ g < G) (ond : out.Nodup) (o5 : out.length ≤ 5) {E0 E : GL} (hk : E.map (·.1) = E0.map (·.1)) (Dh : Dr G R 0 E0) (B : Bs G R a out E) (gd : Gd G E) (S : Sto) (q : Nat) (hq : 1 ≤ q) (p c : Int) (h0 : S[0]? = some (tp ns p c)) (hS : S[q]? = some (dO E)) (hp : 0 ≤ p) (hp2 : p + 1000 < 2 ^ 28) (a0 a2 a6 a9 a10 a11 a12 a13 a14 a15 : Option W) :
    ∃ (b6 b10 b12 b13 b14 b15 : Option W) (S' : Sto) (p' c' : Int), evSs (T.run tb n) t3 [a0, some (.r 0), a2, some (.p (.int G)), some (.p (.int (R : Int))), some (.r q), a6, some (.p (.int (a : Int))), some (.p (.lst (out.map D.int))), a9, a10, a11, a12, a13, a14, a15] S = .ok (.nx, [a0, some (.r 0), a2, some (.p (.int G)), some (.p (.int (R : Int))), some (.r q), b6, some (.p (.int (a : Int))), some (.p (.lst (out.map D.int))), a9, b10, a11, b12, b13, b14, b15]) S' ∧ S'[0]? = some (tp ns p' c') ∧ p ≤ p' ∧ p' ≤ p + 300 := by
  have len : E.length ≤ 30 := by
    have := congrArg List.length hk
    rw [List.length_map, List.length_map] at this
    have := Dh.l
    omega
  have e13 : fCal false (T.run tb n) 13 [.p (.int G), .r q, .p (.int (R : Int)), .p (.int (a : Int)), .p (.lst (out.map D.int))] S = .ok (.p (dueD (dueF G R a out E))) S := by
    rw [cal_q hS (dO_flat E) rfl, dueM n (by omega) (by omega) g5 (by omega) out (fun e he => Nat.le_trans (gd.l e he) (by decide)) B.has, kQ_p (dO_flat E), set_id hS]
    rfl
  have gdB := bare_gd (a := (a : Int)) (out := out) gd
  have lB : (bareF a out E).length ≤ E.length := List.length_filter_le _ _
  have lq : q < S.length := st_lt0 hS
  have k2' := fun (x y : D) (st : Sto) => kTup_some (st := st) (ds := [x, y]) (by simp)
  have kK : (S.set q (lkO E))[q]? = some (lkO E) := List.getElem?_set_self lq
  have li := lc_filt (f := stp (T.run tb n) [a0, some (.r 0), a2, some (.p (.int G)), some (.p (.int (R : Int))), some (.r q), a6, some (.p (.int (a : Int))), some (.p (.lst (out.map D.int))), a9, a10, a11, some (.p (dueD (dueF G R a out E))), a13, a14, a15] (.nm 15) true (.or (.cmp .le (.ix (.var 15) (.con (.int 1))) (.var 7)) (.cmp .notin (.ix (.var 15) (.con (.int 0))) (.var 8))) (.tup (.cons (.var 15) (.cons (.ix (.var 5) (.var 15)) .nil)))) (st := S.set q (lkO E)) (fun e : (Int × Int) × List D => D.tup [.int e.1.1, .int e.1.2]) (fun e => decide (e.1.2 ≤ (a : Int)) || !decide (e.1.1 ∈ out)) prE E [] (fun e he => by
    have i0 : ∀ st : Sto, ixW st (.p (.tup [.int e.1.1, .int e.1.2])) (.p (.int 0)) = some (.p (.int e.1.1)) := fun st => rfl
    have i1 : ∀ st : Sto, ixW st (.p (.tup [.int e.1.1, .int e.1.2])) (.p (.int 1)) = some (.p (.int e.1.2)) := fun st => rfl
    have i5 := ix_lk kK (g := e.1.1) (n := e.1.2) (hasL_mem.mpr ⟨e, he, rfl⟩)
    rw [getL_of gd.nd he] at i5
    have pe : D.tup [.tup [.int e.1.1, .int e.1.2], .tup e.2] = prE e := rfl
    cases z1 : decide (e.1.2 ≤ (a : Int)) with
    | true => simp only [ev0, ev1, ev2, ev3, ev4, ev5, ew, i0, i1, z1, i5, k2', pe, Bool.true_or, if_true]
    | false =>
      cases z2 : decide (e.1.1 ∈ out) with
      | true => simp only [ev0, ev1, ev2, ev3, ev4, ev5, ew, i0, i1, inI_lst, z1, z2, Bool.false_or, Bool.not_true, Bool.false_eq_true, if_false]
      | false => simp only [ev0, ev1, ev2, ev3, ev4, ev5, ew, i0, i1, inI_lst, z1, z2, i5, k2', pe, Bool.false_or, Bool.not_false, if_true]) (by rw [List.length_nil]; omega)
  rw [List.nil_append, show E.filter (fun e => decide (e.1.2 ≤ (a : Int)) || !decide (e.1.1 ∈ out)) = bareF a out E from rfl] at li
  have eK : evE (T.run tb n) (.lcK false (.nm 15) (.var 5) true (.or (.cmp .le (.ix (.var 15) (.con (.int 1))) (.var 7)) (.cmp .notin (.ix (.var 15) (.con (.int 0))) (.var 8))) (.tup (.cons (.var 15) (.cons (.ix (.var 5) (.var 15)) .nil)))) [a0, some (.r 0), a2, some (.p (.int G)), some (.p (.int (R : Int))), some (.r q), a6, some (.p (.int (a : Int))), some (.p (.lst (out.map D.int))), a9, a10, a11, some (.p (dueD (dueF G R a out E))), a13, a14, a15] S = .ok (.p (.lst ((bareF a out E).map prE))) S := by
    have := lcK_k (C := T.run tb n) (m := false) (hc := true) (tg := .nm 15) (a := .var 5) (c := (.or (.cmp .le (.ix (.var 15) (.con (.int 1))) (.var 7)) (.cmp .notin (.ix (.var 15) (.con (.int 0))) (.var 8)))) (e := (.tup (.cons (.var 15) (.cons (.ix (.var 5) (.var 15)) .nil)))) (n := q) (o := dO E) (l := lkO E) (ρ := [a0, some (.r 0), a2, some (.p (.int G)), some (.p (.int (R : Int))), some (.r q), a6, some (.p (.int (a : Int))), some (.p (.lst (out.map D.int))), a9, a10, a11, some (.p (dueD (dueF G R a out E))), a13, a14, a15]) (st := S) (s := S) (s1 := S.set q (lkO E)) (s2 := S.set q (lkO E)) (s3 := S.set q (lkO E)) (r := .p (.lst ((bareF a out E).map prE))) (l2 := lkO E) (o2 := dO E) (by simp only [ev0, ev1, ev2, ev3, ev4, ev5]) hS rfl (by simp only [ev0, ev1, ev2, ev3, ev4, ev5]) kK (keys_lk E) li (by simp only [fLce, unW_map]; rfl) kK rfl
    rw [List.set_set, set_id hS] at this
    exact this
  have e14 := dc_pairs gdB.nd S
  have hB1 : (S ++ [dO (bareF a out E)])[S.length]? = some (dO (bareF a out E)) := by rw [List.getElem?_append_right (Nat.le_refl _)]; simp
  have e15 := dc_dict g5 gdB hB1
  obtain ⟨S2, hS2⟩ : ∃ S2, S2 = S ++ [dO (bareF a out E)] ++ [dO (bareF a out E)] := ⟨_, rfl⟩
  have l2 : S2.length = S.length + 2 := by rw [hS2]; simp
  have e15 : fDc (.r S.length) (S ++ [dO (bareF a out E)]) = .ok (.r (S.length + 1)) S2 := by
    rw [e15, hS2]
    simp
  have s20 : S2[0]? = some (tp ns p c) := by rw [hS2]; exact at_lt (at_lt h0)
  have s2q : S2[q]? = some (dO E) := by rw [hS2]; exact at_lt (at_lt hS)
  have s2b : S2[S.length]? = some (dO (bareF a out E)) := by rw [hS2]; exact at_lt hB1
  have s2o : S2[S.length + 1]? = some (dO (bareF a out E)) := by
    rw [hS2, List.getElem?_append_right (by simp)]
    simp
  have Oh : ∃ g, Ot G a out (bareF a out E) (bareF a out E) [] g 0 := ⟨0, ⟨[], by rw [List.append_nil], fun e he => by cases he⟩, fun e he => by
    have := (List.mem_filter.mp he).2
    rw [Bool.or_eq_true, decide_eq_true_eq, Bool.not_eq_true', decide_eq_false_iff_not] at this
    exact this, gdB⟩
  obtain ⟨L', p1, c1, b6, b10, e16, ⟨g', O'⟩, ll, pa, pb⟩ := othL n (by omega) ns g1 g5 aR r6 hG (S.length + 1) (by omega) a0 a2 (some (.r q)) (some (.p (.lst (out.map D.int)))) a9 a11 (some (.p (dueD (dueF G R a out E)))) (some (.r S.length)) a15 out [] (bareF a out E) S2 p c a6 a10 rfl ond Oh s20 s2o (by omega) hp (by omega)
  obtain ⟨S3, hS3⟩ : ∃ S3, S3 = (S2.set 0 (tp ns p1 c1)).set (S.length + 1) (dO L') := ⟨_, rfl⟩
  rw [← hS3] at e16
  have l3 : S3.length = S.length + 2 := by rw [hS3, List.length_set, List.length_set, l2]
  have s30 : S3[0]? = some (tp ns p1 c1) := by rw [hS3, List.getElem?_set_ne (by omega), List.getElem?_set_self (by omega)]
  have s3q : S3[q]? = some (dO E) := by rw [hS3, List.getElem?_set_ne (by omega), List.getElem?_set_ne (by omega)]; exact s2q
  have s3b : S3[S.length]? = some (dO (bareF a out E)) := by rw [hS3, List.getElem?_set_ne (by omega), List.getElem?_set_ne (by omega)]; exact s2b
  have s3o : S3[S.length + 1]? = some (dO L') := by rw [hS3, List.getElem?_set_self (by rw [List.length_set]; omega)]
  have e17 : fLst true [.r q, .r S.length, .r (S.length + 1)] S3 = .ok (.r (S.length + 2)) (S3 ++ [.lst [.r q, .r S.length, .r (S.length + 1)]]) := by
    rw [← l3]
    rfl
  have ra : (R : Int) = R := rfl
  have F1 := wkF_due B (lk_all hk Dh B) (by omega) (by omega) (by omega)
  have F2 := wkF_due B (lk_bare hk gd.nd Dh B) (by omega) (by omega) (by omega)
  have F3 : wkF L' G = dueF G R a out E := by
    obtain ⟨X, e, hX⟩ := O'.x
    rw [e]
    exact wkF_due B (lk_oth (lk_bare hk gd.nd Dh B) fun y hy => (hX y hy).1) (by omega) (by omega) (by omega)
  obtain ⟨S4, hS4⟩ : ∃ S4, S4 = S3 ++ [O.lst [.r q, .r S.length, .r (S.length + 1)]] := ⟨_, rfl⟩
  rw [← hS4] at e17
  have s4 : S4[S.length + 2]? = some (.lst [.r q, .r S.length, .r (S.length + 1)]) := by
    rw [hS4, List.getElem?_append_right (by omega), l3, Nat.sub_self]
    rfl
  have it : iterW S4 (.r (S.length + 2)) = some (.dyn (S.length + 2)) := by
    unfold iterW
    simp only [s4]
  have s4q : S4[q]? = some (dO E) := by rw [hS4]; exact at_lt s3q
  have s4b : S4[S.length]? = some (dO (bareF a out E)) := by rw [hS4]; exact at_lt s3b
  have s4o : S4[S.length + 1]? = some (dO L') := by rw [hS4]; exact at_lt s3o
  have dl := dyn_go (step := turn (T.run tb n) (.nm 15) b14_6) (n := S.length + 2) (ws := [.r q, .r S.length, .r (S.length + 1)]) (fun _ ρ st => st = S4 ∧ ∃ b15, ρ = [a0, some (.r 0), a2, some (.p (.int G)), some (.p (.int (R : Int))), some (.r q), b6, some (.p (.int (a : Int))), some (.p (.lst (out.map D.int))), a9, b10, a11, some (.p (dueD (dueF G R a out E))), some (.r S.length), some (.r (S.length + 1)), b15]) (fun i ρ st ⟨h1, _⟩ => by rw [h1]; exact s4) (fun i x ρ st hx ⟨h1, b15, h2⟩ => by
    subst h1
    subst h2
    have mem := List.mem_of_getElem? hx
    simp only [List.mem_cons, List.not_mem_nil, or_false] at mem
    rw [turn_nm]
    rcases mem with rfl | rfl | rfl
    · exact ⟨_, _, one6 n hn g1 g5 gd (by omega) F1 s4q _ _ _ _ _ _ _ _ _ _ _ _ _, rfl, _, rfl⟩
    · exact ⟨_, _, one6 n hn g1 g5 gdB (by omega) F2 s4b _ _ _ _ _ _ _ _ _ _ _ _ _, rfl, _, rfl⟩
    · exact ⟨_, _, one6 n hn g1 g5 O'.gd (by omega) F3 s4o _ _ _ _ _ _ _ _ _ _ _ _ _, rfl, _, rfl⟩) 3 (fuel - 4) 0 [a0, some (.r 0), a2, some (.p (.int G)), some (.p (.int (R : Int))), some (.r q), b6, some (.p (.int (a : Int))), some (.p (.lst (out.map D.int))), a9, b10, a11, some (.p (dueD (dueF G R a out E))), some (.r S.length), some (.r (S.length + 1)), a15] S4 ⟨rfl, _, rfl⟩ (by simp) (by simp)
  obtain ⟨ρ', st', dl, rfl, b15, rfl⟩ := dl
  have fu : 3 + 1 + (fuel - 4) = fuel := by decide
  rw [fu] at dl
  have ito : ∀ st : Sto, iterW st (.p (.lst (out.map D.int))) = some (.fix ((out.map D.int).map W.p)) := fun st => rfl
  refine ⟨b6, b10, some (.p (dueD (dueF G R a out E))), some (.r S.length), some (.r (S.length + 1)), b15, st', p1, c1, ?_, by rw [hS4]; exact at_lt s30, pa, by omega⟩
  simp only [t3, ev0, ev1, ev2, ev3, ev4, ev5, e13, e_dcT, eK, e14, e15, ito, e16, e17, it, for_dyn, dl]
end My

set_option maxRecDepth 100000
set_option maxHeartbeats 16000000
namespace My
open PySem T
theorem some_atI {is : List Int} {d : Int} (d0 : 0 ≤ d) (d1 : d < ((is.length : Nat) : Int)) : ∃ i ∈ is, ∀ st : Sto, ixW st (.p (.lst (is.map D.int))) (.p (.int d)) = some (.p (.int i)) := some_at d0 d1
/-- one more word for a later round -/
structure Aft (a R : Nat) (out : List Int) (E1 E2 : GL) : Prop where
  h : E2 = E1 ∨ ∃ l r o, (a : Int) < r ∧ o ∈ out ∧ hasL E1 l r = true ∧ E2 = updL E1 l r (getL E1 l r ++ [wo o])
theorem ifs15 (n : Nat) (hn : 2 ≤ n) (ns : List Int) {G : Int} {a R : Nat} (g1 : 1 ≤ G) (g5 : G ≤ 5) (aR : a < R) (r6 : R ≤ 6) {o0 : Int} {out left : List Int} (hl : left.length ≤ 5) {E1 : GL} (len : E1.length ≤ 100) (hh : ∀ l ∈ left, ∀ r : Int, (a : Int) < r → r < R → hasL E1 l r = true ∧ (getL E1 l r).length ≤ 8) (S : Sto) (q : Nat) (hq : 1 ≤ q) (p c : Int) (h0 : S[0]? = some (tp ns p c)) (hS : S[q]? = some (dO E1)) (hp : 0 ≤ p) (hp2 : p + 100 < 2 ^ 28) (a0 a2 a3 a6 a9 a10 a12 a13 a14 a15 : Option W) :
    ∃ (b15 : Option W) (S' : Sto) (p' c' : Int) (E2 : GL), evS (T.run tb n) i15 [a0, some (.r 0), a2, a3, some (.p (.int (R : Int))), some (.r q), a6, some (.p (.int (a : Int))), some (.p (.lst ((o0 :: out).map D.int))), a9, a10, some (.p (.lst (left.map D.int))), a12, a13, a14, a15] S = .ok (.nx, [a0, some (.r 0), a2, a3, some (.p (.int (R : Int))), some (.r q), a6, some (.p (.int (a : Int))), some (.p (.lst ((o0 :: out).map D.int))), a9, a10, some (.p (.lst (left.map D.int))), a12, a13, a14, b15]) S' ∧ S'[0]? = some (tp ns p' c') ∧ S'[q]? = some (dO E2) ∧ Aft a R (o0 :: out) E1 E2 ∧ p ≤ p' ∧ p' ≤ p + 10 := by
  by_cases z1 : left = []
  · refine ⟨a15, S, p, c, E1, ?_, h0, hS, ⟨.inl rfl⟩, Int.le_refl _, by omega⟩
    have zz : decide (left = []) = true := decide_eq_true z1
    simp only [i15, ev0, ev1, ev2, ev3, ev4, ev5, fLst_f (ws := []) (by simp), eqI_nil, zz, Bool.not_true]
  · have zz : decide (left = []) = false := decide_eq_false z1
    by_cases z2 : (a : Int) + 1 < R
    · have z2' : decide ((a : Int) + 1 < R) = true := decide_eq_true z2
      have lp : 0 < left.length := List.length_pos_iff.mpr z1
      obtain ⟨d, p1, c1, e1, d0, d1, pa, pb⟩ := digS n hn h0 hp (by omega) ((left.length : Nat) : Int) (by omega) (by omega)
      obtain ⟨l, hlm, ix⟩ := some_atI d0 d1
      have s10 : (S.set 0 (tp ns p1 c1))[0]? = some (tp ns p1 c1) := List.getElem?_set_self (st_lt0 h0)
      obtain ⟨x, p2, c2, e2, x0, x1, pc, pd⟩ := digS n hn s10 (by omega) (by omega) ((R : Int) - (a : Int) - 1) (by omega) (by omega)
      rw [List.set_set] at e2
      have s20 : (S.set 0 (tp ns p2 c2))[0]? = some (tp ns p2 c2) := List.getElem?_set_self (st_lt0 h0)
      have s2q : (S.set 0 (tp ns p2 c2))[q]? = some (dO E1) := by rw [List.getElem?_set_ne (by omega)]; exact hS
      obtain ⟨h1, h2⟩ := hh l hlm ((a : Int) + 1 + x) (by omega) (by omega)
      have i5 := ix_dO s2q h1
      have sw := set_upd s2q h1 (by omega) (getL E1 l ((a : Int) + 1 + x) ++ [wo o0])
      refine ⟨some (.p (.tup [.int l, .int ((a : Int) + 1 + x)])), _, p2, c2, updL E1 l ((a : Int) + 1 + x) (getL E1 l ((a : Int) + 1 + x) ++ [wo o0]), ?_, ?_, List.getElem?_set_self (st_lt0 s2q), ⟨.inr ⟨l, _, o0, by omega, List.mem_cons_self, h1, rfl⟩⟩, by omega, by omega⟩
      · have k2' := fun (x y : D) (st : Sto) => kTup_some (st := st) (ds := [x, y]) (by simp)
        have k1' := fun (x : D) (st : Sto) => kTup_some (st := st) (ds := [x]) (by simp)
        have ll : ∀ st : Sto, fBfn .len [.p (.lst (left.map D.int))] st = .ok (.p (.int ((left.length : Nat) : Int))) st := fun st => by rw [b_len_lst, List.length_map]
        have i8 : ∀ st : Sto, ixW st (.p (.lst ((o0 :: out).map D.int))) (.p (.int 0)) = some (.p (.int o0)) := fun st => by
          show (L2.atI ((o0 :: out).map D.int) ((0 : Nat) : Int)).map W.p = _
          rw [at_nat (k := 0) rfl (by rfl)]
          rfl
        have bt : ∀ st : Sto, bin .add (.p (.tup (getL E1 l ((a : Int) + 1 + x)))) (.p (.tup [.tup [.str "without", .int o0]])) st = .ok (.p (.tup (getL E1 l ((a : Int) + 1 + x) ++ [wo o0]))) st := fun st => bin_tup (by rw [List.length_singleton]; omega)
        simp only [i15, ev0, ev1, ev2, ev3, ev4, ev5, fLst_f (ws := []) (by simp), eqI_nil, zz, z2', Bool.not_false, ll, e1, ix, e2, k2', i5, i8, k1', bt, sw]
      · rw [List.getElem?_set_ne (by omega)]
        exact s20
    · have z2' : decide ((a : Int) + 1 < R) = false := decide_eq_false z2
      refine ⟨a15, S, p, c, E1, ?_, h0, hS, ⟨.inl rfl⟩, Int.le_refl _, by omega⟩
      simp only [i15, ev0, ev1, ev2, ev3, ev4, ev5, fLst_f (ws := []) (by simp), eqI_nil, zz, z2', Bool.not_false]
theorem chg_of {G : Int} {a R : Nat} (aR : a < R) {out : List Int} {E0 E2 : GL} {g2 : Int} {ws : List D} (hg : 0 ≤ g2 ∧ g2 < G) (Dh : Dr G R 0 E0) (sub : ∀ x, x ∈ ws → (∃ j, x = .int j) ∨ ∃ o ∈ out, x = wo o) (put : ∀ o ∈ out, wo o ∈ ws) (l8 : ws.length ≤ 8) (A : Aft a R out (updL E0 g2 a ws) E2) : Chg G a R out E0 E2 := by
  have h0 := Dh.h g2 a hg.1 hg.2 (by omega) (.inl (by omega))
  rcases A.h with rfl | ⟨l, r, o, ar, ho, hr, rfl⟩
  · refine ⟨updL_keys _ _ _ _, ⟨g2, hg.1, hg.2, fun g ne => ?_, ?_, ?_, ?_⟩, fun g n ne => .inl ?_⟩
    · rw [get_upd h0, if_neg (fun z => ne (by cases z; rfl))]
    · rw [get_upd h0, if_pos rfl]; exact sub
    · rw [get_upd h0, if_pos rfl]; exact put
    · rw [get_upd h0, if_pos rfl]; exact l8
    · rw [get_upd h0, if_neg (fun z => ne (by cases z; rfl))]
  · have na : ∀ g : Int, ¬ (g, (a : Int)) = (l, r) := fun g z => by
      have := congrArg Prod.snd z
      simp only at this
      omega
    refine ⟨(updL_keys _ _ _ _).trans (updL_keys _ _ _ _), ⟨g2, hg.1, hg.2, fun g ne => ?_, ?_, ?_, ?_⟩, fun g n ne => ?_⟩
    · rw [get_upd hr, if_neg (na g), get_upd h0, if_neg (fun z => ne (by cases z; rfl))]
    · rw [get_upd hr, if_neg (na g2), get_upd h0, if_pos rfl]; exact sub
    · rw [get_upd hr, if_neg (na g2), get_upd h0, if_pos rfl]; exact put
    · rw [get_upd hr, if_neg (na g2), get_upd h0, if_pos rfl]; exact l8
    · rw [get_upd hr]
      by_cases z : (g, n) = (l, r)
      · rw [if_pos z]
        refine .inr ⟨by have := congrArg Prod.snd z; simp only at this; omega, o, ho, ?_⟩
        rw [get_upd h0, if_neg (fun z => by have := congrArg Prod.snd z; simp only at this; omega)]
        cases z
        rfl
      · rw [if_neg z, get_upd h0, if_neg (fun z => ne (by cases z; rfl))]
        exact .inl rfl
theorem stage2 (n : Nat) (hn : 8 ≤ n) (ns : List Int) {G : Int} {a R : Nat} (g1 : 1 ≤ G) (g5 : G ≤ 5) (aR : a < R) (r6 : R ≤ 6) {o0 : Int} {out : List Int} (hG : ∀ g ∈ o0 :: out, 0 ≤ g ∧ g < G) (ond : (o0 :: out).Nodup) (o5 : (o0 :: out).length ≤ 5) {E0 : GL} (Dh : Dr G R 0 E0) (S : Sto) (q : Nat) (hq : 1 ≤ q) (p c : Int) (h0 : S[0]? = some (tp ns p c)) (hS : S[q]? = some (dO E0)) (hp : 0 ≤ p) (hp2 : p + 1100 < 2 ^ 28) (a0 a2 a6 a9 a10 a11 a12 a13 a14 a15 : Option W) :
    ∃ (b6 b9 b10 b11 b12 b13 b14 b15 : Option W) (S' : Sto) (p' c' : Int), evSs (T.run tb n) t2 [a0, some (.r 0), a2, some (.p (.int G)), some (.p (.int (R : Int))), some (.r q), a6, some (.p (.int (a : Int))), some (.p (.lst ((o0 :: out).map D.int))), a9, a10, a11, a12, a13, a14, a15] S = .ok (.nx, [a0, some (.r 0), a2, some (.p (.int G)), some (.p (.int (R : Int))), some (.r q), b6, some (.p (.int (a : Int))), some (.p (.lst ((o0 :: out).map D.int))), b9, b10, b11, b12, b13, b14, b15]) S' ∧ S'[0]? = some (tp ns p' c') ∧ p ≤ p' ∧ p' ≤ p + 400 := by
  have len := Dh.l
  have lq : q < S.length := st_lt0 hS
  obtain ⟨x1, p1, c1, e1, x10, x11, pa, pb⟩ := digS n (by omega) h0 hp (by omega) G (by omega) (by omega)
  have s1q : (S.set 0 (tp ns p1 c1))[q]? = some (dO E0) := by rw [List.getElem?_set_ne (by omega)]; exact hS
  have has1 := Dh.h x1 a x10 x11 (by omega) (.inl (by omega))
  have ix1 := ix_dO s1q has1
  have few1 := Dh.few x1 (a : Int)
  obtain ⟨N, hN⟩ : ∃ N, N = S.length := ⟨_, rfl⟩
  have lm : fBfn .lstM [.p (.tup (getL E0 x1 (a : Int)))] (S.set 0 (tp ns p1 c1)) = .ok (.r N) (S.set 0 (tp ns p1 c1) ++ [fo (getL E0 x1 (a : Int))]) := by
    rw [hN]
    have : S.length = (S.set 0 (tp ns p1 c1)).length := by rw [List.length_set]
    rw [this]
    rfl
  obtain ⟨S2, hS2⟩ : ∃ S2, S2 = S.set 0 (tp ns p1 c1) ++ [fo (getL E0 x1 (a : Int))] := ⟨_, rfl⟩
  rw [← hS2] at lm
  have l2 : S2.length = N + 1 := by rw [hS2, List.length_append, List.length_set, List.length_singleton, hN]
  have s20 : S2[0]? = some (tp ns p1 c1) := by rw [hS2]; exact at_lt (List.getElem?_set_self (st_lt0 h0))
  have s2q : S2[q]? = some (dO E0) := by rw [hS2]; exact at_lt s1q
  have s2w : S2[N]? = some (fo (getL E0 x1 (a : Int))) := by
    rw [hS2, List.getElem?_append_right (by rw [List.length_set]; omega), List.length_set, hN, Nat.sub_self]
    rfl
  obtain ⟨ws, p2, c2, b10, e2, mem, lw, pc, pd⟩ := insL n (by omega) ns N (by omega) a0 a2 (some (.p (.int G))) (some (.p (.int (R : Int)))) (some (.r q)) a6 (some (.p (.int (a : Int)))) (some (.p (.lst ((o0 :: out).map D.int)))) a11 a12 a13 a14 a15 (o0 :: out) (getL E0 x1 (a : Int)) S2 p1 c1 a10 s20 s2w (by omega) (by omega) (by omega)
  obtain ⟨S3, hS3⟩ : ∃ S3, S3 = (S2.set 0 (tp ns p2 c2)).set N (fo ws) := ⟨_, rfl⟩
  rw [← hS3] at e2
  have s30 : S3[0]? = some (tp ns p2 c2) := by rw [hS3, List.getElem?_set_ne (by omega), List.getElem?_set_self (by omega)]
  have s3q : S3[q]? = some (dO E0) := by rw [hS3, List.getElem?_set_ne (by omega), List.getElem?_set_ne (by omega)]; exact s2q
  have s3w : S3[N]? = some (fo ws) := by rw [hS3, List.getElem?_set_self (by rw [List.length_set]; omega)]
  have tl := b_tupl_fo s3w
  obtain ⟨g2, p3, c3, e3, g20, g21, pe, pf⟩ := digS n (by omega) s30 (by omega) (by omega) G (by omega) (by omega)
  have s4q : (S3.set 0 (tp ns p3 c3))[q]? = some (dO E0) := by rw [List.getElem?_set_ne (by omega)]; exact s3q
  have has2 := Dh.h g2 a g20 g21 (by omega) (.inl (by omega))
  have sw := set_upd s4q has2 (by omega) ws
  obtain ⟨S5, hS5⟩ : ∃ S5, S5 = (S3.set 0 (tp ns p3 c3)).set q (dO (updL E0 g2 (a : Int) ws)) := ⟨_, rfl⟩
  rw [← hS5] at sw
  have s50 : S5[0]? = some (tp ns p3 c3) := by rw [hS5, List.getElem?_set_ne (by omega), List.getElem?_set_self (st_lt0 s30)]
  have s5q : S5[q]? = some (dO (updL E0 g2 (a : Int) ws)) := by rw [hS5, List.getElem?_set_self (st_lt0 s4q)]
  have li := lc_filt (f := stp (T.run tb n) [a0, some (.r 0), a2, some (.p (.int G)), some (.p (.int (R : Int))), some (.r q), a6, some (.p (.int (a : Int))), some (.p (.lst ((o0 :: out).map D.int))), some (.r N), b10, a11, a12, a13, a14, a15] (.nm 10) true (.cmp .notin (.var 10) (.var 8)) (.var 10)) (st := S5) D.int (fun g => !decide (g ∈ o0 :: out)) D.int (rangeI G) [] (fun g _ => by
    cases z2 : decide (g ∈ o0 :: out) with
    | true => simp only [ev0, ev1, ev2, ev3, ev4, ev5, ew, inI_lst, z2, Bool.not_true, Bool.false_eq_true, if_false]
    | false => simp only [ev0, ev1, ev2, ev3, ev4, ev5, ew, inI_lst, z2, Bool.not_false, if_true]) (by rw [ranI_len, List.length_nil]; omega)
  rw [List.nil_append] at li
  obtain ⟨left, hleft⟩ : ∃ left, left = (rangeI G).filter fun g => !decide (g ∈ o0 :: out) := ⟨_, rfl⟩
  rw [← hleft] at li
  have ll : left.length ≤ 5 := by
    have := List.length_filter_le (fun g => !decide (g ∈ o0 :: out)) (rangeI G)
    rw [ranI_len, ← hleft] at this
    omega
  obtain ⟨b15, S6, p4, c4, E2, e4, s60, s6q, A, pg, ph⟩ := ifs15 n (by omega) ns g1 g5 aR r6 (o0 := o0) (out := out) (left := left) ll (E1 := updL E0 g2 (a : Int) ws) (by rw [updL_len]; omega) (fun l hl r r0 r1 => by
    have hl := rangeI_mem.mp (List.mem_filter.mp (hleft ▸ hl)).1
    have hk := hasL_keys (updL_keys E0 g2 (a : Int) ws) l r
    refine ⟨by rw [hk]; exact Dh.h l r hl.1 hl.2 (by omega) (.inl r1), ?_⟩
    rw [get_upd has2, if_neg (fun z => by have := congrArg Prod.snd z; simp only at this; omega)]
    exact Nat.le_trans (Dh.few _ _) (by decide)) S5 q hq p3 c3 s50 s5q (by omega) (by omega) a0 a2 (some (.p (.int G))) a6 (some (.r N)) b10 a12 a13 a14 a15
  have C := chg_of aR ⟨g20, g21⟩ Dh (fun x hx => by
    rcases (mem x).mp hx with h | ⟨o, ho, rfl⟩
    · exact .inl (Dh.ints x h)
    · exact .inr ⟨o, ho, rfl⟩) (fun o ho => (mem _).mpr (.inr ⟨o, ho, rfl⟩)) (by omega) A
  obtain ⟨B, gd⟩ := C.ok Dh hG r6
  obtain ⟨c6, c10, c12, c13, c14, c15, S7, p5, c5, e5, s70, pi, pj⟩ := stage3 n hn ns g1 g5 aR r6 hG ond o5 C.keys Dh B gd S6 q hq p4 c4 s60 s6q (by omega) (by omega) a0 a2 a6 (some (.r N)) b10 (some (.p (.lst (left.map D.int)))) a12 a13 a14 b15
  refine ⟨c6, some (.r N), c10, some (.p (.lst (left.map D.int))), c12, c13, c14, c15, S7, p5, c5, ?_, s70, by omega, by omega⟩
  have k2' := fun (x y : D) (st : Sto) => kTup_some (st := st) (ds := [x, y]) (by simp)
  have ito : ∀ st : Sto, iterW st (.p (.lst ((o0 :: out).map D.int))) = some (.fix (((o0 :: out).map D.int).map W.p)) := fun st => rfl
  simp only [t2, ev0, ev1, ev2, ev3, ev4, ev5, ew, e1, k2', ix1, lm, ito, e2, tl, e3, sw, fR1_int (sm62 (j := G) (by omega) (by omega)), rng_I, li, unW_map, e4]
  exact e5
end My

set_option maxRecDepth 100000
set_option maxHeartbeats 16000000
namespace My
open PySem T
/-! ### the law -/
theorem ifs8 (n : Nat) (hn : 2 ≤ n) (ns : List Int) {G : Int} (g1 : 1 ≤ G) (g5 : G ≤ 5) {gs : List Int} (hG : ∀ g ∈ gs, 0 ≤ g ∧ g < G) (nd : gs.Nodup) (l5 : gs.length ≤ 5) (S : Sto) (p c : Int) (h0 : S[0]? = some (tp ns p c)) (hp : 0 ≤ p) (hp2 : p + 10 < 2 ^ 28) (a0 a2 a4 a5 a6 a7 a9 a10 a11 a12 a13 a14 a15 : Option W) :
    ∃ (o0 : Int) (out : List Int) (p' c' : Int), evS (T.run tb n) i8 [a0, some (.r 0), a2, some (.p (.int G)), a4, a5, a6, a7, some (.p (.lst (gs.map D.int))), a9, a10, a11, a12, a13, a14, a15] S = .ok (.nx, [a0, some (.r 0), a2, some (.p (.int G)), a4, a5, a6, a7, some (.p (.lst ((o0 :: out).map D.int))), a9, a10, a11, a12, a13, a14, a15]) (S.set 0 (tp ns p' c')) ∧ (∀ g ∈ o0 :: out, 0 ≤ g ∧ g < G) ∧ (o0 :: out).Nodup ∧ (o0 :: out).length ≤ 5 ∧ p ≤ p' ∧ p' ≤ p + 1 := by
  cases gs with
  | nil =>
    obtain ⟨d, p1, c1, e1, d0, d1, pa, pb⟩ := digS n hn h0 hp (by omega) G (by omega) (by omega)
    refine ⟨d, [], p1, c1, ?_, fun g hg => by rw [List.mem_singleton.mp hg]; exact ⟨d0, d1⟩, by simp, by simp, pa, pb⟩
    have nl : ∀ st : Sto, eqW st (.p (.lst ([] : List D))) (.p (.lst [])) = some true := fun st => by
      have := eqI_nil (st := st) []
      rw [decide_eq_true rfl] at this
      exact this
    have f1 : ∀ st : Sto, fLst false [.p (.int d)] st = .ok (.p (.lst [.int d])) st := fun st => rfl
    simp only [List.map_nil, List.map_cons, i8, ev0, ev1, ev2, ev3, ev4, ev5, fLst_f (ws := []) (by simp), nl, e1, f1]
  | cons g gs =>
    refine ⟨g, gs, p, c, ?_, hG, nd, l5, Int.le_refl _, by omega⟩
    have q := fun (st : Sto) => eqI_nil (st := st) (g :: gs)
    have zz : decide (g :: gs = []) = false := decide_eq_false (by simp)
    rw [zz] at q
    rw [set_id h0]
    simp only [i8, ev0, ev1, ev2, ev3, ev4, ev5, fLst_f (ws := []) (by simp), q]
theorem stage1 (n : Nat) (hn : 8 ≤ n) (ns : List Int) (S : Sto) (p c : Int) (h0 : S[0]? = some (tp ns p c)) (hp : 0 ≤ p) (hp2 : p + 1500 < 2 ^ 28) (a0 a2 a3 a4 a5 a6 a7 a8 a9 a10 a11 a12 a13 a14 a15 : Option W) :
    ∃ (b3 b4 b5 b6 b7 b8 b9 b10 b11 b12 b13 b14 b15 : Option W) (S' : Sto) (p' c' : Int), evSs (T.run tb n) t1 [a0, some (.r 0), a2, a3, a4, a5, a6, a7, a8, a9, a10, a11, a12, a13, a14, a15] S = .ok (.nx, [a0, some (.r 0), a2, b3, b4, b5, b6, b7, b8, b9, b10, b11, b12, b13, b14, b15]) S' ∧ S'[0]? = some (tp ns p' c') ∧ p ≤ p' ∧ p' ≤ p + 700 := by
  obtain ⟨d1, p1, c1, e1, d10, d11, pa1, pb1⟩ := digS n (by omega) h0 hp (by omega) 4 (by decide) (by decide)
  have s10 : (S.set 0 (tp ns p1 c1))[0]? = some (tp ns p1 c1) := List.getElem?_set_self (st_lt0 h0)
  obtain ⟨d2, p2, c2, e2, d20, d21, pa2, pb2⟩ := digS n (by omega) s10 (by omega) (by omega) 6 (by decide) (by decide)
  rw [List.set_set] at e2
  obtain ⟨G, hG⟩ : ∃ G : Int, G = 2 + d1 := ⟨_, rfl⟩
  obtain ⟨R, hR⟩ : ∃ R : Nat, (R : Int) = 1 + d2 := ⟨(1 + d2).toNat, by omega⟩
  obtain ⟨S2, hS2⟩ : ∃ S2, S2 = S.set 0 (tp ns p2 c2) := ⟨_, rfl⟩
  rw [← hS2] at e2
  have s20 : S2[0]? = some (tp ns p2 c2) := by rw [hS2]; exact List.getElem?_set_self (st_lt0 h0)
  have l20 := st_lt0 s20
  have dn : ∀ ρ : Nv, evE (T.run tb n) (.dnw true) ρ S2 = .ok (.r S2.length) (S2 ++ [dO []]) := fun ρ => by rw [e_dnw]; rfl
  have s30 : (S2 ++ [dO []])[0]? = some (tp ns p2 c2) := at_lt s20
  have s3q : (S2 ++ [dO []])[S2.length]? = some (dO []) := by rw [List.getElem?_append_right (Nat.le_refl _)]; simp
  have D0 : Dr G ((0 : Nat) : Int) 0 [] := ⟨(fun e he => by cases he), (fun g n g0 _ n0 h => by omega), List.Pairwise.nil, (fun e he => by cases he), by simp⟩
  obtain ⟨E0, p3, c3, b6, b10, e3, Dh, pa3, pb3⟩ := roundL n (by omega) ns (G := G) (by omega) (by omega) S2.length (by omega) a0 a2 (some (.p (.int (R : Int)))) a7 a8 a9 a11 a12 a13 a14 a15 R 0 [] (S2 ++ [dO []]) p2 c2 a6 a10 (by omega) D0 s30 s3q (by omega) (by omega)
  rw [← List.range_eq_range', ← rng_nat] at e3
  rw [Nat.zero_add] at Dh
  obtain ⟨S3, hS3⟩ : ∃ S3, S3 = ((S2 ++ [dO []]).set 0 (tp ns p3 c3)).set S2.length (dO E0) := ⟨_, rfl⟩
  rw [← hS3] at e3
  have s40 : S3[0]? = some (tp ns p3 c3) := by rw [hS3, List.getElem?_set_ne (by omega), List.getElem?_set_self (st_lt0 s30)]
  have s4q : S3[S2.length]? = some (dO E0) := by rw [hS3, List.getElem?_set_self (by rw [List.length_set]; exact st_lt0 s3q)]
  obtain ⟨d4, p4, c4, e4, d40, d41, pa4, pb4⟩ := digS n (by omega) s40 (by omega) (by omega) (R : Int) (by omega) (by omega)
  obtain ⟨a, ha⟩ : ∃ a : Nat, d4 = (a : Int) := ⟨d4.toNat, by omega⟩
  subst ha
  have s50 : (S3.set 0 (tp ns p4 c4))[0]? = some (tp ns p4 c4) := List.getElem?_set_self (st_lt0 s40)
  obtain ⟨g, hg⟩ : ∃ g : Nat, G = (g : Int) := ⟨G.toNat, by omega⟩
  obtain ⟨gs, p5, c5, e5, m5, pw, l5, pa5, pb5⟩ := outL (n := n) (by omega) (ρ := [a0, some (.r 0), a2, some (.p (.int G)), some (.p (.int (R : Int))), some (.r S2.length), b6, some (.p (.int (a : Int))), a8, a9, b10, a11, a12, a13, a14, a15]) rfl (by show 10 < 16; decide) ns g 0 [] (S3.set 0 (tp ns p4 c4)) p4 c4 s50 (by rw [List.length_nil]; omega) (by omega) (by omega)
  rw [List.nil_append, ← List.range_eq_range', ← rng_nat, List.set_set] at e5
  have s60 : (S3.set 0 (tp ns p5 c5))[0]? = some (tp ns p5 c5) := List.getElem?_set_self (st_lt0 s40)
  obtain ⟨o0, out, p6, c6, e6, hGo, ond, o5, pa6, pb6⟩ := ifs8 n (by omega) ns (G := G) (by omega) (by omega) (gs := gs) (fun x hx => by have := m5 x hx; omega) (pw.imp fun h e => by omega) (by omega) (S3.set 0 (tp ns p5 c5)) p5 c5 s60 (by omega) (by omega) a0 a2 (some (.p (.int (R : Int)))) (some (.r S2.length)) b6 (some (.p (.int (a : Int)))) a9 b10 a11 a12 a13 a14 a15
  rw [List.set_set] at e6
  have s70 : (S3.set 0 (tp ns p6 c6))[0]? = some (tp ns p6 c6) := List.getElem?_set_self (st_lt0 s40)
  have s7q : (S3.set 0 (tp ns p6 c6))[S2.length]? = some (dO E0) := by rw [List.getElem?_set_ne (by omega)]; exact s4q
  obtain ⟨c6', c9, c10, c11, c12, c13, c14, c15, S', p7, c7, e7, s80, pa7, pb7⟩ := stage2 n hn ns (G := G) (a := a) (R := R) (by omega) (by omega) (by omega) (by omega) hGo ond o5 Dh (S3.set 0 (tp ns p6 c6)) S2.length (by omega) p6 c6 s70 s7q (by omega) (by omega) a0 a2 b6 a9 b10 a11 a12 a13 a14 a15
  refine ⟨some (.p (.int G)), some (.p (.int (R : Int))), some (.r S2.length), c6', some (.p (.int (a : Int))), some (.p (.lst ((o0 :: out).map D.int))), c9, c10, c11, c12, c13, c14, c15, S', p7, c7, ?_, s80, by omega, by omega⟩
  have gt : (2 : Int) + d1 = G := hG.symm
  have rt : (1 : Int) + d2 = (R : Int) := hR.symm
  have tn : ((R : Nat) : Int).toNat = R := Int.toNat_natCast _
  have tg : G.toNat = g := by omega
  have oc : (.cmp .gt (.cal false 10 (.cons (.var 1) (.cons (.con (.int 3)) .nil))) (.con (.int 0)) : Ex) = outC := rfl
  simp only [t1, oc, ev0, ev1, ev2, ev3, ev4, ev5, e1, gt, e2, rt, dn, fR1_int (sm62 (j := (R : Int)) (by omega) (by omega)), tn, e3, e4, fR1_int (sm62 (j := G) (by omega) (by omega)), tg, e5, unW_map, e6]
  exact e7
theorem turns (n : Nat) (hn : 8 ≤ n) (ns : List Int) : ∀ (k i : Nat) (S : Sto) (p c : Int) (a2 a3 a4 a5 a6 a7 a8 a9 a10 a11 a12 a13 a14 a15 : Option W), i + k ≤ 3 → S[0]? = some (tp ns p c) → 0 ≤ p → p + 2000 * (k : Nat) + 10 < 2 ^ 28 →
    ∃ (ρ' : Nv) (S' : Sto), forLoop (turn (T.run tb n) (.nm 2) b14_0) (((List.range' i k).map fun (j : Nat) => D.int (j : Int)).map W.p) [some (.p (.scr ns)), some (.r 0), a2, a3, a4, a5, a6, a7, a8, a9, a10, a11, a12, a13, a14, a15] S = .ok (.nx, ρ') S'
  | 0, i, S, p, c, a2, a3, a4, a5, a6, a7, a8, a9, a10, a11, a12, a13, a14, a15, _, _, _, _ => ⟨_, _, for_nil _⟩
  | k + 1, i, S, p, c, a2, a3, a4, a5, a6, a7, a8, a9, a10, a11, a12, a13, a14, a15, hi, h0, hp, hp2 => by
    have ix : ixW S (.r 0) (.p (.int 1)) = some (.p (.int p)) := by
      rw [ix_rl (ws := [.p (.scr ns), .p (.int p), .p (.int c)]) h0]
      rfl
    have ls : ∀ st : Sto, fBfn .len [.p (.scr ns)] st = .ok (.p (.int ((ns.length : Nat) : Int))) st := fun st => by simp only [ev0, ev1, ev2, ev3, ev4, ev5]
    rw [List.range'_succ, List.map_cons, List.map_cons, for_cons, turn_nm]
    have go : ∃ (ρ' : Nv) (S' : Sto), kFor (turn (T.run tb n) (.nm 2) b14_0) (((List.range' (i + 1) k).map fun (j : Nat) => D.int (j : Int)).map W.p) (evSs (T.run tb n) t1 [some (.p (.scr ns)), some (.r 0), some (.p (.int (i : Int))), a3, a4, a5, a6, a7, a8, a9, a10, a11, a12, a13, a14, a15] S) = .ok (.nx, ρ') S' := by
      obtain ⟨b3, b4, b5, b6, b7, b8, b9, b10, b11, b12, b13, b14, b15, S1, p1, c1, e1, s10, pa, pb⟩ := stage1 n hn ns S p c h0 hp (by omega) (some (.p (.scr ns))) (some (.p (.int (i : Int)))) a3 a4 a5 a6 a7 a8 a9 a10 a11 a12 a13 a14 a15
      obtain ⟨ρ', S', e2⟩ := turns n hn ns k (i + 1) S1 p1 c1 (some (.p (.int (i : Int)))) b3 b4 b5 b6 b7 b8 b9 b10 b11 b12 b13 b14 b15 (by omega) s10 (by omega) (by omega)
      exact ⟨ρ', S', by rw [e1, kFor_nx]; exact e2⟩
    obtain ⟨ρ', S', e⟩ := go
    by_cases z1 : (1 : Int) < (i : Int)
    · have z1' : decide ((1 : Int) < (i : Int)) = true := decide_eq_true z1
      by_cases z2 : ((ns.length : Nat) : Int) ≤ p
      · have z2' : decide (((ns.length : Nat) : Int) ≤ p) = true := decide_eq_true z2
        refine ⟨[some (.p (.scr ns)), some (.r 0), some (.p (.int (i : Int))), a3, a4, a5, a6, a7, a8, a9, a10, a11, a12, a13, a14, a15], S, ?_⟩
        rw [b14_h]
        simp only [hc, ev0, ev1, ev2, ev3, ev4, ev5, ix, ls, z1', z2', kFor_bk]
      · have z2' : decide (((ns.length : Nat) : Int) ≤ p) = false := decide_eq_false z2
        refine ⟨ρ', S', ?_⟩
        rw [b14_h]
        simp only [hc, ev0, ev1, ev2, ev3, ev4, ev5, ix, ls, z1', z2']
        exact e
    · have z1' : decide ((1 : Int) < (i : Int)) = false := decide_eq_false z1
      refine ⟨ρ', S', ?_⟩
      rw [b14_h]
      simp only [hc, ev0, ev1, ev2, ev3, ev4, ev5, ix, ls, z1']
      exact e
noncomputable def deep : Nat := 30
theorem law_plain (ns : List Int) (hn : ns.length ≤ 63) : ∃ st, T.run tb deep 14 [.p (.scr ns)] [] = .ok (.p (.bl true)) st := by
  show ∃ st, T.run tb (29 + 1) 14 [.p (.scr ns)] [] = .ok (.p (.bl true)) st
  rw [run_go 1 16 b14 [some (.p (.scr ns)), none, none, none, none, none, none, none, none, none, none, none, none, none, none, none] rfl _ rfl rfl]
  obtain ⟨ρ', S', e⟩ := turns 29 (by decide) ns 3 0 [tp ns 0 0] 0 0 none none none none none none none none none none none none none none (by decide) rfl (by decide) (by decide)
  rw [← List.range_eq_range', ← rng_nat] at e
  have l3 : fLst true [.p (.scr ns), .p (.int 0), .p (.int 0)] ([] : Sto) = .ok (.r 0) [tp ns 0 0] := rfl
  have t3 : Int.toNat 3 = 3 := rfl
  simp only [b14, ev0, ev1, ev2, ev3, ev4, ev5, l3, fR1_int (j := 3) (by decide), t3, e]
  exact ⟨_, rfl⟩
end My

set_option maxRecDepth 100000
set_option maxHeartbeats 4000000
namespace My
open PySem L2 T
noncomputable def top (i : Nat) : Stmt := PySem.Challenge.pw_rowlaid_k53_whole_gates_left_out.main.body.getD i (.Pass ⟨0, 0, 0, 0⟩)
noncomputable def r0 : Rec := ⟨"is_count", "is_count", top 8, ["thing"], ["thing"], ⟨1, 1, b0⟩⟩
noncomputable def r1 : Rec := ⟨"is_word_of", "is_word_of", top 9, ["gates", "thing"], ["gates", "thing"], ⟨2, 2, b1⟩⟩
noncomputable def r2 : Rec := ⟨"is_gate", "is_gate", top 10, ["gates", "thing"], ["gates", "thing"], ⟨2, 2, b2⟩⟩
noncomputable def r3 : Rec := ⟨"are_words", "are_words", top 11, ["gates", "thing", "word"], ["gates", "thing"], ⟨2, 3, b3⟩⟩
noncomputable def r4 : Rec := ⟨"__init__", "Gathering.__init__", inClass (top 12) 0, ["self", "gates"], ["self", "gates"], ⟨2, 2, b4⟩⟩
noncomputable def r5 : Rec := ⟨"come", "Gathering.come", inClass (top 12) 1, ["self", "gate", "number", "words"], ["self", "gate", "number", "words"], ⟨4, 4, b5⟩⟩
noncomputable def r6 : Rec := ⟨"walk", "Gathering.walk", inClass (top 12) 2, ["self", "order", "number", "left", "words", "gate", "out", "turn", "word"], ["self"], ⟨1, 9, b6⟩⟩
noncomputable def r7 : Rec := ⟨"order", "Gathering.order", inClass (top 12) 3, ["self"], ["self"], ⟨1, 1, b7⟩⟩
noncomputable def r8 : Rec := ⟨"known", "Gathering.known", inClass (top 12) 4, ["self"], ["self"], ⟨1, 1, b8⟩⟩
noncomputable def r9 : Rec := ⟨"_law_e_mill", "_law_e_mill", top 14, ["cell", "at", "fine", "coarse", "flour"], ["cell", "at"], ⟨2, 5, b9⟩⟩
noncomputable def r10 : Rec := ⟨"_law_e_grain", "_law_e_grain", top 15, ["sack", "many", "found", "at", "cell"], ["sack", "many"], ⟨2, 5, b10⟩⟩
noncomputable def r11 : Rec := ⟨"_law_e_plain", "_law_e_plain", top 16, ["sack", "turn"], ["sack"], ⟨1, 2, b11⟩⟩
noncomputable def r12 : Rec := ⟨"_law_e_told", "_law_e_told", top 17, ["gates", "lists", "gathering", "gate", "number"], ["gates", "lists"], ⟨2, 5, b12⟩⟩
noncomputable def r13 : Rec := ⟨"_law_e_due", "_law_e_due", top 18, ["gates", "lists", "rounds_here", "at", "out", "found", "known", "number", "left", "gate", "word"], ["gates", "lists", "rounds_here", "at", "out"], ⟨5, 11, b13⟩⟩
noncomputable def r14 : Rec := ⟨"law", "law", top 19, ["script", "sack", "k", "gates", "rounds_here", "lists", "number", "at", "out", "some", "gate", "left", "due", "bare", "other", "one"], ["script"], ⟨1, 16, b14⟩⟩
noncomputable def rs : List Rec := [r0, r1, r2, r3, r4, r5, r6, r7, r8, r9, r10, r11, r12, r13, r14]
theorem tb_is : tbl rs = tb := by
  funext i
  show rs[i]?.map (·.d) = ds[i]?
  rw [← List.getElem?_map]
  rfl
noncomputable def tops : Lists where
  gl := [(("Again" : Str), (Gk.exc 1 : Gk)), (("Gathering" : Str), (Gk.cls 4 : Gk)), (("MOST_GATES" : Str), (Gk.con (.int 5) : Gk)), (("MOST_WORDS" : Str), (Gk.con (.int 8) : Gk)), (("NoGate" : Str), (Gk.exc 2 : Gk)), (("NoText" : Str), (Gk.exc 3 : Gk)), (("_law_e_due" : Str), (Gk.fn 13 5 : Gk)), (("_law_e_grain" : Str), (Gk.fn 10 2 : Gk)), (("_law_e_mill" : Str), (Gk.fn 9 2 : Gk)), (("_law_e_plain" : Str), (Gk.fn 11 1 : Gk)), (("_law_e_told" : Str), (Gk.fn 12 2 : Gk)), (("all" : Str), (Gk.blt : Gk)), (("are_words" : Str), (Gk.fn 3 2 : Gk)), (("bool" : Str), (Gk.blt : Gk)), (("dict" : Str), (Gk.blt : Gk)), (("int" : Str), (Gk.blt : Gk)), (("is_count" : Str), (Gk.fn 0 1 : Gk)), (("is_gate" : Str), (Gk.fn 2 2 : Gk)), (("is_word_of" : Str), (Gk.fn 1 2 : Gk)), (("isinstance" : Str), (Gk.blt : Gk)), (("len" : Str), (Gk.blt : Gk)), (("list" : Str), (Gk.blt : Gk)), (("range" : Str), (Gk.blt : Gk)), (("str" : Str), (Gk.blt : Gk)), (("tuple" : Str), (Gk.blt : Gk))]
  ini := [(4, 4, 2)]
  met := [(4, "come", 5, 4), (4, "known", 8, 1), (4, "order", 7, 1), (4, "walk", 6, 1)]
  fok := [(4, "gates"), (4, "lists")]
  xr := []
  xs := []
  kw := []
theorem rs_ok : rs.all (recOk (tabOf tops)) = true := by decide +kernel
end My

set_option maxRecDepth 100000
set_option maxHeartbeats 4000000
namespace My
open PySem L2 T
theorem all_mk {w : World} {K : PySem.W.Frag} {h : Heap} {mg : Str → Option Value} {fa f0 f1 f2 f3 f4 f5 f6 f7 f8 f9 f10 f11 f12 f13 f14 c1 c2 c3 c4 : Addr} (X : K.In h) (G : h.Ns mainGlobals mg) (hfa : mg "law" = some (.ref fa))
    {od0 an0 od1 an1 od2 an2 od3 an3 od4 an4 od5 an5 od6 an6 od7 an7 od8 an8 od9 an9 od10 an10 od11 an11 od12 an12 od13 an13 od14 an14 : Option Addr} {sl0 sl1 sl2 sl3 sl4 sl5 sl6 sl7 sl8 sl9 sl10 sl11 sl12 sl13 sl14 : Array (Option Value)} {oc0 kV0 dc0 pm0 cd0 ct0 oc1 kV1 dc1 pm1 cd1 ct1 oc2 kV2 dc2 pm2 cd2 ct2 oc3 kV3 dc3 pm3 cd3 ct3 oc4 kV4 dc4 pm4 cd4 ct4 oc5 kV5 dc5 pm5 cd5 ct5 oc6 kV6 dc6 pm6 cd6 ct6 oc7 kV7 dc7 pm7 cd7 ct7 oc8 kV8 dc8 pm8 cd8 ct8 oc9 kV9 dc9 pm9 cd9 ct9 oc10 kV10 dc10 pm10 cd10 ct10 oc11 kV11 dc11 pm11 cd11 ct11 oc12 kV12 dc12 pm12 cd12 ct12 oc13 kV13 dc13 pm13 cd13 ct13 oc14 kV14 dc14 pm14 cd14 ct14 : Value}
    {t_MOST_GATES t_MOST_WORDS : Nat}
    (a0 : PySem.W.nsIn K mainGlobals "is_count" = some (some (.ref f0)))
    (l0 : K.lookup f0 = some ⟨oc0, od0, .func (PySem.W.fnOf "is_count" "is_count" (defArgs r0.st) (defBody r0.st) (defScope r0.st) .none kV0 dc0 pm0 an0 cd0 ct0), sl0⟩)
    (q0 : PySem.W.codeIn K cd0 "is_count" = true)
    (k0 : PySem.W.keepIn K (.ref f0) = true)
    (a1 : PySem.W.nsIn K mainGlobals "is_word_of" = some (some (.ref f1)))
    (l1 : K.lookup f1 = some ⟨oc1, od1, .func (PySem.W.fnOf "is_word_of" "is_word_of" (defArgs r1.st) (defBody r1.st) (defScope r1.st) .none kV1 dc1 pm1 an1 cd1 ct1), sl1⟩)
    (q1 : PySem.W.codeIn K cd1 "is_word_of" = true)
    (k1 : PySem.W.keepIn K (.ref f1) = true)
    (a2 : PySem.W.nsIn K mainGlobals "is_gate" = some (some (.ref f2)))
    (l2 : K.lookup f2 = some ⟨oc2, od2, .func (PySem.W.fnOf "is_gate" "is_gate" (defArgs r2.st) (defBody r2.st) (defScope r2.st) .none kV2 dc2 pm2 an2 cd2 ct2), sl2⟩)
    (q2 : PySem.W.codeIn K cd2 "is_gate" = true)
    (k2 : PySem.W.keepIn K (.ref f2) = true)
    (a3 : PySem.W.nsIn K mainGlobals "are_words" = some (some (.ref f3)))
    (l3 : K.lookup f3 = some ⟨oc3, od3, .func (PySem.W.fnOf "are_words" "are_words" (defArgs r3.st) (defBody r3.st) (defScope r3.st) .none kV3 dc3 pm3 an3 cd3 ct3), sl3⟩)
    (q3 : PySem.W.codeIn K cd3 "are_words" = true)
    (k3 : PySem.W.keepIn K (.ref f3) = true)
    (a4 : PySem.W.findIn K (.ref c4) "__init__" = some (some (.ref f4)))
    (i4 : PySem.W.isFn K (.ref f4) = true)
    (l4 : K.lookup f4 = some ⟨oc4, od4, .func (PySem.W.fnOf "__init__" "Gathering.__init__" (defArgs r4.st) (defBody r4.st) (defScope r4.st) .none kV4 dc4 pm4 an4 cd4 ct4), sl4⟩)
    (q4 : PySem.W.codeIn K cd4 "Gathering.__init__" = true)
    (k4 : PySem.W.keepIn K (.ref f4) = true)
    (a5 : PySem.W.findIn K (.ref c4) "come" = some (some (.ref f5)))
    (i5 : PySem.W.isFn K (.ref f5) = true)
    (l5 : K.lookup f5 = some ⟨oc5, od5, .func (PySem.W.fnOf "come" "Gathering.come" (defArgs r5.st) (defBody r5.st) (defScope r5.st) .none kV5 dc5 pm5 an5 cd5 ct5), sl5⟩)
    (q5 : PySem.W.codeIn K cd5 "Gathering.come" = true)
    (k5 : PySem.W.keepIn K (.ref f5) = true)
    (a6 : PySem.W.findIn K (.ref c4) "walk" = some (some (.ref f6)))
    (i6 : PySem.W.isFn K (.ref f6) = true)
    (l6 : K.lookup f6 = some ⟨oc6, od6, .func (PySem.W.fnOf "walk" "Gathering.walk" (defArgs r6.st) (defBody r6.st) (defScope r6.st) .none kV6 dc6 pm6 an6 cd6 ct6), sl6⟩)
    (q6 : PySem.W.codeIn K cd6 "Gathering.walk" = true)
    (k6 : PySem.W.keepIn K (.ref f6) = true)
    (a7 : PySem.W.findIn K (.ref c4) "order" = some (some (.ref f7)))
    (i7 : PySem.W.isFn K (.ref f7) = true)
    (l7 : K.lookup f7 = some ⟨oc7, od7, .func (PySem.W.fnOf "order" "Gathering.order" (defArgs r7.st) (defBody r7.st) (defScope r7.st) .none kV7 dc7 pm7 an7 cd7 ct7), sl7⟩)
    (q7 : PySem.W.codeIn K cd7 "Gathering.order" = true)
    (k7 : PySem.W.keepIn K (.ref f7) = true)
    (a8 : PySem.W.findIn K (.ref c4) "known" = some (some (.ref f8)))
    (i8 : PySem.W.isFn K (.ref f8) = true)
    (l8 : K.lookup f8 = some ⟨oc8, od8, .func (PySem.W.fnOf "known" "Gathering.known" (defArgs r8.st) (defBody r8.st) (defScope r8.st) .none kV8 dc8 pm8 an8 cd8 ct8), sl8⟩)
    (q8 : PySem.W.codeIn K cd8 "Gathering.known" = true)
    (k8 : PySem.W.keepIn K (.ref f8) = true)
    (a9 : PySem.W.nsIn K mainGlobals "_law_e_mill" = some (some (.ref f9)))
    (l9 : K.lookup f9 = some ⟨oc9, od9, .func (PySem.W.fnOf "_law_e_mill" "_law_e_mill" (defArgs r9.st) (defBody r9.st) (defScope r9.st) .none kV9 dc9 pm9 an9 cd9 ct9), sl9⟩)
    (q9 : PySem.W.codeIn K cd9 "_law_e_mill" = true)
    (k9 : PySem.W.keepIn K (.ref f9) = true)
    (a10 : PySem.W.nsIn K mainGlobals "_law_e_grain" = some (some (.ref f10)))
    (l10 : K.lookup f10 = some ⟨oc10, od10, .func (PySem.W.fnOf "_law_e_grain" "_law_e_grain" (defArgs r10.st) (defBody r10.st) (defScope r10.st) .none kV10 dc10 pm10 an10 cd10 ct10), sl10⟩)
    (q10 : PySem.W.codeIn K cd10 "_law_e_grain" = true)
    (k10 : PySem.W.keepIn K (.ref f10) = true)
    (a11 : PySem.W.nsIn K mainGlobals "_law_e_plain" = some (some (.ref f11)))
    (l11 : K.lookup f11 = some ⟨oc11, od11, .func (PySem.W.fnOf "_law_e_plain" "_law_e_plain" (defArgs r11.st) (defBody r11.st) (defScope r11.st) .none kV11 dc11 pm11 an11 cd11 ct11), sl11⟩)
    (q11 : PySem.W.codeIn K cd11 "_law_e_plain" = true)
    (k11 : PySem.W.keepIn K (.ref f11) = true)
    (a12 : PySem.W.nsIn K mainGlobals "_law_e_told" = some (some (.ref f12)))
    (l12 : K.lookup f12 = some ⟨oc12, od12, .func (PySem.W.fnOf "_law_e_told" "_law_e_told" (defArgs r12.st) (defBody r12.st) (defScope r12.st) .none kV12 dc12 pm12 an12 cd12 ct12), sl12⟩)
    (q12 : PySem.W.codeIn K cd12 "_law_e_told" = true)
    (k12 : PySem.W.keepIn K (.ref f12) = true)
    (a13 : PySem.W.nsIn K mainGlobals "_law_e_due" = some (some (.ref f13)))
    (l13 : K.lookup f13 = some ⟨oc13, od13, .func (PySem.W.fnOf "_law_e_due" "_law_e_due" (defArgs r13.st) (defBody r13.st) (defScope r13.st) .none kV13 dc13 pm13 an13 cd13 ct13), sl13⟩)
    (q13 : PySem.W.codeIn K cd13 "_law_e_due" = true)
    (k13 : PySem.W.keepIn K (.ref f13) = true)
    (a14 : PySem.W.nsIn K mainGlobals "law" = some (some (.ref f14)))
    (l14 : K.lookup f14 = some ⟨oc14, od14, .func (PySem.W.fnOf "law" "law" (defArgs r14.st) (defBody r14.st) (defScope r14.st) .none kV14 dc14 pm14 an14 cd14 ct14), sl14⟩)
    (q14 : PySem.W.codeIn K cd14 "law" = true)
    (k14 : PySem.W.keepIn K (.ref f14) = true)
    (aC4 : PySem.W.nsIn K mainGlobals "Gathering" = some (some (.ref c4)))
    (pg4 : PySem.W.plainGet K c4 Str.empty = true)
    (hd4 : PySem.W.hasDictIn K c4 = true)
    (po4 : PySem.W.plainOver K c4 = true)
    (sa4 : PySem.W.findIn K (.ref c4) "__setattr__" = some (some (.builtin "object.__setattr__")))
    (mk4 : PySem.W.makesIn K c4 = true)
    (kc4 : PySem.W.keepIn K (.ref c4) = true)
    (n0 : PySem.W.findIn K (.ref c4) "gates" = some none)
    (n1 : PySem.W.findIn K (.ref c4) "lists" = some none)
    (aC1 : PySem.W.nsIn K mainGlobals "Again" = some (some (.ref c1)))
    (e1 : PySem.W.excIn K c1 [.type "ValueError", .type "Exception", .type "BaseException", .type "object"] "ValueError.__new__" = true)
    (kc1 : PySem.W.keepIn K (.ref c1) = true)
    (sb1 : PySem.W.subIn K (.ref c1) (.type "BaseException") = some true)
    (ty1 : PySem.W.typeIn K (.ref c1) = some (.type "type"))
    (hd1 : PySem.W.hasDictIn K c1 = true)
    (g_MOST_GATES : PySem.W.nsIn K mainGlobals "MOST_GATES" = some (some (.int 5 t_MOST_GATES)))
    (g_MOST_WORDS : PySem.W.nsIn K mainGlobals "MOST_WORDS" = some (some (.int 8 t_MOST_WORDS)))
    (aC2 : PySem.W.nsIn K mainGlobals "NoGate" = some (some (.ref c2)))
    (e2 : PySem.W.excIn K c2 [.type "ValueError", .type "Exception", .type "BaseException", .type "object"] "ValueError.__new__" = true)
    (kc2 : PySem.W.keepIn K (.ref c2) = true)
    (sb2 : PySem.W.subIn K (.ref c2) (.type "BaseException") = some true)
    (ty2 : PySem.W.typeIn K (.ref c2) = some (.type "type"))
    (hd2 : PySem.W.hasDictIn K c2 = true)
    (aC3 : PySem.W.nsIn K mainGlobals "NoText" = some (some (.ref c3)))
    (e3 : PySem.W.excIn K c3 [.type "ValueError", .type "Exception", .type "BaseException", .type "object"] "ValueError.__new__" = true)
    (kc3 : PySem.W.keepIn K (.ref c3) = true)
    (sb3 : PySem.W.subIn K (.ref c3) (.type "BaseException") = some true)
    (ty3 : PySem.W.typeIn K (.ref c3) = some (.type "type"))
    (hd3 : PySem.W.hasDictIn K c3 = true)
    (z_all : PySem.W.nsIn K mainGlobals "all" = some none)
    (z_bool : PySem.W.nsIn K mainGlobals "bool" = some none)
    (z_dict : PySem.W.nsIn K mainGlobals "dict" = some none)
    (z_int : PySem.W.nsIn K mainGlobals "int" = some none)
    (z_isinstance : PySem.W.nsIn K mainGlobals "isinstance" = some none)
    (z_len : PySem.W.nsIn K mainGlobals "len" = some none)
    (z_list : PySem.W.nsIn K mainGlobals "list" = some none)
    (z_range : PySem.W.nsIn K mainGlobals "range" = some none)
    (z_str : PySem.W.nsIn K mainGlobals "str" = some none)
    (z_tuple : PySem.W.nsIn K mainGlobals "tuple" = some none)
    : ∃ fd : FuncData, (∀ (s : Shared) (v : Value), BindsTo s fd ⟨[v], []⟩ [("script", v)]) ∧ ∀ base : Heap, K.In base → base.Ns mainGlobals mg → FnOk PySem.Challenge.pw_rowlaid_k53_whole_gates_left_out w K mg base (CX PySem.Challenge.pw_rowlaid_k53_whole_gates_left_out w) (2 * deep) fa fd ["script"] (spLaw K 63) := by
  have e := hfa.symm.trans (PySem.W.mg_of X G a14)
  cases e
  have cl : ∃ Cl : Nat → Addr, True ∧ Cl 1 = c1 ∧ Cl 2 = c2 ∧ Cl 3 = c3 ∧ Cl 4 = c4 := ⟨fun i => if i = 1 then c1 else if i = 2 then c2 else if i = 3 then c3 else if i = 4 then c4 else 0, trivial, rfl, rfl, rfl, rfl⟩
  obtain ⟨Cl, _, rfl, rfl, rfl, rfl⟩ := cl
  have F0 := fun_mk (st := r0.st) l0 q0 k0
  have B0 := F0.binds (ps := r0.ps) fun _ _ _ _ _ _ us hl => match us, hl with | [_], _ => rfl
  have F1 := fun_mk (st := r1.st) l1 q1 k1
  have B1 := F1.binds (ps := r1.ps) fun _ _ _ _ _ _ us hl => match us, hl with | [_, _], _ => rfl
  have F2 := fun_mk (st := r2.st) l2 q2 k2
  have B2 := F2.binds (ps := r2.ps) fun _ _ _ _ _ _ us hl => match us, hl with | [_, _], _ => rfl
  have F3 := fun_mk (st := r3.st) l3 q3 k3
  have B3 := F3.binds (ps := r3.ps) fun _ _ _ _ _ _ us hl => match us, hl with | [_, _], _ => rfl
  have F4 := fun_mk (st := r4.st) l4 q4 k4
  have B4 := F4.binds (ps := r4.ps) fun _ _ _ _ _ _ us hl => match us, hl with | [_, _], _ => rfl
  have F5 := fun_mk (st := r5.st) l5 q5 k5
  have B5 := F5.binds (ps := r5.ps) fun _ _ _ _ _ _ us hl => match us, hl with | [_, _, _, _], _ => rfl
  have F6 := fun_mk (st := r6.st) l6 q6 k6
  have B6 := F6.binds (ps := r6.ps) fun _ _ _ _ _ _ us hl => match us, hl with | [_], _ => rfl
  have F7 := fun_mk (st := r7.st) l7 q7 k7
  have B7 := F7.binds (ps := r7.ps) fun _ _ _ _ _ _ us hl => match us, hl with | [_], _ => rfl
  have F8 := fun_mk (st := r8.st) l8 q8 k8
  have B8 := F8.binds (ps := r8.ps) fun _ _ _ _ _ _ us hl => match us, hl with | [_], _ => rfl
  have F9 := fun_mk (st := r9.st) l9 q9 k9
  have B9 := F9.binds (ps := r9.ps) fun _ _ _ _ _ _ us hl => match us, hl with | [_, _], _ => rfl
  have F10 := fun_mk (st := r10.st) l10 q10 k10
  have B10 := F10.binds (ps := r10.ps) fun _ _ _ _ _ _ us hl => match us, hl with | [_, _], _ => rfl
  have F11 := fun_mk (st := r11.st) l11 q11 k11
  have B11 := F11.binds (ps := r11.ps) fun _ _ _ _ _ _ us hl => match us, hl with | [_], _ => rfl
  have F12 := fun_mk (st := r12.st) l12 q12 k12
  have B12 := F12.binds (ps := r12.ps) fun _ _ _ _ _ _ us hl => match us, hl with | [_, _], _ => rfl
  have F13 := fun_mk (st := r13.st) l13 q13 k13
  have B13 := F13.binds (ps := r13.ps) fun _ _ _ _ _ _ us hl => match us, hl with | [_, _, _, _, _], _ => rfl
  have F14 := fun_mk (st := r14.st) l14 q14 k14
  have B14 := F14.binds (ps := r14.ps) fun _ _ _ _ _ _ us hl => match us, hl with | [_], _ => rfl
  have C4 : Cls K (Cl 4) := ⟨pg4, hd4, po4, sa4⟩
  have Z := top_of (l := tops) (F := ⟨K, Cl⟩) (mg := mg) (pr := w.params) (0, default) (show FnsIs K rs _ from (.cons F0 B0 (.cons F1 B1 (.cons F2 B2 (.cons F3 B3 (.cons F4 B4 (.cons F5 B5 (.cons F6 B6 (.cons F7 B7 (.cons F8 B8 (.cons F9 B9 (.cons F10 B10 (.cons F11 B11 (.cons F12 B12 (.cons F13 B13 (.cons F14 B14 .nil))))))))))))))))
    (.cons (exc_mk X G PySem.F.excBase_ValueError aC1 e1 kc1 sb1 ty1 hd1) (.cons (PySem.W.mg_of X G aC4) (.cons ⟨.int _, _, PySem.W.mg_of X G g_MOST_GATES, ⟨_, rfl⟩, fun _ _ => .int _⟩ (.cons ⟨.int _, _, PySem.W.mg_of X G g_MOST_WORDS, ⟨_, rfl⟩, fun _ _ => .int _⟩ (.cons (exc_mk X G PySem.F.excBase_ValueError aC2 e2 kc2 sb2 ty2 hd2) (.cons (exc_mk X G PySem.F.excBase_ValueError aC3 e3 kc3 sb3 ty3 hd3) (.cons ⟨PySem.W.mg_of X G a13, rfl⟩ (.cons ⟨PySem.W.mg_of X G a10, rfl⟩ (.cons ⟨PySem.W.mg_of X G a9, rfl⟩ (.cons ⟨PySem.W.mg_of X G a11, rfl⟩ (.cons ⟨PySem.W.mg_of X G a12, rfl⟩ (.cons (PySem.W.mg_none_of X G z_all) (.cons ⟨PySem.W.mg_of X G a3, rfl⟩ (.cons (PySem.W.mg_none_of X G z_bool) (.cons (PySem.W.mg_none_of X G z_dict) (.cons (PySem.W.mg_none_of X G z_int) (.cons ⟨PySem.W.mg_of X G a0, rfl⟩ (.cons ⟨PySem.W.mg_of X G a2, rfl⟩ (.cons ⟨PySem.W.mg_of X G a1, rfl⟩ (.cons (PySem.W.mg_none_of X G z_isinstance) (.cons (PySem.W.mg_none_of X G z_len) (.cons (PySem.W.mg_none_of X G z_list) (.cons (PySem.W.mg_none_of X G z_range) (.cons (PySem.W.mg_none_of X G z_str) (.cons (PySem.W.mg_none_of X G z_tuple) .nil)))))))))))))))))))))))))
    (.cons ⟨⟨mk4, a4, i4, kc4⟩, rfl⟩ .nil)
    (.cons ⟨C4, ⟨a5, i5, k5⟩, rfl⟩ (.cons ⟨C4, ⟨a8, i8, k8⟩, rfl⟩ (.cons ⟨C4, ⟨a7, i7, k7⟩, rfl⟩ (.cons ⟨C4, ⟨a6, i6, k6⟩, rfl⟩ .nil))))
    (.cons ⟨C4, n0⟩ (.cons ⟨C4, n1⟩ .nil))
    .nil
    .nil
    .nil
  exact ⟨_, fun s v => .of_eq rfl, fun base _ _ => law_of (n := deep) (most := 63) rs_ok Z (i := 14) rfl rfl fun ns hn => by rw [tb_is]; exact law_plain ns hn⟩
theorem walk {l : PySem.W.OpenLaw} {q : Program} {loose : List Str} {XP : (Str → Option Value) → Heap → Prop} {YP : World → Heap → Prop} {d : DefRec} {K : Params → PySem.W.Frag} (hl : l.prog = PySem.Challenge.pw_rowlaid_k53_whole_gates_left_out) (hn : l.most = some 63) (hdf : d.params.defaults = [])
    (hY : ∀ (w : World) (h : Heap), YP w h → (K w.params).In h)
    (D : ∀ (w : World) (mg : Str → Option Value) (fa : Addr) (h : Heap), (K w.params).In h → h.Ns mainGlobals mg → mg d.name = some (.ref fa) →
      ∃ fd : FuncData, (∀ (s : Shared) (u : Value), BindsTo s fd ⟨[u], []⟩ [("script", u)]) ∧ ∀ base : Heap, (K w.params).In base → base.Ns mainGlobals mg → FnOk l.prog w (K w.params) mg base (CX l.prog w) (2 * deep) fa fd ["script"] (spLaw (K w.params) 63)) :
    PySem.W.WalkO q loose XP YP l.row.toRowW d [] (fun f vs => PySem.call f vs) :=
  L2.walk_of (n := 63) (k := 2 * deep) (x := "script") (CX := fun w => CX l.prog w) (sp := fun w => spLaw (K w.params) 63) hn (by decide) hdf ⟨rfl, by decide, by decide⟩ hY D (fun _ _ a ns hl hO hS => ⟨a, ns, rfl, hS, hO, hl, fun _ => rfl⟩) fun _ _ _ _ _ z => cx_no z
end My
open PySem PySem.W PyProof.Rows
set_option maxRecDepth 100000 in
set_option maxHeartbeats 0 in
theorem PySem.Challenge.cw_rowlaid_k53_whole_gates_left_out_holds : PySem.Challenge.rw_rowlaid_k53_whole_gates_left_out.Holds := by
  w_on; o_law; k_head; (case hw => w_witness2)
  k_fill
  refine My.walk (l := PySem.Challenge.rw_rowlaid_k53_whole_gates_left_out) rfl rfl rfl (fun w h Y => PySem.W.kIn_of Y) ?D
  case D =>
    intro w mg fa h KX G hmg
    refine' My.all_mk KX G hmg ?a0 ?l0 ?q0 ?k0 ?a1 ?l1 ?q1 ?k1 ?a2 ?l2 ?q2 ?k2 ?a3 ?l3 ?q3 ?k3 ?a4 ?i4 ?l4 ?q4 ?k4 ?a5 ?i5 ?l5 ?q5 ?k5 ?a6 ?i6 ?l6 ?q6 ?k6 ?a7 ?i7 ?l7 ?q7 ?k7 ?a8 ?i8 ?l8 ?q8 ?k8 ?a9 ?l9 ?q9 ?k9 ?a10 ?l10 ?q10 ?k10 ?a11 ?l11 ?q11 ?k11 ?a12 ?l12 ?q12 ?k12 ?a13 ?l13 ?q13 ?k13 ?a14 ?l14 ?q14 ?k14 ?aC4 ?pg4 ?hd4 ?po4 ?sa4 ?mk4 ?kc4 ?n0 ?n1 ?aC1 ?e1 ?kc1 ?sb1 ?ty1 ?hd1 ?g_MOST_GATES ?g_MOST_WORDS ?aC2 ?e2 ?kc2 ?sb2 ?ty2 ?hd2 ?aC3 ?e3 ?kc3 ?sb3 ?ty3 ?hd3 ?z_all ?z_bool ?z_dict ?z_int ?z_isinstance ?z_len ?z_list ?z_range ?z_str ?z_tuple
    (case aC4 => k_is)
    (case aC1 => k_is)
    (case aC2 => k_is)
    (case aC3 => k_is)
    (case a0 => k_is)
    (case l0 => k_is)
    (case q0 => k_is)
    (case k0 => k_is)
    (case a1 => k_is)
    (case l1 => k_is)
    (case q1 => k_is)
    (case k1 => k_is)
    (case a2 => k_is)
    (case l2 => k_is)
    (case q2 => k_is)
    (case k2 => k_is)
    (case a3 => k_is)
    (case l3 => k_is)
    (case q3 => k_is)
    (case k3 => k_is)
    (case a4 => k_is)
    (case i4 => k_is)
    (case l4 => k_is)
    (case q4 => k_is)
    (case k4 => k_is)
    (case a5 => k_is)
    (case i5 => k_is)
    (case l5 => k_is)
    (case q5 => k_is)
    (case k5 => k_is)
    (case a6 => k_is)
    (case i6 => k_is)
    (case l6 => k_is)
    (case q6 => k_is)
    (case k6 => k_is)
    (case a7 => k_is)
    (case i7 => k_is)
    (case l7 => k_is)
    (case q7 => k_is)
    (case k7 => k_is)
    (case a8 => k_is)
    (case i8 => k_is)
    (case l8 => k_is)
    (case q8 => k_is)
    (case k8 => k_is)
    (case a9 => k_is)
    (case l9 => k_is)
    (case q9 => k_is)
    (case k9 => k_is)
    (case a10 => k_is)
    (case l10 => k_is)
    (case q10 => k_is)
    (case k10 => k_is)
    (case a11 => k_is)
    (case l11 => k_is)
    (case q11 => k_is)
    (case k11 => k_is)
    (case a12 => k_is)
    (case l12 => k_is)
    (case q12 => k_is)
    (case k12 => k_is)
    (case a13 => k_is)
    (case l13 => k_is)
    (case q13 => k_is)
    (case k13 => k_is)
    (case a14 => k_is)
    (case l14 => k_is)
    (case q14 => k_is)
    (case k14 => k_is)
    (case pg4 => k_is)
    (case hd4 => k_is)
    (case po4 => k_is)
    (case sa4 => k_is)
    (case mk4 => k_is)
    (case kc4 => k_is)
    (case n0 => k_is)
    (case n1 => k_is)
    (case e1 => k_exc)
    (case kc1 => k_is)
    (case sb1 => k_is)
    (case ty1 => k_is)
    (case hd1 => k_is)
    (case g_MOST_GATES => k_is)
    (case g_MOST_WORDS => k_is)
    (case e2 => k_exc)
    (case kc2 => k_is)
    (case sb2 => k_is)
    (case ty2 => k_is)
    (case hd2 => k_is)
    (case e3 => k_exc)
    (case kc3 => k_is)
    (case sb3 => k_is)
    (case ty3 => k_is)
    (case hd3 => k_is)
    (case z_all => k_is)
    (case z_bool => k_is)
    (case z_dict => k_is)
    (case z_int => k_is)
    (case z_isinstance => k_is)
    (case z_len => k_is)
    (case z_list => k_is)
    (case z_range => k_is)
    (case z_str => k_is)
    (case z_tuple => k_is)

