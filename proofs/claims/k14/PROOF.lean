import PyProof.Rows.All
import Wide.All
import OpenK.AllK
import Wide.FinOn
import KE.SortData
import HandS.List
import HandS.Text
import HandS.ForExc
import HandS.Comp
import HandS.Dict
import HandS.Iter
import HandS.Deep
import HandS.Conv
import HandS.Strs
import HandS.SetFor
import HandS.SortInts
import HandS.TupLe
import HandS.StrMore
import HandS.IsInst
import KE.DataCmp
import HandS.More
import HandS.EndBits
import KE.KDictDisplayH
import PyProof.Rows.CountFlat
import HandS.ExcIs
import HandS.HotCalls
import HandS.WordsDict
import KE.KDictList
import HandS.Exc
import HandS.Codes
import KE.IntTextLaws
import PySem.Challenge.RW_tablefolk_k14_read_or_refused
set_option Elab.async false
set_option linter.all false
set_option maxRecDepth 100000
/-! The data layer: what the constructs of the program make, as plain functions on data. -/
namespace Tf
open PySem

abbrev D := PyData
inductive EC where
  | NoTable | NoFolk | NoElement | NoPart | NotLoose | TooLarge | NoNote
  deriving DecidableEq
def EC.nm : EC → Str
  | .NoTable => "NoTable" | .NoFolk => "NoFolk" | .NoElement => "NoElement" | .NoPart => "NoPart"
  | .NotLoose => "NotLoose" | .TooLarge => "TooLarge" | .NoNote => "NoNote"
/-- a value, an own exception, or nothing told -/
inductive Rs (α : Type) where
  | ok (a : α) | ex (c : EC) | no
def Rs.bind {α β : Type} : Rs α → (α → Rs β) → Rs β
  | .ok a, f => f a
  | .ex c, _ => .ex c
  | .no, _ => .no
/-- exceptions are not told -/
def Rs.nox {α : Type} : Rs α → Rs α
  | .ok a => .ok a
  | _ => .no
@[simp] theorem bind_ok {α β : Type} (a : α) (f : α → Rs β) : (Rs.ok a).bind f = f a := (rfl)
@[simp] theorem bind_ex {α β : Type} (c : EC) (f : α → Rs β) : (Rs.ex c).bind f = .ex c := (rfl)
@[simp] theorem bind_no {α β : Type} (f : α → Rs β) : (Rs.no : Rs α).bind f = .no := (rfl)

/-- the slots' data -/
abbrev En := List (Option D)
abbrev DE := En → Rs D
abbrev DG := D → En → Rs En
inductive Fl where
  | nx (e : En) | rt (d : D) | ex (c : EC) | no
abbrev DS := En → Fl

/-! ### expressions -/
def eV (i : Nat) : DE := fun e => match e[i]? with
  | some (some d) => .ok d
  | _ => .no
def eK (d : D) : DE := fun _ => .ok d
def e1 (f : D → Rs D) (a : DE) : DE := fun e => (a e).bind f
def e2 (f : D → D → Rs D) (a b : DE) : DE := fun e => (a e).bind fun x => (b e).bind fun y => f x y
def eAnd (a b : DE) : DE := fun e => (a e).bind fun x => match x with
  | .bool true => b e
  | .bool false => .ok (.bool false)
  | _ => .no
def eOr (a b : DE) : DE := fun e => (a e).bind fun x => match x with
  | .bool true => .ok (.bool true)
  | .bool false => b e
  | _ => .no
def oNot : D → Rs D
  | .bool b => .ok (.bool (!b))
  | _ => .no
/-- a op b op' c -/
def eCh (f g : D → D → Rs D) (a b c : DE) : DE := fun e => (a e).bind fun x => (b e).bind fun y => (f x y).bind fun k => match k with
  | .bool true => (c e).bind fun z => g y z
  | .bool false => .ok (.bool false)
  | _ => .no
def eL : List DE → En → Rs (List D)
  | [], _ => .ok []
  | a :: r, e => (a e).bind fun x => (eL r e).bind fun xs => .ok (x :: xs)
def eLst (es : List DE) : DE := fun e => (eL es e).bind fun xs => .ok (.list xs)
def eTup (es : List DE) : DE := fun e => (eL es e).bind fun xs => .ok (.tuple xs)
def eCall (g : List D → Rs D) (es : List DE) : DE := fun e => (eL es e).bind g
def wipeE (e : En) : List Nat → En
  | [] => e
  | v :: vs => (wipeE e vs).set v none
/-- what is walked -/
abbrev DI := En → Rs (List D)
def compL (own : List Nat) (g : DG) (t a : DE) (e : En) : List D → Rs (List D)
  | [] => .ok []
  | d :: r => (g d (wipeE e own)).bind fun e' => (t e').bind fun k => match k with
    | .bool true => (a e').bind fun y => (compL own g t a e r).bind fun ys => .ok (y :: ys)
    | .bool false => compL own g t a e r
    | _ => .no
def eComp (own : List Nat) (g : DG) (it : DI) (t a : DE) : DE := fun e => (it e).bind fun ds =>
  if ds.length ≤ 100000 then ((compL own g t a e ds).nox).bind fun ys => .ok (.list ys) else .no
def rng (lo : Int) (n : Nat) : List D := (List.range n).map fun i => .int (lo + (i : Nat))
def iR1 (a : DE) : DI := fun e => (a e).bind fun x => match x with
  | .int n => if -(2 ^ 62) ≤ n ∧ n < 2 ^ 62 then .ok (rng 0 n.toNat) else .no
  | _ => .no
def iR2 (a b : DE) : DI := fun e => (a e).bind fun x => (b e).bind fun y => match x, y with
  | .int i, .int j => if -(2 ^ 62) ≤ i ∧ i < 2 ^ 62 ∧ -(2 ^ 62) ≤ j ∧ j < 2 ^ 62 then .ok (rng i (j - i).toNat) else .no
  | _, _ => .no
def iL (a : DE) : DI := fun e => (a e).bind fun x => match x with
  | .list xs => .ok xs
  | _ => .no
def iT (a : DE) : DI := fun e => (a e).bind fun x => match x with
  | .tuple xs => .ok xs
  | _ => .no
def iS (a : DE) : DI := fun e => (a e).bind fun x => match x with
  | .str s => .ok (s.cps.toList.map fun c => .str ⟨#[c]⟩)
  | _ => .no
def enumD (xs : List D) : List D := xs.zipIdx.map fun p => .tuple [.int (p.2 : Nat), p.1]
def iE (a : DE) : DI := fun e => (a e).bind fun x => match x with
  | .list xs => .ok (enumD xs)
  | _ => .no
def gN (j : Nat) : DG := fun d e => .ok (e.set j (some d))
def setAll : List Nat → List D → En → Rs En
  | [], [], e => .ok e
  | j :: js, d :: ds, e => setAll js ds (e.set j (some d))
  | _, _, _ => .no
/-- a, b = a tuple -/
def gT (js : List Nat) : DG := fun d e => match d with
  | .tuple ds => setAll js ds e
  | _ => .no

/-! ### operations -/
def lim (n : Nat) : Bool := decide (n ≤ 100000)
def oAdd : D → D → Rs D
  | .int i, .int j => .ok (.int (i + j))
  | .str x, .str y => if lim (x.length + y.length) then .ok (.str (x ++ y)) else .no
  | .list x, .list y => if lim (x.length + y.length) then .ok (.list (x ++ y)) else .no
  | _, _ => .no
def oSub : D → D → Rs D
  | .int i, .int j => .ok (.int (i - j))
  | _, _ => .no
def small64 (i : Int) : Bool := decide (-(2 ^ 64) < i) && decide (i < 2 ^ 64)
def oMul : D → D → Rs D
  | .int i, .int j => if small64 i || small64 j then .ok (.int (i * j)) else .no
  | _, _ => .no
def oDiv : D → D → Rs D
  | .int i, .int j => if decide (0 < j) && decide (j < 1073741824) then .ok (.int (i / j)) else .no
  | _, _ => .no
def oMod : D → D → Rs D
  | .int i, .int j => if decide (0 < j) then .ok (.int (i % j)) else .no
  | _, _ => .no
def oPow : D → D → Rs D
  | .int i, .int j => if decide (0 ≤ j) && decide (j ≤ 1000000) && decide (i.natAbs < 2 ^ 64) then .ok (.int (i ^ j.toNat)) else .no
  | _, _ => .no
def oNeg : D → Rs D
  | .int i => .ok (.int (-i))
  | _ => .no
def oLt : D → D → Rs D
  | .int i, .int j => .ok (.bool (decide (i < j)))
  | _, _ => .no
def oLe : D → D → Rs D
  | .int i, .int j => .ok (.bool (decide (i ≤ j)))
  | _, _ => .no
def oGt : D → D → Rs D
  | .int i, .int j => .ok (.bool (decide (j < i)))
  | _, _ => .no
def oGe : D → D → Rs D
  | .int i, .int j => .ok (.bool (decide (j ≤ i)))
  | _, _ => .no
def shp (d : D) : Bool := SeqAt.shaped d
def oEq (x y : D) : Rs D := if shp x && shp y then .ok (.bool (PyData.eqv x y)) else .no
def oNe (x y : D) : Rs D := if shp x && shp y then .ok (.bool (!PyData.eqv x y)) else .no
def oIn : D → D → Rs D
  | x, .list ys => if shp x && shp (.list ys) then .ok (.bool (ys.any fun z => PyData.eqv z x)) else .no
  | _, _ => .no
def oNi : D → D → Rs D
  | x, .list ys => if shp x && shp (.list ys) then .ok (.bool (!ys.any fun z => PyData.eqv z x)) else .no
  | _, _ => .no
def oNiS : D → D → Rs D
  | .str x, .str y => match x.cps.toList with
    | [c] => .ok (.bool (!decide (c ∈ y.cps.toList)))
    | _ => .no
  | _, _ => .no
def isNone : D → Bool
  | .none => true
  | _ => false
def oIsN (x y : D) : Rs D := if isNone y then .ok (.bool (isNone x)) else .no
def oNoN (x y : D) : Rs D := if isNone y then .ok (.bool (!isNone x)) else .no
/-- an item of a list, a tuple, a text -/
def oIx : D → D → Rs D
  | .list xs, .int i => match L2.atI xs i with
    | some d => .ok d
    | none => .no
  | .tuple xs, .int i => match L2.atI xs i with
    | some d => .ok d
    | none => .no
  | .str x, .int i => if lim x.length then match L2.atI x.cps.toList i with
    | some c => .ok (.str ⟨#[c]⟩)
    | none => .no else .no
  | _, _ => .no
def oLen : D → Rs D
  | .list xs => .ok (.int xs.length)
  | .tuple xs => .ok (.int xs.length)
  | .str x => if lim x.length then .ok (.int x.length) else .no
  | _ => .no
def oList : D → Rs D
  | .list xs => .ok (.list xs)
  | .tuple xs => .ok (.list xs)
  | _ => .no
def oTuple : D → Rs D
  | .list xs => .ok (.tuple xs)
  | _ => .no
/-- list(range(n)) -/
def oLrg : D → Rs D
  | .int n => if decide (0 ≤ n) && decide (n ≤ 100000) then .ok (.list (rng 0 n.toNat)) else .no
  | _ => .no
def allAlike (ds : List D) : Bool := ds.all fun x => ds.all fun y => W.alike x y
def tupCons : D → Bool
  | .tuple (_ :: _) => true
  | _ => false
def notNT : D → Bool
  | .none => false
  | .tuple _ => false
  | _ => true
def oSorted : D → Rs D
  | .list ds => if allAlike ds && (ds.all tupCons || ds.all notNT) && lim ds.length && (ds.all fun d => decide (d.depth ≤ 60)) then
      .ok (.list (ds.mergeSort (W.dataLe false id))) else .no
  | _ => .no
def asInts : List D → Option (List Int)
  | [] => some []
  | .int i :: r => (asInts r).map (i :: ·)
  | _ :: _ => none
def insI (k : Int) : List Int → List Int
  | [] => [k]
  | x :: r => if k < x then k :: x :: r else if k = x then x :: r else x :: insI k r
def sset (l : List Int) : List Int := l.foldr insI []
/-- sorted(set(a list of whole numbers)) -/
def oSSet : D → Rs D
  | .list ds => match asInts ds with
    | some ns => if decide (ns.length ≤ 1000) && decide ((sset ns).length < 64) then .ok (.list ((sset ns).map .int)) else .no
    | none => .no
  | _ => .no
def oMin : D → Rs D
  | .list ds => match asInts ds with
    | some (n :: ns) => .ok (.int (ns.foldl min n))
    | _ => .no
  | _ => .no
def oMax : D → Rs D
  | .list ds => match asInts ds with
    | some (n :: ns) => .ok (.int (ns.foldl max n))
    | _ => .no
  | _ => .no
def oMax2 : D → D → Rs D
  | .int m, .int n => .ok (.int (if n > m then n else m))
  | _, _ => .no
def asBools : List D → Option (List Bool)
  | [] => some []
  | .bool i :: r => (asBools r).map (i :: ·)
  | _ :: _ => none
def oAll : D → Rs D
  | .list ds => match asBools ds with
    | some bs => .ok (.bool (bs.all id))
    | none => .no
  | _ => .no
def isInt : D → Rs D
  | .int _ => .ok (.bool true)
  | .bool _ => .ok (.bool true)
  | .list _ => .ok (.bool false)
  | .str _ => .ok (.bool false)
  | .tuple _ => .ok (.bool false)
  | .none => .ok (.bool false)
  | _ => .no
def isBool : D → Rs D
  | .int _ => .ok (.bool false)
  | .bool _ => .ok (.bool true)
  | .list _ => .ok (.bool false)
  | .str _ => .ok (.bool false)
  | .tuple _ => .ok (.bool false)
  | .none => .ok (.bool false)
  | _ => .no
def isList : D → Rs D
  | .int _ => .ok (.bool false)
  | .bool _ => .ok (.bool false)
  | .list _ => .ok (.bool true)
  | .str _ => .ok (.bool false)
  | .tuple _ => .ok (.bool false)
  | .none => .ok (.bool false)
  | _ => .no
def isStr : D → Rs D
  | .int _ => .ok (.bool false)
  | .bool _ => .ok (.bool false)
  | .list _ => .ok (.bool false)
  | .str _ => .ok (.bool true)
  | .tuple _ => .ok (.bool false)
  | .none => .ok (.bool false)
  | _ => .no
def isTup : D → Rs D
  | .int _ => .ok (.bool false)
  | .bool _ => .ok (.bool false)
  | .list _ => .ok (.bool false)
  | .str _ => .ok (.bool false)
  | .tuple _ => .ok (.bool true)
  | .none => .ok (.bool false)
  | _ => .no

/-! ### statements -/
def sSkip : DS := fun e => .nx e
def sSeq (a b : DS) : DS := fun e => match a e with
  | .nx e' => b e'
  | r => r
def Rs.fl {α : Type} (r : Rs α) (k : α → Fl) : Fl := match r with
  | .ok a => k a
  | .ex c => .ex c
  | .no => .no
def sAsg (g : DG) (a : DE) : DS := fun e => (a e).fl fun d => (g d e).fl .nx
def sIf (t : DE) (a b : DS) : DS := fun e => (t e).fl fun k => match k with
  | .bool true => a e
  | .bool false => b e
  | _ => .no
def sRet (a : DE) : DS := fun e => (a e).fl .rt
def sRaise (c : EC) : DS := fun _ => .ex c
def sDrop (a : DE) : DS := fun e => (a e).fl fun _ => .nx e
def forL (g : DG) (b : DS) : List D → En → Fl
  | [], e => .nx e
  | d :: r, e => (g d e).fl fun e' => match b e' with
    | .nx e2 => forL g b r e2
    | o => o
def sFor (g : DG) (it : DI) (b : DS) : DS := fun e => (it e).fl fun ds => forL g b ds e
def whileL (t : DE) (b : DS) : Nat → En → Fl
  | 0, _ => .no
  | n + 1, e => (t e).fl fun k => match k with
    | .bool true => match b e with
      | .nx e2 => whileL t b n e2
      | o => o
    | .bool false => .nx e
    | _ => .no
def sWhile (n : Nat) (t : DE) (b : DS) : DS := whileL t b n
/-- a change of the list in slot j -/
def sMut (j : Nat) (f : List D → D → Rs (List D)) (a : DE) : DS := fun e => (a e).fl fun d => match e[j]? with
  | some (some (.list xs)) => (f xs d).fl fun ys => .nx (e.set j (some (.list ys)))
  | _ => .no
def mApp (xs : List D) (d : D) : Rs (List D) := if lim xs.length then .ok (xs ++ [d]) else .no
def mExt (xs : List D) : D → Rs (List D)
  | .list ys => if lim (xs.length + ys.length) then .ok (xs ++ ys) else .no
  | _ => .no
def sMutB (j : Nat) (f : List D → D → D → Rs (List D)) (a b : DE) : DS := fun e => (a e).fl fun d => (b e).fl fun d' => match e[j]? with
  | some (some (.list xs)) => (f xs d d').fl fun ys => .nx (e.set j (some (.list ys)))
  | _ => .no

def mIns (xs : List D) (i d : D) : Rs (List D) := match i with
  | .int i => if lim xs.length && (decide (0 ≤ i) && decide (i < 2 ^ 62)) then .ok (xs.take i.toNat ++ [d] ++ xs.drop i.toNat) else .no
  | _ => .no
def oSetL (xs : List D) (k v : D) : Rs (List D) := match k with
  | .int i => match L2.ixN xs.length i with
    | some n => .ok (xs.set n v)
    | none => .no
  | _ => .no
/-- the row of a list of lists -/
def rowAt (rows : List D) (i : D) : Option (Nat × List D) := match i with
  | .int i => match L2.ixN rows.length i with
    | some n => match rows[n]? with
      | some (.list row) => some (n, row)
      | _ => none
    | none => none
  | _ => none
/-! ### a def -/
def runB (n : Nat) (b : DS) (ds : List D) : Rs D := match b (ds.map some ++ List.replicate (n - ds.length) none) with
  | .nx _ => .ok .none
  | .rt d => .ok d
  | .ex c => .ex c
  | .no => .no
/-- the same, where the body always returns -/
def runN (n : Nat) (b : DS) (ds : List D) : Rs D := match b (ds.map some ++ List.replicate (n - ds.length) none) with
  | .rt d => .ok d
  | .ex c => .ex c
  | _ => .no
end Tf
namespace Tf
open PySem PySem.Spec PyProof.Rows L2

/-! ### data and the abstract heap -/
def dkK (ns : List (Int × Int)) : List (Key × V) := ns.map fun p => (Sum.inl p.1, V.int p.2)
def dkD (ns : List (Int × Int)) : List (D × D) := ns.map fun p => (.int p.1, .int p.2)
/-- a dict whose keys are tuples of whole numbers, all its values True -/
def dtK (ks : List (List Int)) : List (List Key × V) := ks.map fun k => (k.map Sum.inl, V.bl true)
def dtD (ks : List (List Int)) : List (D × D) := (.none, .none) :: ks.map fun k => (.tuple (k.map .int), .bool true)
/-- the datum of a thing of which nothing is told but where it stands (a caught exception) -/
def exD (a : Addr) : D := .dict [(.int (a : Nat), .none)]
/-- a dict, of one of the two kinds; or such a thing -/
def Dict (H : Hp) (v : V) (d : D) : Prop := (∃ p ns, v = .ref p ∧ d = .dict (dkD ns) ∧ H p = some (.dK (dkK ns))) ∨ (∃ p ks, v = .ref p ∧ d = .dict (dtD ks) ∧ H p = some (.dT (dtK ks))) ∨ ∃ p : Addr, v = .ref p ∧ d = exD p
theorem Dict.is {H : Hp} {v : V} {d : D} (h : Dict H v d) : ∃ p l, v = .ref p ∧ d = .dict l := by
  rcases h with ⟨p, ns, a, b, _⟩ | ⟨p, ks, a, b, _⟩ | ⟨p, a, b⟩
  · exact ⟨p, _, a, b⟩
  · exact ⟨p, _, a, b⟩
  · exact ⟨p, _, a, b⟩
theorem Dict.mono {H H' : Hp} {v : V} {d : D} (e : Same H H') (h : Dict H v d) : Dict H' v d := by
  rcases h with ⟨p, ns, a, b, c⟩ | ⟨p, ks, a, b, c⟩ | ⟨p, a, b⟩
  · exact .inl ⟨p, ns, a, b, e _ _ c⟩
  · exact .inr (.inl ⟨p, ks, a, b, e _ _ c⟩)
  · exact .inr (.inr ⟨p, a, b⟩)
def Dt (K : PySem.W.Frag) (H : Hp) (v : V) (d : D) : Prop := Dp K H v d ∨ Dict H v d
theorem rd_mono {H H' : Hp} {a : Addr} {u : HO} (e : Same H H') (h : Rd H a u) : Rd H' a u := by
  rcases h with h | ⟨o, h⟩
  · exact .inl (e _ _ h)
  · exact .inr ⟨o, e _ _ h⟩
theorem sql_mono {K : PySem.W.Frag} {H H' : Hp} {a : Addr} {xs : List V} (e : Same H H') (h : SqL K H a xs) : SqL K H' a xs := e.seq h
theorem sqt_mono {K : PySem.W.Frag} {H H' : Hp} {a : Addr} {xs : List V} (e : Same H H') (h : SqT K H a xs) : SqT K H' a xs := by
  rcases h with h | h
  · exact .inl (rd_mono e h)
  · exact .inr h
mutual
theorem dp_mono {K : PySem.W.Frag} {H H' : Hp} (e : Same H H') : ∀ {v : V} {d : D}, Dp K H v d → Dp K H' v d
  | _, _, .non => .non
  | _, _, .bl b => .bl b
  | _, _, .int i => .int i
  | _, _, .str x => .str x
  | _, _, .lst h a => .lst (sql_mono e h) (dpa_mono e a)
  | _, _, .tup h a => .tup (sqt_mono e h) (dpa_mono e a)
theorem dpa_mono {K : PySem.W.Frag} {H H' : Hp} (e : Same H H') : ∀ {vs : List V} {ds : List D}, DpAll K H vs ds → DpAll K H' vs ds
  | _, _, .nil => .nil
  | _, _, .cons h r => .cons (dp_mono e h) (dpa_mono e r)
end
theorem dt_mono {K : PySem.W.Frag} {H H' : Hp} {v : V} {d : D} (e : Same H H') (h : Dt K H v d) : Dt K H' v d := by
  rcases h with h | h
  · exact .inl (dp_mono e h)
  · exact .inr (h.mono e)
theorem dpa_len {K : PySem.W.Frag} {H : Hp} : ∀ {vs : List V} {ds : List D}, DpAll K H vs ds → vs.length = ds.length
  | _, _, .nil => rfl
  | _, _, .cons _ r => by rw [List.length_cons, List.length_cons, dpa_len r]
theorem dpa_app {K : PySem.W.Frag} {H : Hp} : ∀ {vs ws : List V} {ds es : List D}, DpAll K H vs ds → DpAll K H ws es → DpAll K H (vs ++ ws) (ds ++ es)
  | _, _, _, _, .nil, s => s
  | _, _, _, _, .cons h r, s => .cons h (dpa_app r s)
theorem dpa_one {K : PySem.W.Frag} {H : Hp} {v : V} {d : D} (h : Dp K H v d) : DpAll K H [v] [d] := .cons h .nil
theorem dpa_get {K : PySem.W.Frag} {H : Hp} : ∀ {vs : List V} {ds : List D} {i : Nat} {d : D}, DpAll K H vs ds → ds[i]? = some d → ∃ v, vs[i]? = some v ∧ Dp K H v d
  | _, _, _, _, .nil, h => by simp at h
  | _, _, 0, _, .cons h r, e => ⟨_, rfl, by
      have q := Option.some.inj e
      rw [← q]; exact h⟩
  | _, _, i + 1, d, .cons h r, e => by
      obtain ⟨v, a, b⟩ := dpa_get (i := i) (d := d) r (by simpa using e)
      exact ⟨v, by simpa using a, b⟩
theorem dpa_getV {K : PySem.W.Frag} {H : Hp} : ∀ {vs : List V} {ds : List D} {i : Nat} {v : V}, DpAll K H vs ds → vs[i]? = some v → ∃ d, ds[i]? = some d ∧ Dp K H v d
  | _, _, _, _, .nil, h => by simp at h
  | _, _, 0, _, .cons h r, e => ⟨_, rfl, by
      have q := Option.some.inj e
      rw [← q]; exact h⟩
  | _, _, i + 1, v, .cons h r, e => by
      obtain ⟨d, a, b⟩ := dpa_getV (i := i) (v := v) r (by simpa using e)
      exact ⟨d, by simpa using a, b⟩
theorem dpa_take {K : PySem.W.Frag} {H : Hp} : ∀ {vs : List V} {ds : List D} (n : Nat), DpAll K H vs ds → DpAll K H (vs.take n) (ds.take n)
  | _, _, 0, _ => by simp only [List.take_zero]; exact .nil
  | _, _, _ + 1, .nil => .nil
  | _, _, n + 1, .cons h r => .cons h (dpa_take n r)
theorem dpa_drop {K : PySem.W.Frag} {H : Hp} : ∀ {vs : List V} {ds : List D} (n : Nat), DpAll K H vs ds → DpAll K H (vs.drop n) (ds.drop n)
  | _, _, 0, r => r
  | _, _, _ + 1, .nil => .nil
  | _, _, n + 1, .cons _ r => dpa_drop n r
theorem dpa_set {K : PySem.W.Frag} {H : Hp} {v : V} {d : D} (h : Dp K H v d) : ∀ {vs : List V} {ds : List D} (n : Nat), DpAll K H vs ds → DpAll K H (vs.set n v) (ds.set n d)
  | _, _, _, .nil => .nil
  | _, _, 0, .cons _ r => .cons h r
  | _, _, n + 1, .cons q r => .cons q (dpa_set h n r)
theorem dpa_map_int {K : PySem.W.Frag} {H : Hp} : ∀ (ns : List Int), DpAll K H (ns.map V.int) (ns.map .int)
  | [] => .nil
  | n :: r => .cons (.int n) (dpa_map_int r)
theorem dpa_ints {K : PySem.W.Frag} {H : Hp} : ∀ {ds : List D} {vs : List V} {ns : List Int}, asInts ds = some ns → DpAll K H vs ds → vs = ns.map V.int ∧ ds = ns.map .int
  | [], _, ns, e, .nil => by
      have q := Option.some.inj e
      subst q
      exact ⟨rfl, rfl⟩
  | .int i :: r, _, ns, e, .cons h t => by
      have e' : (asInts r).map (i :: ·) = some ns := e
      cases q : asInts r with
      | none => rw [q] at e'; cases e'
      | some ms =>
        rw [q] at e'
        have z := Option.some.inj e'
        subst z
        obtain ⟨a, b⟩ := dpa_ints q t
        cases h
        exact ⟨by rw [a]; rfl, by rw [b]; rfl⟩
  | .none :: _, _, _, e, _ => nomatch e
  | .bool _ :: _, _, _, e, _ => nomatch e
  | .str _ :: _, _, _, e, _ => nomatch e
  | .list _ :: _, _, _, e, _ => nomatch e
  | .tuple _ :: _, _, _, e, _ => nomatch e
  | .dict _ :: _, _, _, e, _ => nomatch e
/-- no heap is asked -/
def flat : D → Bool
  | .none => true
  | .bool _ => true
  | .int _ => true
  | .str _ => true
  | _ => false
theorem dp_flat {K K' : PySem.W.Frag} {H H' : Hp} {v : V} {d : D} (f : flat d = true) (h : Dp K H v d) : Dp K' H' v d := by
  cases h with
  | non => exact .non
  | bl b => exact .bl b
  | int i => exact .int i
  | str x => exact .str x
  | lst _ _ => exact nomatch f
  | tup _ _ => exact nomatch f
theorem dpa_flat {K K' : PySem.W.Frag} {H H' : Hp} : ∀ {vs : List V} {ds : List D}, ds.all flat = true → DpAll K H vs ds → DpAll K' H' vs ds
  | _, _, _, .nil => .nil
  | _, _, f, .cons h r => by
      rw [List.all_cons, Bool.and_eq_true] at f
      exact .cons (dp_flat f.1 h) (dpa_flat f.2 r)
/-- what is no dict -/
def nd : D → Bool
  | .dict _ => false
  | _ => true
theorem Dt.dp {K : PySem.W.Frag} {H : Hp} {v : V} {d : D} (h : Dt K H v d) (n : nd d = true) : Dp K H v d := by
  rcases h with h | h
  · exact h
  · obtain ⟨_, _, _, b⟩ := h.is
    subst b
    exact nomatch n
theorem Dt.flat {K K' : PySem.W.Frag} {H H' : Hp} {v : V} {d : D} (h : Dt K H v d) (f : flat d = true) : Dt K' H' v d := by
  rcases h with h | h
  · exact .inl (dp_flat f h)
  · obtain ⟨_, _, _, b⟩ := h.is
    subst b
    exact nomatch f
theorem dt_int {K : PySem.W.Frag} {H : Hp} {v : V} {i : Int} (h : Dt K H v (.int i)) : v = .int i := by
  cases h.dp rfl
  rfl
theorem dt_bl {K : PySem.W.Frag} {H : Hp} {v : V} {b : Bool} (h : Dt K H v (.bool b)) : v = .bl b := by
  cases h.dp rfl
  rfl
theorem dt_str {K : PySem.W.Frag} {H : Hp} {v : V} {s : Str} (h : Dt K H v (.str s)) : v = .str s := by
  cases h.dp rfl
  rfl
theorem dt_none {K : PySem.W.Frag} {H : Hp} {v : V} (h : Dt K H v .none) : v = .non := by
  cases h.dp rfl
  rfl
theorem dt_list {K : PySem.W.Frag} {H : Hp} {v : V} {ds : List D} (h : Dt K H v (.list ds)) : ∃ a xs, v = .ref a ∧ SqL K H a xs ∧ DpAll K H xs ds := by
  cases h.dp rfl with
  | lst a b => exact ⟨_, _, rfl, a, b⟩
theorem dt_tup {K : PySem.W.Frag} {H : Hp} {v : V} {ds : List D} (h : Dt K H v (.tuple ds)) : ∃ a xs, v = .ref a ∧ SqT K H a xs ∧ DpAll K H xs ds := by
  cases h.dp rfl with
  | tup a b => exact ⟨_, _, rfl, a, b⟩
theorem dt_of_flat {K : PySem.W.Frag} {H : Hp} {v : V} {d : D} (h : Dp K H v d) : Dt K H v d := .inl h
inductive DtAll (K : PySem.W.Frag) (H : Hp) : List V → List D → Prop
  | nil : DtAll K H [] []
  | cons {v : V} {d : D} {vs : List V} {ds : List D} : Dt K H v d → DtAll K H vs ds → DtAll K H (v :: vs) (d :: ds)
theorem dta_len {K : PySem.W.Frag} {H : Hp} : ∀ {vs : List V} {ds : List D}, DtAll K H vs ds → vs.length = ds.length
  | _, _, .nil => rfl
  | _, _, .cons _ r => by rw [List.length_cons, List.length_cons, dta_len r]
theorem dta_get {K : PySem.W.Frag} {H : Hp} : ∀ {vs : List V} {ds : List D} {i : Nat} {d : D}, DtAll K H vs ds → ds[i]? = some d → ∃ v, vs[i]? = some v ∧ Dt K H v d
  | _, _, _, _, .nil, h => by simp at h
  | _, _, 0, _, .cons h r, e => ⟨_, rfl, by
      have q := Option.some.inj e
      rw [← q]; exact h⟩
  | _, _, i + 1, d, .cons h r, e => by
      obtain ⟨v, a, b⟩ := dta_get (i := i) (d := d) r (by simpa using e)
      exact ⟨v, by simpa using a, b⟩
theorem dta_dpa {K : PySem.W.Frag} {H : Hp} : ∀ {vs : List V} {ds : List D}, DtAll K H vs ds → ds.all nd = true → DpAll K H vs ds
  | _, _, .nil, _ => .nil
  | _, _, .cons h r, f => by
      rw [List.all_cons, Bool.and_eq_true] at f
      exact .cons (h.dp f.1) (dta_dpa r f.2)
theorem dta_mono {K : PySem.W.Frag} {H H' : Hp} (e : Same H H') : ∀ {vs : List V} {ds : List D}, DtAll K H vs ds → DtAll K H' vs ds
  | _, _, .nil => .nil
  | _, _, .cons h r => .cons (dt_mono e h) (dta_mono e r)

/-! ### who owns what -/
/-- how a result or a slot is held: not at all; borrowed (as the heap stands); frozen; frozen and made here; a list that the def alone holds; a list of such lists; a dict that the def alone holds; what a call has made, all of it the def's own (maybe one thing twice) -/
inductive RM where
  | un | B | any | new | o1 | o2 | dk | ow | dt
  deriving DecidableEq
/-- no known object -/
def pln : HO → Bool
  | .frz _ _ => false
  | _ => true
/-- of F, what the def has made -/
def nw (H0 F : Hp) : Hp := fun a => if (H0 a).isSome = true then none else match F a with
  | some o => if pln o = true then some o else none
  | none => none
theorem nw_le {H0 F : Hp} : Same (nw H0 F) F := fun a o e => by
  unfold nw at e
  split at e
  · cases e
  · split at e
    · rename_i q
      split at e
      · rw [q]; exact e
      · cases e
    · cases e
theorem nw_pl {H0 F : Hp} {a : Addr} {o : HO} (e : nw H0 F a = some o) : pln o = true := by
  unfold nw at e
  split at e
  · cases e
  · split at e
    · split at e
      · rename_i h
        cases e
        exact h
      · cases e
    · cases e
theorem nw_old {H0 F : Hp} {a : Addr} {o : HO} (e : nw H0 F a = some o) : H0 a = none := by
  unfold nw at e
  split at e
  · cases e
  · rename_i h
    cases q : H0 a with
    | none => rfl
    | some x => rw [q] at h; simp at h
theorem nw_at {H0 F : Hp} {a : Addr} {o : HO} (h : H0 a = none) (e : F a = some o) (p : pln o = true := by rfl) : nw H0 F a = some o := by
  unfold nw
  rw [if_neg (by rw [h]; simp), e]
  exact if_pos p
theorem nw_mono {H0 F F' : Hp} (h : Same F F') : Same (nw H0 F) (nw H0 F') := fun a o e => nw_at (nw_old e) (h _ _ (nw_le _ _ e)) (nw_pl e)
/-- nothing known -/
abbrev N0 : PySem.W.Frag := []
theorem sql_k {K : PySem.W.Frag} {H : Hp} {a : Addr} {xs : List V} (h : SqL N0 H a xs) : SqL K H a xs := by
  rcases h with h | ⟨_, _, _, h, _⟩
  · exact .inl h
  · cases h
theorem sqt_k {K : PySem.W.Frag} {H : Hp} {a : Addr} {xs : List V} (h : SqT N0 H a xs) : SqT K H a xs := by
  rcases h with h | ⟨_, _, _, h, _⟩
  · exact .inl h
  · cases h
mutual
theorem dp_k {K : PySem.W.Frag} {H : Hp} : ∀ {v : V} {d : D}, Dp N0 H v d → Dp K H v d
  | _, _, .non => .non
  | _, _, .bl b => .bl b
  | _, _, .int i => .int i
  | _, _, .str x => .str x
  | _, _, .lst h a => .lst (sql_k h) (dpa_k a)
  | _, _, .tup h a => .tup (sqt_k h) (dpa_k a)
theorem dpa_k {K : PySem.W.Frag} {H : Hp} : ∀ {vs : List V} {ds : List D}, DpAll N0 H vs ds → DpAll K H vs ds
  | _, _, .nil => .nil
  | _, _, .cons h r => .cons (dp_k h) (dpa_k r)
end
/-- the fragment that a mode may read -/
def fr (K : PySem.W.Frag) : RM → PySem.W.Frag
  | .B => K
  | .any => K
  | _ => N0
theorem dp_fr {K : PySem.W.Frag} {H : Hp} {m : RM} {v : V} {d : D} (h : Dp (fr K m) H v d) : Dp K H v d := by
  cases m <;> first | exact h | exact dp_k h
theorem sql_fr {K : PySem.W.Frag} {H : Hp} {m : RM} {a : Addr} {xs : List V} (h : SqL (fr K m) H a xs) : SqL K H a xs := by
  cases m <;> first | exact h | exact sql_k h
theorem sqt_fr {K : PySem.W.Frag} {H : Hp} {m : RM} {a : Addr} {xs : List V} (h : SqT (fr K m) H a xs) : SqT K H a xs := by
  cases m <;> first | exact h | exact sqt_k h
theorem dpa_fr {K : PySem.W.Frag} {H : Hp} {m : RM} {vs : List V} {ds : List D} (h : DpAll (fr K m) H vs ds) : DpAll K H vs ds := by
  cases m <;> first | exact h | exact dpa_k h
/-- H at some places -/
def rs (H : Hp) (A : List Addr) : Hp := fun a => if a ∈ A then H a else none
theorem rs_le {H : Hp} {A : List Addr} : Same (rs H A) H := fun a o e => by
  unfold rs at e
  split at e
  · exact e
  · cases e
theorem rs_mono {H H' : Hp} {A : List Addr} (h : Same H H') : Same (rs H A) (rs H' A) := fun a o e => by
  unfold rs at e ⊢
  split at e
  · rename_i z
    rw [if_pos z]
    exact h _ _ e
  · cases e
def RowsOk (K : PySem.W.Frag) (G H : Hp) : List Addr → List (List D) → Prop
  | [], [] => True
  | q :: qs, ds :: dss => (∃ xs, H q = some (.lst xs) ∧ DpAll K G xs ds) ∧ RowsOk K G H qs dss
  | _, _ => False
def ResOk (K : PySem.W.Frag) (H0 F H : Hp) : RM → V → D → List Addr → Prop
  | .un, _, _, _ => False
  | .B, v, d, A => Dt K H v d ∧ A = []
  | .any, v, d, A => Dt K F v d ∧ A = []
  | .new, v, d, A => Dp N0 (nw H0 F) v d ∧ A = []
  | .o1, v, d, A => ∃ p xs ds, v = .ref p ∧ d = .list ds ∧ H p = some (.lst xs) ∧ DpAll N0 (nw H0 F) xs ds ∧ F p = none ∧ A = [p]
  | .o2, v, d, A => ∃ p qs dss, v = .ref p ∧ d = .list (dss.map .list) ∧ H p = some (.lst (qs.map .ref)) ∧ RowsOk N0 (nw H0 F) H qs dss ∧ A = p :: qs ∧ A.Nodup ∧ ∀ a ∈ A, F a = none
  | .dk, v, d, A => (∃ p ns, v = .ref p ∧ d = .dict (dkD ns) ∧ H p = some (.dK (dkK ns)) ∧ F p = none ∧ A = [p]) ∨ (v = .non ∧ d = .none ∧ A = [])
  | .dt, v, d, A => ∃ p ks, v = .ref p ∧ d = .dict (dtD ks) ∧ H p = some (.dT (dtK ks)) ∧ F p = none ∧ A = [p]
  | .ow, v, d, A => Dp N0 (rs H A) v d ∧ ∀ a ∈ A, (∃ o, H a = some o ∧ pln o = true) ∧ F a = none
structure Ext (F H F' H' : Hp) : Prop where
  ff : Same F F'
  hh : Same H H'
  fh : Same F' H'
  fr : ∀ a o, F' a = some o → F a = some o ∨ H a = none
theorem Ext.refl {F H : Hp} (h : Same F H) : Ext F H F H := ⟨Same.refl _, Same.refl _, h, fun _ _ e => .inl e⟩
theorem Ext.trans {F H F1 H1 F2 H2 : Hp} (a : Ext F H F1 H1) (b : Ext F1 H1 F2 H2) : Ext F H F2 H2 :=
  ⟨a.ff.trans b.ff, a.hh.trans b.hh, b.fh, fun x o e => by
    rcases b.fr x o e with h | h
    · exact a.fr x o h
    · exact .inr (a.hh.free h)⟩
theorem Ext.free {F H F' H' : Hp} (e : Ext F H F' H') {a : Addr} (h : F a = none) (n : H a ≠ none) : F' a = none := by
  cases q : F' a with
  | none => rfl
  | some o =>
    rcases e.fr a o q with z | z
    · rw [h] at z; cases z
    · exact absurd z n
/-- more heap, nothing frozen -/
theorem Ext.heap {F H H' : Hp} (f : Same F H) (h : Same H H') : Ext F H F H' := ⟨Same.refl _, h, f.trans h, fun _ _ e => .inl e⟩
theorem same_upd {H : Hp} {p : Addr} {o : HO} (h : H p = none) : Same H (upd H p o) := fun b x e => by
  rw [upd_ne (ne_of_none e h)]
  exact e
/-- a new object, frozen -/
theorem Ext.new {F H : Hp} {p : Addr} {o : HO} (f : Same F H) (h : H p = none) : Ext F H (upd F p o) (upd H p o) := by
  have fp : F p = none := f.free h
  refine ⟨same_upd fp, same_upd h, fun b x e => ?_, fun b x e => ?_⟩
  · by_cases hb : b = p
    · subst hb
      rw [upd_same] at e ⊢
      exact e
    · rw [upd_ne hb] at e ⊢
      exact f _ _ e
  · by_cases hb : b = p
    · subst hb
      exact .inr h
    · rw [upd_ne hb] at e
      exact .inl e
theorem rows_mono {K : PySem.W.Frag} {G G' H H' : Hp} (g : Same G G') (h : Same H H') : ∀ {qs : List Addr} {dss : List (List D)}, RowsOk K G H qs dss → RowsOk K G' H' qs dss
  | [], [], _ => trivial
  | _ :: _, _ :: _, ⟨⟨xs, a, b⟩, r⟩ => ⟨⟨xs, h _ _ a, dpa_mono g b⟩, rows_mono g h r⟩
theorem rows_at {K : PySem.W.Frag} {G H : Hp} : ∀ {qs : List Addr} {dss : List (List D)}, RowsOk K G H qs dss → ∀ a ∈ qs, ∃ xs, H a = some (.lst xs)
  | [], [], _, a, h => absurd h (by simp)
  | _ :: _, _ :: _, ⟨⟨xs, e, _⟩, r⟩, a, h => by
    rcases List.mem_cons.mp h with z | z
    · subst z
      exact ⟨xs, e⟩
    · exact rows_at r a z
/-- the owned are there, and not frozen -/
theorem ResOk.own {K : PySem.W.Frag} {H0 F H : Hp} {m : RM} {v : V} {d : D} {A : List Addr} (h : ResOk K H0 F H m v d A) : ∀ a ∈ A, H a ≠ none ∧ F a = none := by
  intro a ha
  cases m with
  | un => exact h.elim
  | B => rw [h.2] at ha; cases ha
  | any => rw [h.2] at ha; cases ha
  | new => rw [h.2] at ha; cases ha
  | o1 =>
    obtain ⟨p, xs, ds, _, _, e, _, f, rfl⟩ := h
    have z : a = p := by simpa using ha
    subst z
    exact ⟨by rw [e]; simp, f⟩
  | o2 =>
    obtain ⟨p, qs, dss, _, _, e, r, rfl, n, f⟩ := h
    refine ⟨?_, f a ha⟩
    rcases List.mem_cons.mp ha with z | z
    · subst z
      rw [e]; simp
    · obtain ⟨xs, q⟩ := rows_at r a z
      rw [q]; simp
  | dk =>
    rcases h with ⟨p, ns, _, _, e, f, rfl⟩ | ⟨_, _, rfl⟩
    · have z : a = p := by simpa using ha
      subst z
      exact ⟨by rw [e]; simp, f⟩
    · cases ha
  | dt =>
    obtain ⟨p, ns, _, _, e, f, rfl⟩ := h
    have z : a = p := by simpa using ha
    subst z
    exact ⟨by rw [e]; simp, f⟩
  | ow =>
    obtain ⟨⟨o, e, _⟩, f⟩ := h.2 a ha
    exact ⟨by rw [e]; simp, f⟩
theorem ResOk.mono {K : PySem.W.Frag} {H0 F H F' H' : Hp} {m : RM} {v : V} {d : D} {A : List Addr} (e : Ext F H F' H') (h : ResOk K H0 F H m v d A) : ResOk K H0 F' H' m v d A := by
  have ow := h.own
  cases m with
  | un => exact h
  | B => exact ⟨dt_mono e.hh h.1, h.2⟩
  | any => exact ⟨dt_mono e.ff h.1, h.2⟩
  | new => exact ⟨dp_mono (nw_mono e.ff) h.1, h.2⟩
  | o1 =>
    obtain ⟨p, xs, ds, rfl, rfl, a, b, f, rfl⟩ := h
    exact ⟨p, xs, ds, rfl, rfl, e.hh _ _ a, dpa_mono (nw_mono e.ff) b, e.free f (by rw [a]; simp), rfl⟩
  | o2 =>
    obtain ⟨p, qs, dss, rfl, rfl, a, r, rfl, n, f⟩ := h
    exact ⟨p, qs, dss, rfl, rfl, e.hh _ _ a, rows_mono (nw_mono e.ff) e.hh r, rfl, n, fun x hx => e.free (f x hx) (ow x hx).1⟩
  | dk =>
    rcases h with ⟨p, ns, rfl, rfl, a, f, rfl⟩ | h
    · exact .inl ⟨p, ns, rfl, rfl, e.hh _ _ a, e.free f (by rw [a]; simp), rfl⟩
    · exact .inr h
  | dt =>
    obtain ⟨p, ns, rfl, rfl, a, f, rfl⟩ := h
    exact ⟨p, ns, rfl, rfl, e.hh _ _ a, e.free f (by rw [a]; simp), rfl⟩
  | ow =>
    refine ⟨dp_mono (rs_mono e.hh) h.1, fun a ha => ?_⟩
    obtain ⟨⟨o, e1, p⟩, f⟩ := h.2 a ha
    exact ⟨⟨o, e.hh _ _ e1, p⟩, e.free f (by rw [e1]; simp)⟩
theorem rows_dpa {K : PySem.W.Frag} {G H : Hp} (g : Same G H) : ∀ {qs : List Addr} {dss : List (List D)}, RowsOk K G H qs dss → DpAll K H (qs.map .ref) (dss.map .list)
  | [], [], _ => .nil
  | _ :: _, _ :: _, ⟨⟨xs, a, b⟩, r⟩ => .cons (.lst (SqL.of a) (dpa_mono g b)) (rows_dpa g r)
/-- as the heap stands -/
theorem ResOk.dt {K : PySem.W.Frag} {H0 F H : Hp} {m : RM} {v : V} {d : D} {A : List Addr} (fh : Same F H) (h : ResOk K H0 F H m v d A) : Dt K H v d := by
  cases m with
  | un => exact h.elim
  | B => exact h.1
  | any => exact dt_mono fh h.1
  | new => exact .inl (dp_k (dp_mono (nw_le.trans fh) h.1))
  | o1 =>
    obtain ⟨p, xs, ds, rfl, rfl, a, b, f, _⟩ := h
    exact .inl (.lst (SqL.of a) (dpa_k (dpa_mono (nw_le.trans fh) b)))
  | o2 =>
    obtain ⟨p, qs, dss, rfl, rfl, a, r, _, n, f⟩ := h
    exact .inl (.lst (SqL.of a) (dpa_k (rows_dpa (nw_le.trans fh) r)))
  | dk =>
    rcases h with ⟨p, ns, rfl, rfl, a, f, _⟩ | ⟨rfl, rfl, _⟩
    · exact .inr (.inl ⟨p, ns, rfl, rfl, a⟩)
    · exact .inl .non
  | dt =>
    obtain ⟨p, ns, rfl, rfl, a, f, _⟩ := h
    exact .inr (.inr (.inl ⟨p, ns, rfl, rfl, a⟩))
  | ow => exact .inl (dp_k (dp_mono rs_le h.1))
/-- owned lists may be frozen -/
def RM.le : RM → RM → Bool
  | .un, _ => true
  | .new, .any => true
  | .o1, .new => true
  | .o1, .any => true
  | .o2, .o1 => true
  | .o2, .new => true
  | .o2, .any => true
  | a, b => a == b
/-- H's objects at A, added to F -/
def addF (F H : Hp) (A : List Addr) : Hp := fun a => if a ∈ A then H a else F a
theorem addF_same {F H : Hp} {A : List Addr} (n : ∀ a ∈ A, F a = none) : Same F (addF F H A) := fun a o e => by
  unfold addF
  by_cases h : a ∈ A
  · rw [n a h] at e; cases e
  · rw [if_neg h]; exact e
theorem addF_le {F H : Hp} {A : List Addr} (f : Same F H) : Same (addF F H A) H := fun a o e => by
  unfold addF at e
  by_cases h : a ∈ A
  · rw [if_pos h] at e; exact e
  · rw [if_neg h] at e; exact f _ _ e
theorem addF_in {F H : Hp} {A : List Addr} {a : Addr} (h : a ∈ A) : addF F H A a = H a := by
  unfold addF
  rw [if_pos h]
theorem addF_out {F H : Hp} {A : List Addr} {a : Addr} (h : a ∉ A) : addF F H A a = F a := by
  unfold addF
  rw [if_neg h]
theorem Ext.add {F H F' H' : Hp} {A : List Addr} (e : Ext F H F' H') (n : ∀ a ∈ A, F' a = none) (q : ∀ a ∈ A, H a = none) : Ext F H (addF F' H' A) H' :=
  ⟨e.ff.trans (addF_same n), e.hh, addF_le e.fh, fun a o h => by
    by_cases z : a ∈ A
    · exact .inr (q a z)
    · rw [addF_out z] at h
      exact e.fr a o h⟩
/-- o1 frozen: the root goes to F -/
theorem freeze1 {K : PySem.W.Frag} {H0 F H : Hp} {v : V} {d : D} {A : List Addr} (h0 : ∀ a ∈ A, H0 a = none) (h : ResOk K H0 F H .o1 v d A) : Dp N0 (nw H0 (addF F H A)) v d := by
  have ow := h.own
  obtain ⟨p, xs, ds, rfl, rfl, a, b, f, rfl⟩ := h
  refine .lst (SqL.of (nw_at (h0 p (by simp)) ?_)) (dpa_mono (nw_mono (addF_same fun x hx => (ow x hx).2)) b)
  rw [addF_in (by simp)]
  exact a
theorem rows_frz {K : PySem.W.Frag} {H0 F H G : Hp} {A : List Addr} (g : Same (nw H0 F) G) (k : ∀ a ∈ A, ∀ o, H a = some (.lst o) → G a = some (.lst o)) : ∀ {qs : List Addr} {dss : List (List D)}, (∀ a ∈ qs, a ∈ A) → RowsOk K (nw H0 F) H qs dss → DpAll K G (qs.map .ref) (dss.map .list)
  | [], [], _, _ => .nil
  | q :: _, _ :: _, s, ⟨⟨xs, a, b⟩, r⟩ => .cons (.lst (SqL.of (k q (s q (by simp)) _ a)) (dpa_mono g b)) (rows_frz g k (fun x hx => s x (List.mem_cons_of_mem _ hx)) r)
theorem freeze2 {K : PySem.W.Frag} {H0 F H : Hp} {v : V} {d : D} {A : List Addr} (h0 : ∀ a ∈ A, H0 a = none) (h : ResOk K H0 F H .o2 v d A) : Dp N0 (nw H0 (addF F H A)) v d := by
  have ow := h.own
  obtain ⟨p, qs, dss, rfl, rfl, a, r, rfl, n, f⟩ := h
  have k : ∀ x ∈ p :: qs, ∀ o, H x = some (.lst o) → nw H0 (addF F H (p :: qs)) x = some (.lst o) := fun x hx o e => nw_at (h0 x hx) (by rw [addF_in hx]; exact e)
  exact .lst (SqL.of (k p (by simp) _ a)) (rows_frz (nw_mono (addF_same fun x hx => (ow x hx).2)) k (fun x hx => List.mem_cons_of_mem _ hx) r)
/-- o2 to o1: the rows go to F -/
theorem freeze21 {K : PySem.W.Frag} {H0 F H : Hp} {v : V} {d : D} {A : List Addr} (h0 : ∀ a ∈ A, H0 a = none) (h : ResOk K H0 F H .o2 v d A) : ∃ p qs, A = p :: qs ∧ ResOk K H0 (addF F H qs) H .o1 v d [p] := by
  have ow := h.own
  obtain ⟨p, qs, dss, rfl, rfl, a, r, rfl, n, f⟩ := h
  obtain ⟨n1, n2⟩ := List.nodup_cons.mp n
  have k : ∀ x ∈ qs, ∀ o, H x = some (.lst o) → nw H0 (addF F H qs) x = some (.lst o) := fun x hx o e => nw_at (h0 x (List.mem_cons_of_mem _ hx)) (by rw [addF_in hx]; exact e)
  refine ⟨p, qs, rfl, p, _, _, rfl, rfl, a, rows_frz (nw_mono (addF_same fun x hx => f x (List.mem_cons_of_mem _ hx))) k (fun x hx => hx) r, ?_, rfl⟩
  rw [addF_out n1]
  exact f p (by simp)

/-! ### results -/
def Got (K : PySem.W.Frag) (H0 F H : Hp) (m : RM) (d : D) (Q : VK) : Prop :=
  ∀ (F' : Hp) (v : V) (H' : Hp) (A : List Addr), Ext F H F' H' → ResOk K H0 F' H' m v d A → (∀ a ∈ A, H a = none) → Q v H'
theorem Got.mono {K : PySem.W.Frag} {H0 F H F1 H1 : Hp} {m : RM} {d : D} {Q : VK} (e : Ext F H F1 H1) (g : Got K H0 F H m d Q) : Got K H0 F1 H1 m d Q :=
  fun F' v H' A x r n => g F' v H' A (e.trans x) r fun a h => e.hh.free (n a h)
def Wish (mg : Str → Option Value) (E : XK) (H0 : Hp) (c : EC) : Prop := ∀ C, mg c.nm = some (.ref C) → ∀ H', Same H0 H' → E (.ref C) none H'
def Done (K : PySem.W.Frag) (mg : Str → Option Value) (E : XK) (H0 F H : Hp) (m : RM) (r : Rs D) (Q : VK) : Prop := match r with
  | .ok d => Got K H0 F H m d Q
  | .ex c => Wish mg E H0 c
  | .no => False
theorem Done.mono {K : PySem.W.Frag} {mg : Str → Option Value} {E : XK} {H0 F H F1 H1 : Hp} {m : RM} {r : Rs D} {Q : VK} (e : Ext F H F1 H1) (g : Done K mg E H0 F H m r Q) : Done K mg E H0 F1 H1 m r Q := by
  cases r with
  | ok d => exact Got.mono e g
  | ex c => exact g
  | no => exact g
def asSet (As : Nat → List Addr) (i : Nat) (A : List Addr) : Nat → List Addr := fun j => if i = j then A else As j
theorem asSet_eq {As : Nat → List Addr} {i : Nat} {A : List Addr} : asSet As i A i = A := if_pos rfl
theorem asSet_ne {As : Nat → List Addr} {i j : Nat} {A : List Addr} (h : i ≠ j) : asSet As i A j = As j := if_neg h
def kAt (ks : List RM) (i : Nat) : RM := ks.getD i .un
structure Rel (K : PySem.W.Frag) (H0 : Hp) (ks : List RM) (F : Hp) (σ : L2.St) (H : Hp) (env : En) : Prop where
  e0 : Same H0 F
  eF : Same F H
  len : σ.length = env.length
  kl : ks.length = env.length
  sl : ∃ As : Nat → List Addr, (∀ (i : Nat) (d : D), env[i]? = some (some d) → ∃ v, σ[i]? = some (some v) ∧ ResOk K H0 F H (kAt ks i) v d (As i)) ∧
    (∀ i j a, a ∈ As i → a ∈ As j → i = j) ∧ ∀ i, ∀ a ∈ As i, H a ≠ none ∧ F a = none
theorem Rel.ext {K : PySem.W.Frag} {H0 F F' H H' : Hp} {ks : List RM} {σ : L2.St} {env : En} (R : Rel K H0 ks F σ H env) (e : Ext F H F' H') : Rel K H0 ks F' σ H' env := by
  obtain ⟨As, h1, h2, h3⟩ := R.sl
  refine ⟨R.e0.trans e.ff, e.fh, R.len, R.kl, As, fun i d hd => ?_, h2, fun i a ha => ?_⟩
  · obtain ⟨v, a, b⟩ := h1 i d hd
    exact ⟨v, a, b.mono e⟩
  · obtain ⟨a1, a2⟩ := h3 i a ha
    refine ⟨fun z => a1 (e.hh.free z), e.free a2 a1⟩
theorem kAt_set {ks : List RM} {i j : Nat} {m : RM} (h : i < ks.length) : kAt (ks.set i m) j = if i = j then m else kAt ks j := by
  unfold kAt
  by_cases e : i = j
  · subst e
    rw [if_pos rfl, List.getD_eq_getElem?_getD, List.getElem?_set_self h]
    rfl
  · rw [if_neg e, List.getD_eq_getElem?_getD, List.getElem?_set_ne e, ← List.getD_eq_getElem?_getD]
/-- a slot is set, by what was reckoned from (F, H) on -/
theorem Rel.set {K : PySem.W.Frag} {H0 F F' H H' : Hp} {ks : List RM} {σ : L2.St} {env : En} {m : RM} {v : V} {d : D} {A : List Addr} {i : Nat} (R : Rel K H0 ks F σ H env) (e : Ext F H F' H') (r : ResOk K H0 F' H' m v d A) (n : ∀ a ∈ A, H a = none)
    (hi : i < ks.length) : Rel K H0 (ks.set i m) F' (σ.set i (some v)) H' (env.set i (some d)) := by
  have R' := R.ext e
  obtain ⟨As, h1, h2, h3⟩ := R.sl
  obtain ⟨v1, v2, v3⟩ : (∀ (i : Nat) (d : D), env[i]? = some (some d) → ∃ v, σ[i]? = some (some v) ∧ ResOk K H0 F' H' (kAt ks i) v d (As i)) ∧ (∀ i j a, a ∈ As i → a ∈ As j → i = j) ∧ ∀ i, ∀ a ∈ As i, H' a ≠ none ∧ F' a = none :=
    ⟨fun i d hd => by
      obtain ⟨v, a, b⟩ := h1 i d hd
      exact ⟨v, a, b.mono e⟩, h2, fun i a ha => by
      obtain ⟨a1, a2⟩ := h3 i a ha
      exact ⟨fun z => a1 (e.hh.free z), e.free a2 a1⟩⟩
  have hk : ∀ j, kAt (ks.set i m) j = if i = j then m else kAt ks j := fun j => kAt_set hi
  refine ⟨R'.e0, R'.eF, by rw [List.length_set, List.length_set]; exact R.len, by rw [List.length_set, List.length_set]; exact R.kl, asSet As i A, fun j d' hd => ?_, fun j k a ha hb => ?_, fun j a ha => ?_⟩
  · rw [hk]
    by_cases z : i = j
    · subst z
      have hl : i < env.length := by rw [← R.kl]; exact hi
      rw [List.getElem?_set_self hl] at hd
      have q := Option.some.inj (Option.some.inj hd)
      subst q
      refine ⟨v, List.getElem?_set_self (by rw [R.len]; exact hl), ?_⟩
      rw [if_pos rfl, asSet_eq]
      exact r
    · rw [List.getElem?_set_ne z] at hd
      obtain ⟨w, a, b⟩ := v1 j d' hd
      refine ⟨w, by rw [List.getElem?_set_ne z]; exact a, ?_⟩
      rw [if_neg z, asSet_ne z]
      exact b
  · by_cases z : i = j
    · by_cases y : i = k
      · exact z.symm.trans y
      · rw [← z, asSet_eq] at ha
        rw [asSet_ne y] at hb
        exact absurd (n a ha) (h3 k a hb).1
    · by_cases y : i = k
      · rw [asSet_ne z] at ha
        rw [← y, asSet_eq] at hb
        exact absurd (n a hb) (h3 j a ha).1
      · rw [asSet_ne z] at ha
        rw [asSet_ne y] at hb
        exact h2 j k a ha hb
  · by_cases z : i = j
    · rw [← z, asSet_eq] at ha
      exact r.own a ha
    · rw [asSet_ne z] at ha
      exact v3 j a ha
/-- a slot becomes weaker -/
theorem Rel.weak1 {K : PySem.W.Frag} {H0 F H : Hp} {ks : List RM} {σ : L2.St} {env : En} {m : RM} {i : Nat} (R : Rel K H0 ks F σ H env) (nb : ∀ i, kAt ks i ≠ .B) (hi : i < ks.length) (hle : (kAt ks i).le m = true) :
    ∃ F', Same F F' ∧ Rel K H0 (ks.set i m) F' σ H env := by
  obtain ⟨As, h1, h2, h3⟩ := R.sl
  have hk : ∀ j, kAt (ks.set i m) j = if i = j then m else kAt ks j := fun j => kAt_set hi
  have kl' : (ks.set i m).length = env.length := by rw [List.length_set]; exact R.kl
  -- no value there
  by_cases hv : ∃ d, env[i]? = some (some d)
  case neg =>
    refine ⟨F, Same.refl _, R.e0, R.eF, R.len, kl', As, fun j d hd => ?_, h2, h3⟩
    have z : i ≠ j := fun q => hv ⟨d, by rw [q]; exact hd⟩
    rw [hk, if_neg z]
    exact h1 j d hd
  obtain ⟨d, hd⟩ := hv
  obtain ⟨v, hs, r⟩ := h1 i d hd
  have fin : ∀ (F' : Hp) (A' : List Addr), Same F F' → Same F' H → (∀ a ∈ A', a ∈ As i) → (∀ a, F a = none → a ∉ As i → F' a = none) → (∀ a ∈ A', F' a = none) → ResOk K H0 F' H m v d A' → ∃ F', Same F F' ∧ Rel K H0 (ks.set i m) F' σ H env := by
    intro F' A' s1 s2 sub out own' r'
    have ex : ∀ j, i ≠ j → ∀ d' v', ResOk K H0 F H (kAt ks j) v' d' (As j) → ResOk K H0 F' H (kAt ks j) v' d' (As j) := by
      intro j hij d' v' q
      have no : ∀ a ∈ As j, F' a = none := fun a ha => out a ((h3 j a ha).2) fun z => hij (h2 i j a z ha)
      cases e : kAt ks j with
      | un => rw [e] at q; exact q
      | B => exact absurd e (nb j)
      | any => rw [e] at q; exact ⟨dt_mono s1 q.1, q.2⟩
      | new => rw [e] at q; exact ⟨dp_mono (nw_mono s1) q.1, q.2⟩
      | o1 =>
        rw [e] at q
        obtain ⟨p, xs, ds, rfl, rfl, a, b, f, g⟩ := q
        exact ⟨p, xs, ds, rfl, rfl, a, dpa_mono (nw_mono s1) b, no p (by rw [g]; simp), g⟩
      | o2 =>
        rw [e] at q
        obtain ⟨p, qs, dss, rfl, rfl, a, b, g, n, f⟩ := q
        exact ⟨p, qs, dss, rfl, rfl, a, rows_mono (nw_mono s1) (Same.refl _) b, g, n, no⟩
      | dk =>
        rw [e] at q
        rcases q with ⟨p, ns, rfl, rfl, a, f, g⟩ | q
        · exact .inl ⟨p, ns, rfl, rfl, a, no p (by rw [g]; simp), g⟩
        · exact .inr q
      | dt =>
        rw [e] at q
        obtain ⟨p, ns, rfl, rfl, a, f, g⟩ := q
        exact ⟨p, ns, rfl, rfl, a, no p (by rw [g]; simp), g⟩
      | ow =>
        rw [e] at q
        exact ⟨q.1, fun a ha => ⟨(q.2 a ha).1, no a ha⟩⟩
    refine ⟨F', s1, R.e0.trans s1, s2, R.len, kl', asSet As i A', fun j d' hd' => ?_, fun j k a ha hb => ?_, fun j a ha => ?_⟩
    · rw [hk]
      by_cases z : i = j
      · subst z
        rw [hd] at hd'
        have q := Option.some.inj (Option.some.inj hd')
        subst q
        rw [if_pos rfl, asSet_eq]
        exact ⟨v, hs, r'⟩
      · rw [if_neg z, asSet_ne z]
        obtain ⟨v', a, b⟩ := h1 j d' hd'
        exact ⟨v', a, ex j z d' v' b⟩
    · have sub' : ∀ j, a ∈ asSet As i A' j → a ∈ As j := fun j h => by
        by_cases z : i = j
        · rw [← z] at h ⊢
          rw [asSet_eq] at h
          exact sub a h
        · rw [asSet_ne z] at h
          exact h
      exact h2 j k a (sub' j ha) (sub' k hb)
    · by_cases z : i = j
      · rw [← z, asSet_eq] at ha
        exact ⟨(h3 i a (sub a ha)).1, own' a ha⟩
      · rw [asSet_ne z] at ha
        exact ⟨(h3 j a ha).1, out a (h3 j a ha).2 fun y => z (h2 i j a y ha)⟩
  have o0 : ∀ a ∈ As i, H0 a = none := fun a ha => R.e0.free (h3 i a ha).2
  have add : ∀ A : List Addr, (∀ a ∈ A, a ∈ As i) → Same F (addF F H A) ∧ Same (addF F H A) H ∧ (∀ a, F a = none → a ∉ As i → addF F H A a = none) := fun A hA =>
    ⟨addF_same fun a ha => (h3 i a (hA a ha)).2, addF_le R.eF, fun a h z => by rw [addF_out fun y => z (hA a y)]; exact h⟩
  generalize hki : kAt ks i = mi at hle r
  obtain ⟨p1, p2, p3⟩ := add (As i) fun _ h => h
  cases mi with
  | un => exact r.elim
  | B => exact absurd hki (nb i)
  | any =>
    cases m with
    | any => exact fin F (As i) (Same.refl _) R.eF (fun _ h => h) (fun _ h _ => h) (fun a ha => (h3 i a ha).2) r
    | _ => exact nomatch hle
  | new =>
    cases m with
    | new => exact fin F (As i) (Same.refl _) R.eF (fun _ h => h) (fun _ h _ => h) (fun a ha => (h3 i a ha).2) r
    | any => exact fin F [] (Same.refl _) R.eF (fun _ h => nomatch h) (fun _ h _ => h) (fun a ha => nomatch ha) ⟨.inl (dp_k (dp_mono nw_le r.1)), rfl⟩
    | _ => exact nomatch hle
  | dk =>
    cases m with
    | dk => exact fin F (As i) (Same.refl _) R.eF (fun _ h => h) (fun _ h _ => h) (fun a ha => (h3 i a ha).2) r
    | _ => exact nomatch hle
  | dt =>
    cases m with
    | dt => exact fin F (As i) (Same.refl _) R.eF (fun _ h => h) (fun _ h _ => h) (fun a ha => (h3 i a ha).2) r
    | _ => exact nomatch hle
  | ow =>
    cases m with
    | ow => exact fin F (As i) (Same.refl _) R.eF (fun _ h => h) (fun _ h _ => h) (fun a ha => (h3 i a ha).2) r
    | _ => exact nomatch hle
  | o1 =>
    cases m with
    | o1 => exact fin F (As i) (Same.refl _) R.eF (fun _ h => h) (fun _ h _ => h) (fun a ha => (h3 i a ha).2) r
    | new => exact fin _ [] p1 p2 (fun _ h => nomatch h) p3 (fun a ha => nomatch ha) ⟨freeze1 o0 r, rfl⟩
    | any => exact fin _ [] p1 p2 (fun _ h => nomatch h) p3 (fun a ha => nomatch ha) ⟨.inl (dp_k (dp_mono nw_le (freeze1 o0 r))), rfl⟩
    | _ => exact nomatch hle
  | o2 =>
    cases m with
    | o2 => exact fin F (As i) (Same.refl _) R.eF (fun _ h => h) (fun _ h _ => h) (fun a ha => (h3 i a ha).2) r
    | new => exact fin _ [] p1 p2 (fun _ h => nomatch h) p3 (fun a ha => nomatch ha) ⟨freeze2 o0 r, rfl⟩
    | any => exact fin _ [] p1 p2 (fun _ h => nomatch h) p3 (fun a ha => nomatch ha) ⟨.inl (dp_k (dp_mono nw_le (freeze2 o0 r))), rfl⟩
    | o1 =>
      obtain ⟨p, qs, e, r1⟩ := freeze21 o0 r
      obtain ⟨q1, q2, q3⟩ := add qs fun a h => by rw [e]; exact List.mem_cons_of_mem _ h
      exact fin _ [p] q1 q2 (fun a h => by rw [e]; have z : a = p := by simpa using h
                                           subst z; simp) q3 (fun a ha => (r1.own a ha).2) r1
    | _ => exact nomatch hle
end Tf
namespace Tf
open PySem PySem.Spec PyProof.Rows L2

/-! ### weaker results -/
theorem Got.le {K : PySem.W.Frag} {H0 F H : Hp} {m m' : RM} {d : D} {Q : VK} (h0 : Same H0 H) (hle : m.le m' = true) (g : Got K H0 F H m' d Q) : Got K H0 F H m d Q := by
  intro F' v H' A e r n
  have ow := r.own
  have z : ∀ a ∈ A, H0 a = none := fun a ha => h0.free (n a ha)
  have e1 : Ext F H (addF F' H' A) H' := e.add (fun a ha => (ow a ha).2) n
  cases m with
  | un => exact r.elim
  | B =>
    cases m' with
    | B => exact g F' v H' A e r n
    | _ => exact nomatch hle
  | any =>
    cases m' with
    | any => exact g F' v H' A e r n
    | _ => exact nomatch hle
  | new =>
    cases m' with
    | new => exact g F' v H' A e r n
    | any => exact g F' v H' [] e ⟨.inl (dp_k (dp_mono nw_le r.1)), rfl⟩ (fun a ha => nomatch ha)
    | _ => exact nomatch hle
  | dk =>
    cases m' with
    | dk => exact g F' v H' A e r n
    | _ => exact nomatch hle
  | dt =>
    cases m' with
    | dt => exact g F' v H' A e r n
    | _ => exact nomatch hle
  | ow =>
    cases m' with
    | ow => exact g F' v H' A e r n
    | _ => exact nomatch hle
  | o1 =>
    cases m' with
    | o1 => exact g F' v H' A e r n
    | new => exact g _ v H' [] e1 ⟨freeze1 z r, rfl⟩ (fun a ha => nomatch ha)
    | any => exact g _ v H' [] e1 ⟨.inl (dp_k (dp_mono nw_le (freeze1 z r))), rfl⟩ (fun a ha => nomatch ha)
    | _ => exact nomatch hle
  | o2 =>
    cases m' with
    | o2 => exact g F' v H' A e r n
    | new => exact g _ v H' [] e1 ⟨freeze2 z r, rfl⟩ (fun a ha => nomatch ha)
    | any => exact g _ v H' [] e1 ⟨.inl (dp_k (dp_mono nw_le (freeze2 z r))), rfl⟩ (fun a ha => nomatch ha)
    | o1 =>
      obtain ⟨p, qs, rfl, r1⟩ := freeze21 z r
      exact g _ v H' [p] (e.add (fun a ha => (ow a (List.mem_cons_of_mem _ ha)).2) fun a ha => n a (List.mem_cons_of_mem _ ha)) r1 (fun a ha => n a (by
        have q : a = p := by simpa using ha
        subst q
        simp))
    | _ => exact nomatch hle
theorem Got.toB {K : PySem.W.Frag} {H0 F H : Hp} {m : RM} {d : D} {Q : VK} (g : Got K H0 F H .B d Q) : Got K H0 F H m d Q :=
  fun F' v H' A e r n => g F' v H' [] e ⟨r.dt e.fh, rfl⟩ (fun a ha => nomatch ha)
/-- a value that asks no heap -/
theorem Got.flat {K : PySem.W.Frag} {H0 F H : Hp} {d : D} {v : V} {Q : VK} (g : Got K H0 F H .new d Q) (f : Same F H) (h : ∀ G, Dp N0 G v d) : Q v H :=
  g F v H [] (Ext.refl f) ⟨h _, rfl⟩ (fun a ha => nomatch ha)
theorem Got.lst {K : PySem.W.Frag} {H0 F H : Hp} {ds : List D} {xs : List V} {p : Addr} {Q : VK} (g : Got K H0 F H .o1 (.list ds) Q) (f : Same F H) (hp : H p = none) (h : DpAll N0 (nw H0 F) xs ds) : Q (.ref p) (upd H p (.lst xs)) :=
  g F (.ref p) (upd H p (.lst xs)) [p] (Ext.heap f (same_upd hp)) ⟨p, xs, ds, rfl, rfl, upd_same, h, f.free hp, rfl⟩ (fun a ha => by
    have q : a = p := by simpa using ha
    subst q
    exact hp)
theorem Got.tup {K : PySem.W.Frag} {H0 F H : Hp} {ds : List D} {xs : List V} {p : Addr} {Q : VK} (h0 : Same H0 F) (g : Got K H0 F H .new (.tuple ds) Q) (f : Same F H) (hp : H p = none) (h : DpAll N0 (nw H0 F) xs ds) : Q (.ref p) (upd H p (.tup xs)) := by
  have fp : F p = none := f.free hp
  refine g (upd F p (.tup xs)) (.ref p) (upd H p (.tup xs)) [] (Ext.new f hp) ⟨.tup (SqT.of (nw_at (h0.free fp) upd_same)) (dpa_mono (nw_mono (same_upd fp)) h), rfl⟩ (fun a ha => nomatch ha)

/-! ### the judgement of an expression -/
def Rdg (X : Cx) (E : XK) (H0 : Hp) (ks : List RM) (t : TE) (f : DE) (m : RM) : Prop :=
  ∀ (F : Hp) (σ : L2.St) (H : Hp) (env : En) (Q : VK), Rel X.K H0 ks F σ H env → Done X.K X.mg E H0 F H m (f env) Q → t σ H Q
structure PD (X : Cx) (E : XK) (H0 : Hp) (ks : List RM) (e : Expr) (f : DE) (m : RM) : Prop where
  ex : ∃ t, PE X e t ∧ Rdg X E H0 ks t f m
section
variable {X : Cx} {E : XK} {H0 : Hp} {ks : List RM} {e a b c : Expr} {f fa fb fc : DE} {m ma mb mc : RM} {ta tb tc : TE} {F H : Hp} {σ : L2.St} {env : En} {Q : VK} {pos : Pos}
theorem seq1 {g : D → Rs D} {k : V → Hp → Prop} (qa : Rdg X E H0 ks ta fa ma) (R : Rel X.K H0 ks F σ H env) (h : Done X.K X.mg E H0 F H m ((fa env).bind g) Q)
    (hk : ∀ d F1 x H1 A, fa env = .ok d → Ext F H F1 H1 → ResOk X.K H0 F1 H1 ma x d A → (∀ a ∈ A, H a = none) → Rel X.K H0 ks F1 σ H1 env → Done X.K X.mg E H0 F1 H1 m (g d) Q → k x H1) : ta σ H k := by
  refine qa F σ H env k R ?_
  cases hf : fa env with
  | ok d =>
    rw [hf] at h
    intro F1 v H1 A e r n
    exact hk d F1 v H1 A hf e r n (R.ext e) (Done.mono e h)
  | ex c => rw [hf] at h; exact h
  | no => rw [hf] at h; exact h
theorem pd_le {m' : RM} (h : PD X E H0 ks e f m) (hle : m.le m' = true := by rfl) : PD X E H0 ks e f m' := by
  obtain ⟨t, p, q⟩ := h.ex
  refine ⟨t, p, fun F σ H env Q R d => q F σ H env Q R ?_⟩
  cases hf : f env with
  | ok x => rw [hf] at d; exact Got.le (R.e0.trans R.eF) hle d
  | ex c => rw [hf] at d; exact d
  | no => rw [hf] at d; exact d
theorem pd_B (h : PD X E H0 ks e f m) : PD X E H0 ks e f .B := by
  obtain ⟨t, p, q⟩ := h.ex
  refine ⟨t, p, fun F σ H env Q R d => q F σ H env Q R ?_⟩
  cases hf : f env with
  | ok x => rw [hf] at d; exact Got.toB d
  | ex c => rw [hf] at d; exact d
  | no => rw [hf] at d; exact d
/-- of what asks no heap -/
def oFl (d : D) : Rs D := if flat d then .ok d else .no
theorem pd_fl (h : PD X E H0 ks e f m) : PD X E H0 ks e (e1 oFl f) .new := by
  obtain ⟨t, p, q⟩ := h.ex
  refine ⟨t, p, fun F σ H env Q R d => q F σ H env Q R ?_⟩
  cases hf : f env with
  | ok x =>
    have d' : Done X.K X.mg E H0 F H .new ((f env).bind oFl) Q := d
    rw [hf] at d'
    have d2 : Done X.K X.mg E H0 F H .new (if flat x = true then .ok x else .no) Q := d'
    by_cases z : flat x = true
    · rw [if_pos z] at d2
      intro F' v H' A e r n
      have q1 := (r.dt e.fh).flat (K' := N0) (H' := nw H0 F') z
      exact d2 F' v H' [] e ⟨q1.dp (by cases x <;> first | rfl | exact nomatch z), rfl⟩ (fun a ha => nomatch ha)
    · rw [if_neg z] at d2
      exact d2.elim
  | ex c =>
    have d' : Done X.K X.mg E H0 F H .new ((f env).bind oFl) Q := d
    rw [hf] at d'
    exact d'
  | no =>
    have d' : Done X.K X.mg E H0 F H .new ((f env).bind oFl) Q := d
    rw [hf] at d'
    exact d'
theorem pd_const {v : V} {d : D} (p : PE X e (tC v)) (h : ∀ G, Dp N0 G v d) : PD X E H0 ks e (eK d) .new :=
  ⟨_, p, fun F σ H env Q R g => Got.flat (d := d) g R.eF h⟩
theorem pd_int {i j pos} : PD X E H0 ks (.Constant (.int i) j pos) (eK (.int i)) .new := pd_const pe_int fun _ => .int i
theorem pd_str {x j pos} : PD X E H0 ks (.Constant (.str x) j pos) (eK (.str x)) .new := pd_const pe_str fun _ => .str x
theorem pd_bl {x j pos} : PD X E H0 ks (.Constant (.bool x) j pos) (eK (.bool x)) .new := pd_const pe_bl fun _ => .bl x
theorem pd_non {j pos} : PD X E H0 ks (.Constant .none j pos) (eK .none) .new := pd_const pe_non fun _ => .non
theorem eV_some {i : Nat} {d : D} (h : eV i env = .ok d) : env[i]? = some (some d) := by
  unfold eV at h
  split at h
  · rename_i d' e
    cases h
    exact e
  · cases h
theorem eV_ex {i : Nat} {c : EC} (h : eV i env = .ex c) : False := by
  unfold eV at h
  split at h <;> cases h
theorem pd_varB {i : Nat} (p : PE X e (tVar i)) : PD X E H0 ks e (eV i) .B := by
  refine ⟨_, p, fun F σ H env Q R g => ?_⟩
  cases hf : eV i env with
  | ok d =>
    rw [hf] at g
    obtain ⟨As, h1, _⟩ := R.sl
    obtain ⟨v, e, r⟩ := h1 i d (eV_some hf)
    exact ⟨v, e, g F v H [] (Ext.refl R.eF) ⟨r.dt R.eF, rfl⟩ (fun a ha => nomatch ha)⟩
  | ex c => exact (eV_ex hf).elim
  | no => rw [hf] at g; exact g.elim
def RM.shr : RM → Bool
  | .any => true
  | .new => true
  | _ => false
theorem pd_var {i : Nat} (p : PE X e (tVar i)) (hk : kAt ks i = m := by rfl) (hm : m.shr = true := by rfl) : PD X E H0 ks e (eV i) m := by
  refine ⟨_, p, fun F σ H env Q R g => ?_⟩
  cases hf : eV i env with
  | ok d =>
    rw [hf] at g
    obtain ⟨As, h1, _⟩ := R.sl
    obtain ⟨v, e, r⟩ := h1 i d (eV_some hf)
    rw [hk] at r
    refine ⟨v, e, g F v H [] (Ext.refl R.eF) ?_ (fun a ha => nomatch ha)⟩
    cases m with
    | any => exact ⟨r.1, rfl⟩
    | new => exact ⟨r.1, rfl⟩
    | _ => exact nomatch hm
  | ex c => exact (eV_ex hf).elim
  | no => rw [hf] at g; exact g.elim

/-! ### operations by values -/
def OpD (X : Cx) (fv : Value → Value → Sem Value) (g : D → D → Rs D) (m : RM) : Prop :=
  ∃ r, OpR X fv r ∧ ∀ (E : XK) (H0 F H : Hp) (x y : V) (dx dy : D) (Q : VK), Same H0 F → Same F H → Dt X.K H x dx → Dt X.K H y dy → Done X.K X.mg E H0 F H m (g dx dy) Q → r x y H Q
theorem rdg2 {r : R2} {g : D → D → Rs D} (hr : ∀ (E : XK) (H0 F H : Hp) (x y : V) (dx dy : D) (Q : VK), Same H0 F → Same F H → Dt X.K H x dx → Dt X.K H y dy → Done X.K X.mg E H0 F H m (g dx dy) Q → r x y H Q)
    (qa : Rdg X E H0 ks ta fa ma) (qb : Rdg X E H0 ks tb fb mb) : Rdg X E H0 ks (tOp r ta tb) (e2 g fa fb) m := fun F σ H env Q R h =>
  seq1 (k := fun x H1 => tb σ H1 fun y H2 => r x y H2 Q) qa R h fun dx F1 x H1 A1 _ e1 r1 _ R1 h1 => seq1 (k := fun y H2 => r x y H2 Q) qb R1 h1 fun dy F2 y H2 A2 _ e2 r2 _ R2 h2 =>
    hr E H0 F2 H2 x y dx dy Q R2.e0 R2.eF ((r1.mono e2).dt R2.eF) (r2.dt R2.eF) h2
theorem pd_op {op : Operator} {g : D → D → Rs D} (o : OpD X (binaryOp op) g m) (ha : PD X E H0 ks a fa ma) (hb : PD X E H0 ks b fb mb) : PD X E H0 ks (.BinOp a op b pos) (e2 g fa fb) m := by
  obtain ⟨ta, pa, qa⟩ := ha.ex
  obtain ⟨tb, pb, qb⟩ := hb.ex
  obtain ⟨r, ro, rq⟩ := o
  exact ⟨tOp r ta tb, pe_op ro pa pb, rdg2 rq qa qb⟩
theorem pd_cmp {op : CmpOp} {g : D → D → Rs D} (o : OpD X (compareOp op) g m) (ha : PD X E H0 ks a fa ma) (hb : PD X E H0 ks b fb mb) (hm : behindInMarks op b = false := by first | exact nomark _ | rfl) : PD X E H0 ks (.Compare a [op] [b] pos) (e2 g fa fb) m := by
  obtain ⟨ta, pa, qa⟩ := ha.ex
  obtain ⟨tb, pb, qb⟩ := hb.ex
  obtain ⟨r, ro, rq⟩ := o
  exact ⟨tOp r ta tb, pe_cmpR ro pa pb hm, rdg2 rq qa qb⟩
/-- two whole numbers -/
theorem opD_I {fv : Value → Value → Sem Value} {C : Int → Int → Prop} {gi : Int → Int → V} {g : D → D → Rs D} (ho : OpR X fv (rI C gi))
    (hg : ∀ dx dy d, g dx dy = .ok d → ∃ i j, dx = .int i ∧ dy = .int j ∧ C i j ∧ ∀ G, Dp N0 G (gi i j) d) (hx : ∀ dx dy c, g dx dy ≠ .ex c) : OpD X fv g .new := by
  refine ⟨_, ho, fun E H0 F H x y dx dy Q h0 h1 hx' hy h => ?_⟩
  cases e : g dx dy with
  | ok d =>
    rw [e] at h
    obtain ⟨i, j, rfl, rfl, hc, hd⟩ := hg dx dy d e
    exact ⟨i, j, dt_int hx', dt_int hy, hc, Got.flat h h1 hd⟩
  | ex c => exact absurd e (hx dx dy c)
  | no => rw [e] at h; exact h.elim
theorem opD_I0 {fv : Value → Value → Sem Value} {gi : Int → Int → V} {g : D → D → Rs D} (ho : OpR X fv (rI0 gi))
    (hg : ∀ dx dy d, g dx dy = .ok d → ∃ i j, dx = .int i ∧ dy = .int j ∧ ∀ G, Dp N0 G (gi i j) d) (hx : ∀ dx dy c, g dx dy ≠ .ex c) : OpD X fv g .new := by
  refine ⟨_, ho, fun E H0 F H x y dx dy Q h0 h1 hx' hy h => ?_⟩
  cases e : g dx dy with
  | ok d =>
    rw [e] at h
    obtain ⟨i, j, rfl, rfl, hd⟩ := hg dx dy d e
    exact ⟨i, j, dt_int hx', dt_int hy, Got.flat h h1 hd⟩
  | ex c => exact absurd e (hx dx dy c)
  | no => rw [e] at h; exact h.elim
theorem od_sub : OpD X (binaryOp .Sub) oSub .new := opD_I0 op_sub (fun dx dy d h => by
    cases dx <;> cases dy <;> first | (cases h; exact ⟨_, _, rfl, rfl, fun _ => .int _⟩) | cases h) (fun dx dy c h => by cases dx <;> cases dy <;> cases h)
theorem od_lt : OpD X (compareOp .Lt) oLt .new := opD_I0 op_lt (fun dx dy d h => by
    cases dx <;> cases dy <;> first | (cases h; exact ⟨_, _, rfl, rfl, fun _ => .bl _⟩) | cases h) (fun dx dy c h => by cases dx <;> cases dy <;> cases h)
theorem od_le : OpD X (compareOp .LtE) oLe .new := opD_I0 op_le (fun dx dy d h => by
    cases dx <;> cases dy <;> first | (cases h; exact ⟨_, _, rfl, rfl, fun _ => .bl _⟩) | cases h) (fun dx dy c h => by cases dx <;> cases dy <;> cases h)
theorem od_gt : OpD X (compareOp .Gt) oGt .new := opD_I0 op_gt (fun dx dy d h => by
    cases dx <;> cases dy <;> first | (cases h; exact ⟨_, _, rfl, rfl, fun _ => .bl _⟩) | cases h) (fun dx dy c h => by cases dx <;> cases dy <;> cases h)
theorem od_ge : OpD X (compareOp .GtE) oGe .new := opD_I0 op_ge (fun dx dy d h => by
    cases dx <;> cases dy <;> first | (cases h; exact ⟨_, _, rfl, rfl, fun _ => .bl _⟩) | cases h) (fun dx dy c h => by cases dx <;> cases dy <;> cases h)
theorem ite_ok {α : Type} {c : Bool} {x y : α} (h : (if c = true then Rs.ok x else Rs.no) = Rs.ok y) : c = true ∧ x = y := by
  by_cases z : c = true
  · rw [if_pos z] at h
    cases h
    exact ⟨z, rfl⟩
  · rw [if_neg z] at h
    cases h
theorem ite_ex {α : Type} {c : Bool} {x : α} {k : EC} (h : (if c = true then Rs.ok x else Rs.no) = Rs.ex k) : False := by
  by_cases z : c = true
  · rw [if_pos z] at h
    cases h
  · rw [if_neg z] at h
    cases h
theorem od_mul : OpD X (binaryOp .Mult) oMul .new := opD_I op_mul (fun dx dy d h => by
    cases dx <;> cases dy <;> first
      | (obtain ⟨z, rfl⟩ := ite_ok h
         refine ⟨_, _, rfl, rfl, ?_, fun _ => .int _⟩
         unfold small64 at z
         simp only [Bool.or_eq_true, Bool.and_eq_true, decide_eq_true_eq] at z
         exact z)
      | cases h) (fun dx dy c h => by cases dx <;> cases dy <;> first | exact ite_ex h | cases h)
theorem od_div : OpD X (binaryOp .FloorDiv) oDiv .new := opD_I op_fdiv (fun dx dy d h => by
    cases dx <;> cases dy <;> first
      | (obtain ⟨z, rfl⟩ := ite_ok h
         refine ⟨_, _, rfl, rfl, ?_, fun _ => .int _⟩
         simp only [Bool.and_eq_true, decide_eq_true_eq] at z
         exact z)
      | cases h) (fun dx dy c h => by cases dx <;> cases dy <;> first | exact ite_ex h | cases h)
theorem od_mod : OpD X (binaryOp .Mod) oMod .new := opD_I op_mod (fun dx dy d h => by
    cases dx <;> cases dy <;> first
      | (obtain ⟨z, rfl⟩ := ite_ok h
         refine ⟨_, _, rfl, rfl, ?_, fun _ => .int _⟩
         simp only [decide_eq_true_eq] at z
         exact z)
      | cases h) (fun dx dy c h => by cases dx <;> cases dy <;> first | exact ite_ex h | cases h)
theorem od_pow : OpD X (binaryOp .Pow) oPow .new := opD_I op_pow (fun dx dy d h => by
    cases dx <;> cases dy <;> first
      | (obtain ⟨z, rfl⟩ := ite_ok h
         refine ⟨_, _, rfl, rfl, ?_, fun _ => .int _⟩
         simp only [Bool.and_eq_true, decide_eq_true_eq] at z
         exact ⟨z.1.1, z.1.2, z.2⟩)
      | cases h) (fun dx dy c h => by cases dx <;> cases dy <;> first | exact ite_ex h | cases h)
theorem lim_le {n : Nat} (h : lim n = true) : n ≤ sizeLine := by
  have z : n ≤ 100000 := of_decide_eq_true h
  exact Nat.le_trans z (by decide)
theorem lim_lt {n : Nat} (h : lim n = true) : n < sizeLine := by
  have z : n ≤ 100000 := of_decide_eq_true h
  exact Nat.lt_of_le_of_lt z (by decide)
/-- whole numbers, texts -/
def oAddS : D → D → Rs D
  | .int i, .int j => .ok (.int (i + j))
  | .str x, .str y => if lim (x.length + y.length) then .ok (.str (x ++ y)) else .no
  | _, _ => .no
theorem OpR.or {fv : Value → Value → Sem Value} {r r' : R2} (h : OpR X fv r) (h' : OpR X fv r') : OpR X fv (fun x y H Q => r x y H Q ∨ r' x y H Q) := by
  intro pins s σ H x y v u Q I rx ry q
  rcases q with q | q
  · exact h pins s σ H x y v u Q I rx ry q
  · exact h' pins s σ H x y v u Q I rx ry q
theorem od_add : OpD X (binaryOp .Add) oAddS .new := by
  refine ⟨_, OpR.or op_add op_add_str, fun E H0 F H x y dx dy Q h0 h1 hx hy h => ?_⟩
  cases dx <;> cases dy <;> first
    | exact h.elim
    | exact .inl ⟨_, _, dt_int hx, dt_int hy, Got.flat h h1 fun _ => .int _⟩
    | (rename_i s t
       have h' : Done X.K X.mg E H0 F H .new (if lim (s.length + t.length) = true then .ok (.str (s ++ t)) else .no) Q := h
       by_cases z : lim (s.length + t.length) = true
       · rw [if_pos z] at h'
         exact .inr ⟨_, _, dt_str hx, dt_str hy, lim_le z, Got.flat h' h1 fun _ => .str _⟩
       · rw [if_neg z] at h'
         exact h'.elim)
theorem shp_nd {d : D} (h : shp d = true) : nd d = true := by
  cases d with
  | dict kvs =>
    have q := SeqAt.canLay_of_shaped h
    exact absurd q (by simp [PyData.canLay0])
  | _ => rfl
theorem od_eq (hu : X.A.units + 64 < cLine) : OpD X (compareOp .Eq) oEq .new := by
  refine ⟨_, op_eqD hu, fun E H0 F H x y dx dy Q h0 h1 hx hy h => ?_⟩
  have h' : Done X.K X.mg E H0 F H .new (if (shp dx && shp dy) = true then .ok (.bool (PyData.eqv dx dy)) else .no) Q := h
  by_cases z : (shp dx && shp dy) = true
  · rw [if_pos z] at h'
    rw [Bool.and_eq_true] at z
    exact ⟨dx, dy, hx.dp (shp_nd z.1), hy.dp (shp_nd z.2), z.1, z.2, Got.flat h' h1 fun _ => .bl _⟩
  · rw [if_neg z] at h'
    exact h'.elim
theorem od_ne (hu : X.A.units + 64 < cLine) : OpD X (compareOp .NotEq) oNe .new := by
  refine ⟨_, op_neD hu, fun E H0 F H x y dx dy Q h0 h1 hx hy h => ?_⟩
  have h' : Done X.K X.mg E H0 F H .new (if (shp dx && shp dy) = true then .ok (.bool (!PyData.eqv dx dy)) else .no) Q := h
  by_cases z : (shp dx && shp dy) = true
  · rw [if_pos z] at h'
    rw [Bool.and_eq_true] at z
    exact ⟨dx, dy, hx.dp (shp_nd z.1), hy.dp (shp_nd z.2), z.1, z.2, Got.flat h' h1 fun _ => .bl _⟩
  · rw [if_neg z] at h'
    exact h'.elim
theorem od_isN : OpD X (compareOp .Is) oIsN .new := by
  refine ⟨_, op_isN, fun E H0 F H x y dx dy Q h0 h1 hx hy h => ?_⟩
  cases dy with
  | none =>
    have ey := dt_none hy
    refine ⟨ey, ?_⟩
    have h' : Got X.K H0 F H .new (.bool (isNone dx)) Q := h
    have e : decide (x = V.non) = isNone dx := by
      cases dx with
      | none => rw [dt_none hx]; rfl
      | bool b => rw [dt_bl hx]; rfl
      | int i => rw [dt_int hx]; rfl
      | str s => rw [dt_str hx]; rfl
      | list l => obtain ⟨_, _, e, _⟩ := dt_list hx; rw [e]; rfl
      | tuple l => obtain ⟨_, _, e, _⟩ := dt_tup hx; rw [e]; rfl
      | dict k =>
        rcases hx with z | z
        · cases z
        · obtain ⟨_, _, e, _⟩ := z.is
          rw [e]; rfl
    rw [e]
    exact Got.flat h' h1 fun _ => .bl _
  | _ => exact h.elim
theorem od_noN : OpD X (compareOp .IsNot) oNoN .new := by
  refine ⟨_, op_notN, fun E H0 F H x y dx dy Q h0 h1 hx hy h => ?_⟩
  cases dy with
  | none =>
    have ey := dt_none hy
    refine ⟨ey, ?_⟩
    have h' : Got X.K H0 F H .new (.bool (!isNone dx)) Q := h
    have e : decide (x = V.non) = isNone dx := by
      cases dx with
      | none => rw [dt_none hx]; rfl
      | bool b => rw [dt_bl hx]; rfl
      | int i => rw [dt_int hx]; rfl
      | str s => rw [dt_str hx]; rfl
      | list l => obtain ⟨_, _, e, _⟩ := dt_list hx; rw [e]; rfl
      | tuple l => obtain ⟨_, _, e, _⟩ := dt_tup hx; rw [e]; rfl
      | dict k =>
        rcases hx with z | z
        · cases z
        · obtain ⟨_, _, e, _⟩ := z.is
          rw [e]; rfl
    rw [e]
    exact Got.flat h' h1 fun _ => .bl _
  | _ => exact h.elim
end
end Tf
namespace Tf
open PySem PySem.Spec PyProof.Rows L2
section
variable {X : Cx} {E : XK} {H0 : Hp} {ks : List RM} {e a b c : Expr} {f fa fb fc : DE} {m ma mb mc : RM} {ta tb tc : TE} {F H : Hp} {σ : L2.St} {env : En} {Q : VK} {pos : Pos}
theorem od_in (hu : X.A.units + 65 < cLine) : OpD X (compareOp .In) oIn .new := by
  refine ⟨_, op_inD hu, fun E H0 F H x y dx dy Q h0 h1 hx hy h => ?_⟩
  cases dy with
  | list ys =>
    have h' : Done X.K X.mg E H0 F H .new (if (shp dx && shp (.list ys)) = true then .ok (.bool (ys.any fun z => PyData.eqv z dx)) else .no) Q := h
    by_cases z : (shp dx && shp (.list ys)) = true
    · rw [if_pos z] at h'
      rw [Bool.and_eq_true] at z
      exact ⟨dx, ys, hx.dp (shp_nd z.1), hy.dp rfl, z.1, z.2, Got.flat h' h1 fun _ => .bl _⟩
    · rw [if_neg z] at h'
      exact h'.elim
  | _ => exact h.elim
theorem od_ni (hu : X.A.units + 65 < cLine) : OpD X (compareOp .NotIn) oNi .new := by
  refine ⟨_, op_notInD hu, fun E H0 F H x y dx dy Q h0 h1 hx hy h => ?_⟩
  cases dy with
  | list ys =>
    have h' : Done X.K X.mg E H0 F H .new (if (shp dx && shp (.list ys)) = true then .ok (.bool (!ys.any fun z => PyData.eqv z dx)) else .no) Q := h
    by_cases z : (shp dx && shp (.list ys)) = true
    · rw [if_pos z] at h'
      rw [Bool.and_eq_true] at z
      exact ⟨dx, ys, hx.dp (shp_nd z.1), hy.dp rfl, z.1, z.2, Got.flat h' h1 fun _ => .bl _⟩
    · rw [if_neg z] at h'
      exact h'.elim
  | _ => exact h.elim
theorem od_niS : OpD X (compareOp .NotIn) oNiS .new := by
  refine ⟨_, op_notIn_sign, fun E H0 F H x y dx dy Q h0 h1 hx hy h => ?_⟩
  cases dx with
  | str s =>
    cases dy with
    | str t =>
      have h' : Done X.K X.mg E H0 F H .new (match s.cps.toList with
        | [c] => .ok (.bool (!decide (c ∈ t.cps.toList)))
        | _ => .no) Q := h
      split at h'
      · rename_i c hc
        have es : s = ⟨#[c]⟩ := by
          have q : s.cps = #[c] := Array.toList_inj.mp hc
          cases s
          simp only at q
          rw [q]
        refine ⟨c, t, by rw [dt_str hx, es], dt_str hy, Got.flat h' h1 fun _ => .bl _⟩
      · exact h'.elim
    | _ => exact h.elim
  | _ => cases dy <;> exact h.elim

/-! ### and, or, not, chains -/
theorem pd_one {op} (h : PD X E H0 ks a f m) : PD X E H0 ks (.BoolOp op [a] pos) f m := by
  obtain ⟨t, p, q⟩ := h.ex
  exact ⟨t, pe_one p, q⟩
theorem pd_and {rest : List Expr} (ha : PD X E H0 ks a fa ma) (hb : PD X E H0 ks (.BoolOp .And (b :: rest) pos) fb .new) : PD X E H0 ks (.BoolOp .And (a :: b :: rest) pos) (eAnd fa fb) .new := by
  obtain ⟨ta, pa, qa⟩ := ha.ex
  obtain ⟨tb, pb, qb⟩ := hb.ex
  refine ⟨_, pe_and pa pb, fun F σ H env Q R h => ?_⟩
  refine seq1 (k := fun x H1 => ∃ c, x = .bl c ∧ if c = true then tb σ H1 Q else Q (.bl false) H1) qa R (show Done X.K X.mg E H0 F H .new ((fa env).bind _) Q from h) fun d F1 x H1 A hd e1 r1 n R1 h1 => ?_
  have dx := r1.dt R1.eF
  cases d with
  | bool k =>
    refine ⟨k, dt_bl dx, ?_⟩
    cases k with
    | true => rw [if_pos rfl]; exact qb F1 σ H1 env Q R1 h1
    | false =>
      rw [if_neg Bool.false_ne_true]
      exact Got.flat h1 R1.eF fun _ => .bl _
  | _ => exact h1.elim
theorem pd_or {rest : List Expr} (ha : PD X E H0 ks a fa ma) (hb : PD X E H0 ks (.BoolOp .Or (b :: rest) pos) fb .new) : PD X E H0 ks (.BoolOp .Or (a :: b :: rest) pos) (eOr fa fb) .new := by
  obtain ⟨ta, pa, qa⟩ := ha.ex
  obtain ⟨tb, pb, qb⟩ := hb.ex
  refine ⟨_, pe_or pa pb, fun F σ H env Q R h => ?_⟩
  refine seq1 (k := fun x H1 => ∃ c, x = .bl c ∧ if c = true then Q (.bl true) H1 else tb σ H1 Q) qa R (show Done X.K X.mg E H0 F H .new ((fa env).bind _) Q from h) fun d F1 x H1 A hd e1 r1 n R1 h1 => ?_
  have dx := r1.dt R1.eF
  cases d with
  | bool k =>
    refine ⟨k, dt_bl dx, ?_⟩
    cases k with
    | false => rw [if_neg Bool.false_ne_true]; exact qb F1 σ H1 env Q R1 h1
    | true =>
      rw [if_pos rfl]
      exact Got.flat h1 R1.eF fun _ => .bl _
  | _ => exact h1.elim
theorem pd_not (ha : PD X E H0 ks a fa ma) : PD X E H0 ks (.UnaryOp .Not a pos) (e1 oNot fa) .new := by
  obtain ⟨ta, pa, qa⟩ := ha.ex
  refine ⟨_, pe_not pa, fun F σ H env Q R h => ?_⟩
  refine seq1 (k := fun x H1 => ∃ c, x = .bl c ∧ Q (.bl (!c)) H1) qa R (show Done X.K X.mg E H0 F H .new ((fa env).bind _) Q from h) fun d F1 x H1 A hd e1 r1 n R1 h1 => ?_
  have dx := r1.dt R1.eF
  cases d with
  | bool k => exact ⟨k, dt_bl dx, Got.flat h1 R1.eF fun _ => .bl _⟩
  | _ => exact h1.elim
theorem pd_neg (ha : PD X E H0 ks a fa ma) : PD X E H0 ks (.UnaryOp .USub a pos) (e1 oNeg fa) .new := by
  obtain ⟨ta, pa, qa⟩ := ha.ex
  refine ⟨_, pe_un un_neg pa, fun F σ H env Q R h => ?_⟩
  refine seq1 (k := fun x H1 => ∃ i, x = .int i ∧ Q (.int (-i)) H1) qa R (show Done X.K X.mg E H0 F H .new ((fa env).bind _) Q from h) fun d F1 x H1 A hd e1 r1 n R1 h1 => ?_
  have dx := r1.dt R1.eF
  cases d with
  | int k => exact ⟨k, dt_int dx, Got.flat h1 R1.eF fun _ => .int _⟩
  | _ => exact h1.elim
theorem pd_ch {op op' : CmpOp} {g g' : D → D → Rs D} (o : OpD X (compareOp op) g .new) (o' : OpD X (compareOp op') g' .new) (ha : PD X E H0 ks a fa ma) (hb : PD X E H0 ks b fb mb) (hc : PD X E H0 ks c fc mc)
    (hm : lastMarks [op, op'] [b, c] = false := by with_unfolding_all rfl) : PD X E H0 ks (.Compare a [op, op'] [b, c] pos) (eCh g g' fa fb fc) .new := by
  obtain ⟨ta, pa, qa⟩ := ha.ex
  obtain ⟨tb, pb, qb⟩ := hb.ex
  obtain ⟨tc, pc, qc⟩ := hc.ex
  obtain ⟨r, ro, rq⟩ := o
  obtain ⟨r', ro', rq'⟩ := o'
  refine ⟨_, pe_chain ro ro' pa pb pc hm, fun F σ H env Q R h => ?_⟩
  show ta σ H _
  refine seq1 qa R (show Done X.K X.mg E H0 F H .new ((fa env).bind _) Q from h) fun dx F1 x H1 A hd e1 r1 n R1 h1 => ?_
  show tb σ H1 _
  refine seq1 qb R1 (show Done X.K X.mg E H0 F1 H1 .new ((fb env).bind _) Q from h1) fun dy F2 y H2 A2 hd2 e2 r2 n2 R2 h2 => ?_
  refine rq E H0 F2 H2 x y dx dy _ R2.e0 R2.eF ((r1.mono e2).dt R2.eF) (r2.dt R2.eF) ?_
  have h2 : Done X.K X.mg E H0 F2 H2 .new ((g dx dy).bind _) Q := h2
  cases hg : g dx dy with
  | no => rw [hg] at h2; exact h2
  | ex k => rw [hg] at h2; exact h2
  | ok d =>
    rw [hg] at h2
    intro F3 v H3 A3 e3 r3 n3
    have dz := r3.dt e3.fh
    have R3 := R2.ext e3
    cases d with
    | bool k =>
      refine ⟨k, dt_bl dz, ?_⟩
      cases k with
      | true =>
        rw [if_pos rfl]
        refine seq1 qc R3 (Done.mono e3 (show Done X.K X.mg E H0 F2 H2 .new ((fc env).bind _) Q from h2)) fun dw F4 w H4 A4 hd4 e4 r4 n4 R4 h4 => ?_
        exact rq' E H0 F4 H4 y w dy dw Q R4.e0 R4.eF (((r2.mono e3).mono e4).dt R4.eF) (r4.dt R4.eF) h4
      | false =>
        rw [if_neg Bool.false_ne_true]
        exact Got.flat (Got.mono e3 h2) e3.fh fun _ => .bl _
    | _ => exact h2.elim

/-! ### argument lists, displays, calls -/
def LOk (K : PySem.W.Frag) (H0 F H : Hp) : RM → List V → List D → Prop
  | .B, vs, ds => DtAll K H vs ds
  | .new, vs, ds => DpAll N0 (nw H0 F) vs ds
  | _, _, _ => False
def GotL (K : PySem.W.Frag) (H0 F H : Hp) (m : RM) (ds : List D) (Q : List V → Hp → Prop) : Prop :=
  ∀ (F' : Hp) (vs : List V) (H' : Hp), Ext F H F' H' → LOk K H0 F' H' m vs ds → Q vs H'
def DoneL (K : PySem.W.Frag) (mg : Str → Option Value) (E : XK) (H0 F H : Hp) (m : RM) (r : Rs (List D)) (Q : List V → Hp → Prop) : Prop := match r with
  | .ok ds => GotL K H0 F H m ds Q
  | .ex c => Wish mg E H0 c
  | .no => False
def RdgL (X : Cx) (E : XK) (H0 : Hp) (ks : List RM) (t : TA) (fs : List DE) (m : RM) : Prop :=
  ∀ (F : Hp) (σ : L2.St) (H : Hp) (env : En) (Q : List V → Hp → Prop), Rel X.K H0 ks F σ H env → DoneL X.K X.mg E H0 F H m (eL fs env) Q → t σ H Q
structure PDL (X : Cx) (E : XK) (H0 : Hp) (ks : List RM) (es : List Expr) (fs : List DE) (m : RM) : Prop where
  ex : ∃ t, PA X es t ∧ RdgL X E H0 ks t fs m
variable {es : List Expr} {fs : List DE}
theorem pdl_nil (hm : m = .B ∨ m = .new := by first | exact .inl rfl | exact .inr rfl) : PDL X E H0 ks [] [] m := by
  refine ⟨_, pa_nil, fun F σ H env Q R h => ?_⟩
  refine h F [] H (Ext.refl R.eF) ?_
  rcases hm with z | z
  · subst z; exact DtAll.nil
  · subst z; exact DpAll.nil
theorem lok_mono {K : PySem.W.Frag} {H0 F H F' H' : Hp} {vs : List V} {ds : List D} (e : Ext F H F' H') (h : LOk K H0 F H m vs ds) : LOk K H0 F' H' m vs ds := by
  cases m with
  | B => exact dta_mono e.hh h
  | new => exact dpa_mono (nw_mono e.ff) h
  | _ => exact h.elim
theorem GotL.mono {K : PySem.W.Frag} {H0 F H F1 H1 : Hp} {ds : List D} {Q : List V → Hp → Prop} (e : Ext F H F1 H1) (g : GotL K H0 F H m ds Q) : GotL K H0 F1 H1 m ds Q := fun F' vs H' x r => g F' vs H' (e.trans x) r
theorem DoneL.mono {K : PySem.W.Frag} {mg : Str → Option Value} {F1 H1 : Hp} {r : Rs (List D)} {Q : List V → Hp → Prop} (e : Ext F H F1 H1) (g : DoneL K mg E H0 F H m r Q) : DoneL K mg E H0 F1 H1 m r Q := by
  cases r with
  | ok d => exact GotL.mono e g
  | ex c => exact g
  | no => exact g
theorem pdl_cons (ha : PD X E H0 ks a fa m) (hr : PDL X E H0 ks es fs m) (hm : m = .B ∨ m = .new := by first | exact .inl rfl | exact .inr rfl) (hs : starEach (a :: es) X.env = (false, eval a X.env) :: starEach es X.env := by rfl) : PDL X E H0 ks (a :: es) (fa :: fs) m := by
  obtain ⟨ta, pa, qa⟩ := ha.ex
  obtain ⟨tr, pr, qr⟩ := hr.ex
  refine ⟨_, pa_cons pa pr hs, fun F σ H env Q R h => ?_⟩
  show ta σ H fun x H1 => tr σ H1 fun xs H2 => Q (x :: xs) H2
  have h : DoneL X.K X.mg E H0 F H m ((fa env).bind fun x => (eL fs env).bind fun xs => .ok (x :: xs)) Q := h
  refine qa F σ H env _ R ?_
  cases hf : fa env with
  | ex c => rw [hf] at h; exact h
  | no => rw [hf] at h; exact h
  | ok d =>
    rw [hf] at h
    intro F1 x H1 A e1 r1 n1
    have h : DoneL X.K X.mg E H0 F H m ((eL fs env).bind fun xs => .ok (d :: xs)) Q := h
    refine qr F1 σ H1 env _ (R.ext e1) ?_
    cases hl : eL fs env with
    | ex c => rw [hl] at h; exact h
    | no => rw [hl] at h; exact h
    | ok ds =>
      rw [hl] at h
      intro F2 vs H2 e2 l2
      refine h F2 (x :: vs) H2 (e1.trans e2) ?_
      have r2 := r1.mono e2
      rcases hm with z | z
      · subst z; exact DtAll.cons r2.1 l2
      · subst z; exact DpAll.cons r2.1 l2
theorem eL_len : ∀ {fs : List DE} {env : En} {ds : List D}, eL fs env = .ok ds → ds.length = fs.length
  | [], _, _, h => by cases h; rfl
  | f :: r, env, ds, h => by
    have h' : ((f env).bind fun x => (eL r env).bind fun xs => .ok (x :: xs)) = Rs.ok ds := h
    cases hf : f env with
    | ex c => rw [hf] at h'; cases h'
    | no => rw [hf] at h'; cases h'
    | ok d =>
      rw [hf] at h'
      have h2 : ((eL r env).bind fun xs => .ok (d :: xs)) = Rs.ok ds := h'
      cases hl : eL r env with
      | ex c => rw [hl] at h2; cases h2
      | no => rw [hl] at h2; cases h2
      | ok es =>
        rw [hl] at h2
        cases h2
        rw [List.length_cons, List.length_cons, eL_len hl]
theorem small_le {n : Nat} (h : n ≤ 1000) : n ≤ sizeLine := Nat.le_trans h (by decide)
theorem pd_lst (h : PDL X E H0 ks es fs .new) (hz : fs.length ≤ 1000 := by decide) : PD X E H0 ks (.List es pos) (eLst fs) .o1 := by
  obtain ⟨t, p, q⟩ := h.ex
  refine ⟨_, pe_lst p, fun F σ H env Q R h => ?_⟩
  refine q F σ H env _ R ?_
  have h : Done X.K X.mg E H0 F H .o1 ((eL fs env).bind fun xs => .ok (.list xs)) Q := h
  cases hl : eL fs env with
  | ex c => rw [hl] at h; exact h
  | no => rw [hl] at h; exact h
  | ok ds =>
    rw [hl] at h
    intro F1 vs H1 e1 l1
    refine ⟨by rw [dpa_len l1, eL_len hl]; exact small_le hz, fun p hp => ?_⟩
    exact Got.lst (Got.mono e1 h) e1.fh hp l1
theorem pd_tup {x1} (h : PDL X E H0 ks es fs .new) (hz : fs.length ≤ 1000 := by decide) : PD X E H0 ks (.Tuple es x1 pos) (eTup fs) .new := by
  obtain ⟨t, p, q⟩ := h.ex
  refine ⟨_, pe_tup p, fun F σ H env Q R h => ?_⟩
  refine q F σ H env _ R ?_
  have h : Done X.K X.mg E H0 F H .new ((eL fs env).bind fun xs => .ok (.tuple xs)) Q := h
  cases hl : eL fs env with
  | ex c => rw [hl] at h; exact h
  | no => rw [hl] at h; exact h
  | ok ds =>
    rw [hl] at h
    intro F1 vs H1 e1 l1
    refine ⟨by rw [dpa_len l1, eL_len hl]; exact small_le hz, fun p hp => ?_⟩
    exact Got.tup (R.e0.trans e1.ff) (Got.mono e1 h) e1.fh hp l1

/-! ### the promise of a def -/
def Pr (K : PySem.W.Frag) (mg : Str → Option Value) (n : Nat) (m : RM) (g : List D → Rs D) : Sp := fun vs H Q E => ∃ ds, DtAll K H vs ds ∧ ds.length = n ∧ match g ds with
  | .ok d => ∀ F' v H' A, Same H F' → Same F' H' → ResOk K H F' H' m v d A → Q v H'
  | .ex c => ∀ C, mg c.nm = some (.ref C) → ∀ H', Same H H' → E (.ref C) none H'
  | .no => False
theorem Pr.len {K : PySem.W.Frag} {mg : Str → Option Value} {n : Nat} {g : List D → Rs D} : ∀ vs H Q E, Pr K mg n m g vs H Q E → vs.length = n := fun vs H Q E ⟨ds, h, e, _⟩ => (dta_len h).trans e
/-- what a callee has made, in its caller's books -/
def joinF (F H1 Fc : Hp) : Hp := fun a => match F a with
  | some o => some o
  | none => nw H1 Fc a
theorem joinF_left {F H1 Fc : Hp} : Same F (joinF F H1 Fc) := fun a o e => by
  unfold joinF
  rw [e]
theorem joinF_right {F H1 Fc H0 : Hp} (h0 : Same H0 F) (hf : Same F H1) : Same (nw H1 Fc) (nw H0 (joinF F H1 Fc)) := fun a o e => by
  have n1 : H1 a = none := nw_old e
  have nf := hf.free n1
  refine nw_at (h0.free nf) ?_ (nw_pl e)
  unfold joinF
  rw [nf]
  exact e
theorem joinF_none {F H1 Fc : Hp} {a : Addr} (h1 : Same F H1) (h2 : Same H1 Fc) (n : Fc a = none) : joinF F H1 Fc a = none := by
  have q : joinF F H1 Fc a = nw H1 Fc a := by
    unfold joinF
    rw [h1.free (h2.free n)]
  rw [q]
  cases z : nw H1 Fc a with
  | none => rfl
  | some o => rw [nw_le _ _ z] at n; cases n
theorem joinF_ext {F H1 Fc H' : Hp} (hf : Same F H1) (h1 : Same H1 Fc) (h2 : Same Fc H') : Ext F H1 (joinF F H1 Fc) H' := by
  refine ⟨joinF_left, h1.trans h2, fun a o e => ?_, fun a o e => ?_⟩
  · unfold joinF at e
    cases q : F a with
    | some x =>
      rw [q] at e
      have e' : some x = some o := e
      rw [← e']
      exact h2 _ _ (h1 _ _ (hf _ _ q))
    | none =>
      rw [q] at e
      exact h2 _ _ (nw_le _ _ e)
  · unfold joinF at e
    cases q : F a with
    | some x =>
      rw [q] at e
      have e' : some x = some o := e
      exact .inl e'
    | none =>
      rw [q] at e
      have e : nw H1 Fc a = some o := e
      exact .inr (nw_old e)
theorem joinF_res {K : PySem.W.Frag} {H0 F H1 Fc H' : Hp} {v : V} {d : D} {A : List Addr} (h0 : Same H0 F) (hf : Same F H1) (h1 : Same H1 Fc) (hm : m = .new ∨ m = .o1 ∨ m = .o2 ∨ m = .dk) (r : ResOk K H1 Fc H' m v d A) :
    ResOk K H0 (joinF F H1 Fc) H' m v d A ∧ ∀ a ∈ A, H1 a = none := by
  have ow := r.own
  refine ⟨?_, fun a ha => h1.free (ow a ha).2⟩
  rcases hm with z | z | z | z
  · subst z; exact ⟨dp_mono (joinF_right h0 hf) r.1, r.2⟩
  · subst z
    obtain ⟨p, xs, ds, rfl, rfl, a, b, f, rfl⟩ := r
    exact ⟨p, xs, ds, rfl, rfl, a, dpa_mono (joinF_right h0 hf) b, joinF_none hf h1 f, rfl⟩
  · subst z
    obtain ⟨p, qs, dss, rfl, rfl, a, b, rfl, n, f⟩ := r
    exact ⟨p, qs, dss, rfl, rfl, a, rows_mono (joinF_right h0 hf) (Same.refl _) b, rfl, n, fun x hx => joinF_none hf h1 (f x hx)⟩
  · subst z
    rcases r with ⟨p, ns, rfl, rfl, a, f, rfl⟩ | r
    · exact .inl ⟨p, ns, rfl, rfl, a, joinF_none hf h1 f, rfl⟩
    · exact .inr r
/-- a call of a def that keeps such a promise -/
theorem pd_call {CX : CXT} {k : Nat} {fn : Addr} {fd : FuncData} {ps : List Str} {x : Str} {p : Pos} {n : Nat} {g : List D → Rs D} (G : FnOk X.prog X.w X.K X.mg X.base CX k fn fd ps (Pr X.K X.mg n m g)) (hr : Room k X.A) (hg : Gl X x) (hm : X.mg x = some (.ref fn)) (hk : PySem.W.keepIn X.K (.ref fn) = true) (hb : Binds X.K fd ps []) (hx : Passes CX X E)
    (ha : PDL X E H0 ks (e :: es) fs .B) (hn : fs.length = n := by rfl) (hmm : m = .new ∨ m = .o1 ∨ m = .o2 ∨ m = .dk := by first | exact .inl rfl | exact .inr (.inl rfl) | exact .inr (.inr (.inl rfl)) | exact .inr (.inr (.inr rfl)))
    (hdb : (x == ("__debug__" : Str)) = false := by decide) (he : starEach (e :: es) X.env = (false, eval e X.env) :: starEach es X.env := by rfl) (hpl : (backTo pos (starEach es X.env)).any (·.1) = false := by rfl) :
    PD X E H0 ks (.Call (.Name x p) (e :: es) [] pos) (eCall g fs) m := by
  obtain ⟨t, pt, q⟩ := ha.ex
  refine ⟨_, pe_call G hr hg hm hk hb .nil hx pt hdb he hpl, fun F σ H env Q R h => ?_⟩
  refine q F σ H env _ R ?_
  have h : Done X.K X.mg E H0 F H m ((eL fs env).bind g) Q := h
  cases hl : eL fs env with
  | ex c => rw [hl] at h; exact h
  | no => rw [hl] at h; exact h
  | ok ds =>
    rw [hl] at h
    intro F1 vs H1 e1 l1
    have h : Done X.K X.mg E H0 F H m (g ds) Q := h
    have R1 := R.ext e1
    refine ⟨ds, by rw [List.append_nil]; exact l1, (eL_len hl).trans hn, ?_⟩
    cases hgd : g ds with
    | ok d =>
      rw [hgd] at h
      intro F' v H' A s1 s2 r
      obtain ⟨r1, n1⟩ := joinF_res R1.e0 R1.eF s1 hmm r
      exact Got.mono e1 h (joinF F1 H1 F') v H' A (joinF_ext R1.eF s1 s2) r1 n1
    | ex c =>
      rw [hgd] at h
      exact fun C hC H' s => h C hC H' ((R1.e0.trans R1.eF).trans s)
    | no => rw [hgd] at h; exact h
end
end Tf
namespace Tf
open PySem PySem.Spec PyProof.Rows L2
section
variable {X : Cx} {E : XK} {H0 : Hp} {ks : List RM} {e a b c : Expr} {f fa fb fc : DE} {m ma mb mc : RM} {ta tb tc : TE} {F H : Hp} {σ : L2.St} {env : En} {Q : VK} {pos : Pos}

/-! ### list + list -/
def rCatQ (K : PySem.W.Frag) : R2 := fun x y H Q => ∃ l b xs zs, x = .ref l ∧ y = .ref b ∧ SqL K H l xs ∧ SqL K H b zs ∧ xs.length + zs.length ≤ sizeLine ∧ ∀ p, H p = none → Q (.ref p) (upd H p (.lst (xs ++ zs)))
theorem op_catQ : OpR X (binaryOp .Add) (rCatQ X.K) := by
  intro pins s σ H x y v u Q I rx ry h
  obtain ⟨l, b, xs, zs, rfl, rfl, hH, hB, hz, q⟩ := h
  cases rx
  cases ry
  obtain ⟨its, r, pl, z⟩ := I.list hH
  obtain ⟨its2, r2, pl2, z2⟩ := I.list hB
  have hl := r.length
  have hl2 := r2.length
  obtain ⟨⟨cls, dd, data, sl⟩, ho, hc, n, hd⟩ := id pl.isList
  obtain ⟨⟨cls2, dd2, data2, sl2⟩, ho2, hc2, n2, hd2⟩ := id pl2.isList
  simp only at hc hd hc2 hd2
  subst hc hd hc2 hd2
  have ea : its.toArray ++ its2.toArray = (its ++ its2).toArray := by simp
  refine concat_meets ⟨_, ho, rfl⟩ ⟨_, ho2, rfl⟩ noFill_list_add seq_list_add PySem.F.slot_list_add PySem.F.entry_list_add (PySem.F.args_list_add_2 _ _)
    (list_addW l b its.toArray its2.toArray n n2 dd dd2 sl sl2 (by rw [List.size_toArray, List.size_toArray]; omega)) ⟨ho, ho2, ?_⟩
  rw [ea]
  exact ⟨.ref _, _, I.lnew (t' := s.toks) (r.append r2) (by rw [List.length_append]; omega), rfl, q _ I.fresh⟩
/-- two frozen lists -/
def oCat : D → D → Rs D
  | .list x, .list y => if lim (x.length + y.length) then .ok (.list (x ++ y)) else .no
  | _, _ => .no
/-- two lists of things that ask no heap -/
def oCatF : D → D → Rs D
  | .list x, .list y => if lim (x.length + y.length) && (x.all flat && y.all flat) then .ok (.list (x ++ y)) else .no
  | _, _ => .no
theorem dp_list {K : PySem.W.Frag} {v : V} {ds : List D} (h : Dp K H v (.list ds)) : ∃ a xs, v = .ref a ∧ SqL K H a xs ∧ DpAll K H xs ds := dt_list (.inl h)
theorem pd_cat (ha : PD X E H0 ks a fa .new) (hb : PD X E H0 ks b fb .new) : PD X E H0 ks (.BinOp a .Add b pos) (e2 oCat fa fb) .o1 := by
  obtain ⟨ta, pa, qa⟩ := ha.ex
  obtain ⟨tb, pb, qb⟩ := hb.ex
  refine ⟨_, pe_op op_catQ pa pb, fun F σ H env Q R h => ?_⟩
  refine seq1 (k := fun x H1 => tb σ H1 fun y H2 => rCatQ X.K x y H2 Q) qa R h fun dx F1 x H1 A1 _ e1 r1 _ R1 h1 => seq1 (k := fun y H2 => rCatQ X.K x y H2 Q) qb R1 h1 fun dy F2 y H2 A2 _ e2 r2 _ R2 h2 => ?_
  have r1 := r1.mono e2
  cases dx with
  | list xs =>
    cases dy with
    | list ys =>
      have h2 : Done X.K X.mg E H0 F2 H2 .o1 (if lim (xs.length + ys.length) = true then .ok (.list (xs ++ ys)) else .no) Q := h2
      by_cases z : lim (xs.length + ys.length) = true
      · rw [if_pos z] at h2
        obtain ⟨p, vs, rfl, s1, a1⟩ := dp_list r1.1
        obtain ⟨q, ws, rfl, s2, a2⟩ := dp_list r2.1
        refine ⟨p, q, vs, ws, rfl, rfl, sql_k (sql_mono (nw_le.trans R2.eF) s1), sql_k (sql_mono (nw_le.trans R2.eF) s2), by rw [dpa_len a1, dpa_len a2]; exact lim_le z, fun l hl => ?_⟩
        exact Got.lst h2 R2.eF hl (dpa_app a1 a2)
      · rw [if_neg z] at h2; exact h2.elim
    | _ => exact h2.elim
  | _ => cases dy <;> exact h2.elim
theorem pd_catF (ha : PD X E H0 ks a fa ma) (hb : PD X E H0 ks b fb mb) : PD X E H0 ks (.BinOp a .Add b pos) (e2 oCatF fa fb) .o1 := by
  obtain ⟨ta, pa, qa⟩ := ha.ex
  obtain ⟨tb, pb, qb⟩ := hb.ex
  refine ⟨_, pe_op op_catQ pa pb, fun F σ H env Q R h => ?_⟩
  refine seq1 (k := fun x H1 => tb σ H1 fun y H2 => rCatQ X.K x y H2 Q) qa R h fun dx F1 x H1 A1 _ e1 r1 _ R1 h1 => seq1 (k := fun y H2 => rCatQ X.K x y H2 Q) qb R1 h1 fun dy F2 y H2 A2 _ e2 r2 _ R2 h2 => ?_
  have d1 := (r1.mono e2).dt R2.eF
  have d2 := r2.dt R2.eF
  cases dx with
  | list xs =>
    cases dy with
    | list ys =>
      have h2 : Done X.K X.mg E H0 F2 H2 .o1 (if (lim (xs.length + ys.length) && (xs.all flat && ys.all flat)) = true then .ok (.list (xs ++ ys)) else .no) Q := h2
      by_cases z : (lim (xs.length + ys.length) && (xs.all flat && ys.all flat)) = true
      · rw [if_pos z] at h2
        rw [Bool.and_eq_true, Bool.and_eq_true] at z
        obtain ⟨p, vs, rfl, s1, a1⟩ := dt_list d1
        obtain ⟨q, ws, rfl, s2, a2⟩ := dt_list d2
        refine ⟨p, q, vs, ws, rfl, rfl, s1, s2, by rw [dpa_len a1, dpa_len a2]; exact lim_le z.1, fun l hl => ?_⟩
        exact Got.lst h2 R2.eF hl (dpa_app (dpa_flat z.2.1 a1) (dpa_flat z.2.2 a2))
      · rw [if_neg z] at h2; exact h2.elim
    | _ => exact h2.elim
  | _ => cases dy <;> exact h2.elim

/-! ### items -/
theorem ixN_lt {n : Nat} {i : Int} {j : Nat} (h : ixN n i = some j) : j < n := (ixN_seq h).2.1
theorem dpa_atI {K : PySem.W.Frag} {vs : List V} {ds : List D} {i : Int} {d : D} (h : DpAll K H vs ds) (e : atI ds i = some d) : ∃ v, atI vs i = some v ∧ Dp K H v d := by
  unfold atI at e ⊢
  rw [dpa_len h]
  cases q : ixN ds.length i with
  | none => rw [q] at e; cases e
  | some j =>
    rw [q] at e
    exact dpa_get h e
/-- where a thing that is borrowed, frozen, frozen here lives -/
def reg (H0 F H : Hp) : RM → Hp
  | .B => H
  | .any => F
  | _ => nw H0 F
def RM.rd : RM → Bool
  | .B => true
  | .any => true
  | .new => true
  | _ => false
theorem reg_le {H0 F H : Hp} (f : Same F H) : Same (reg H0 F H m) H := by
  cases m with
  | B => exact Same.refl _
  | any => exact f
  | _ => exact nw_le.trans f
theorem reg_of {K : PySem.W.Frag} {H0 F H : Hp} {v : V} {d : D} {A : List Addr} (hm : m.rd = true) (h : ResOk K H0 F H m v d A) (n : nd d = true) : Dp (fr K m) (reg H0 F H m) v d := by
  cases m with
  | B => exact h.1.dp n
  | any => exact h.1.dp n
  | new => exact h.1
  | _ => exact nomatch hm
theorem reg_res {K : PySem.W.Frag} {H0 F H : Hp} {v : V} {d : D} (hm : m.rd = true) (h : Dp (fr K m) (reg H0 F H m) v d) : ResOk K H0 F H m v d [] := by
  cases m with
  | B => exact ⟨.inl h, rfl⟩
  | any => exact ⟨.inl h, rfl⟩
  | new => exact ⟨h, rfl⟩
  | _ => exact nomatch hm
theorem Got.rd {K : PySem.W.Frag} {H0 F H : Hp} {d : D} {v : V} {Q : VK} (hm : m.rd = true) (g : Got K H0 F H m d Q) (f : Same F H) (h : Dp (fr K m) (reg H0 F H m) v d) : Q v H :=
  g F v H [] (Ext.refl f) (reg_res hm h) (fun a ha => nomatch ha)
theorem oIx_nd {dx dy d : D} (e : oIx dx dy = .ok d) : nd dx = true := by
  cases dx with
  | dict k => cases dy <;> cases e
  | _ => rfl
theorem oIx_ex {dx dy : D} {k : EC} : oIx dx dy ≠ .ex k := by
  intro h
  unfold oIx at h
  split at h <;> (try split at h) <;> (try split at h) <;> cases h
/-- an item of a list, a tuple, a text, by any index -/
theorem rIx_of {K : PySem.W.Frag} {m : RM} {G H : Hp} {x y : V} {dx dy d : D} {Q : VK} (sg : Same G H) (hx : Dp (fr K m) G x dx) (hy : Dt K H y dy) (e : oIx dx dy = .ok d) (h : ∀ v, Dp (fr K m) G v d → Q v H) : rIx K x y H Q := by
  cases dy with
  | int i =>
    cases dx with
    | list xs =>
      have e : (match atI xs i with | some d => Rs.ok d | none => Rs.no) = .ok d := e
      cases q : atI xs i with
      | none => rw [q] at e; cases e
      | some d' =>
        rw [q] at e
        cases e
        obtain ⟨a, vs, rfl, s, al⟩ := dp_list hx
        obtain ⟨v, ev, hv⟩ := dpa_atI al q
        exact .inl ⟨a, vs, i, v, rfl, dt_int hy, sql_fr (sql_mono sg s), ev, h v hv⟩
    | tuple xs =>
      have e : (match atI xs i with | some d => Rs.ok d | none => Rs.no) = .ok d := e
      cases q : atI xs i with
      | none => rw [q] at e; cases e
      | some d' =>
        rw [q] at e
        cases e
        obtain ⟨a, vs, rfl, s, al⟩ := dt_tup (.inl hx)
        obtain ⟨v, ev, hv⟩ := dpa_atI al q
        exact .inr (.inl ⟨a, vs, i, v, rfl, dt_int hy, sqt_fr (sqt_mono sg s), ev, h v hv⟩)
    | str z =>
      have e : (if lim z.length = true then (match atI z.cps.toList i with | some c => Rs.ok (PyData.str ⟨#[c]⟩) | none => Rs.no) else .no) = .ok d := e
      by_cases l : lim z.length = true
      · rw [if_pos l] at e
        cases q : atI z.cps.toList i with
        | none => rw [q] at e; cases e
        | some c =>
          rw [q] at e
          cases e
          exact .inr (.inr ⟨z, i, c, dt_str (.inl hx), dt_int hy, lim_le l, q, h _ (.str _)⟩)
      · rw [if_neg l] at e; cases e
    | _ => cases e
  | _ => cases dx <;> cases e
theorem pd_ix (ha : PD X E H0 ks a fa m) (hb : PD X E H0 ks b fb mb) (hs : PlainIx b := by exact fun _ _ => rfl) (hm : m.rd = true := by rfl) : PD X E H0 ks (.Subscript a b pos) (e2 oIx fa fb) m := by
  obtain ⟨ta, pa, qa⟩ := ha.ex
  obtain ⟨tb, pb, qb⟩ := hb.ex
  refine ⟨_, pe_ix ix_seq pa pb hs, fun F σ H env Q R h => ?_⟩
  refine seq1 (k := fun x H1 => tb σ H1 fun y H2 => rIx X.K x y H2 Q) qa R h fun dx F1 x H1 A1 _ e1 r1 _ R1 h1 => seq1 (k := fun y H2 => rIx X.K x y H2 Q) qb R1 h1 fun dy F2 y H2 A2 _ e2 r2 _ R2 h2 => ?_
  cases q : oIx dx dy with
  | ex k => exact absurd q oIx_ex
  | no => rw [q] at h2; exact h2.elim
  | ok d =>
    rw [q] at h2
    exact rIx_of (reg_le R2.eF) (reg_of hm (r1.mono e2) (oIx_nd q)) (r2.dt R2.eF) q fun v hv => Got.rd hm h2 R2.eF hv
/-- an item of the list that the slot i alone holds -/
theorem pd_ixV {i : Nat} (p : PE X a (tVar i)) (hb : PD X E H0 ks b fb mb) (hk : kAt ks i = .o1 := by rfl) (hs : PlainIx b := by exact fun _ _ => rfl) : PD X E H0 ks (.Subscript a b pos) (e2 oIx (eV i) fb) .new := by
  obtain ⟨tb, pb, qb⟩ := hb.ex
  refine ⟨_, pe_ix ix_seq p pb hs, fun F σ H env Q R h => ?_⟩
  have h : Done X.K X.mg E H0 F H .new ((eV i env).bind fun x => (fb env).bind fun y => oIx x y) Q := h
  cases hf : eV i env with
  | ex k => exact (eV_ex hf).elim
  | no => rw [hf] at h; exact h.elim
  | ok dx =>
    rw [hf] at h
    obtain ⟨As, h1, _⟩ := R.sl
    obtain ⟨v, ev, r⟩ := h1 i dx (eV_some hf)
    rw [hk] at r
    refine ⟨v, ev, ?_⟩
    refine seq1 (k := fun y H2 => rIx X.K v y H2 Q) qb R (show Done X.K X.mg E H0 F H .new ((fb env).bind _) Q from h) fun dy F2 y H2 A2 _ e2 r2 _ R2 h2 => ?_
    have r := r.mono e2
    obtain ⟨p, xs, ds, rfl, rfl, a, al, _, _⟩ := r
    cases q : oIx (.list ds) dy with
    | ex k => exact absurd q oIx_ex
    | no => rw [q] at h2; exact h2.elim
    | ok d =>
      rw [q] at h2
      -- the root lies in the heap, its items in what is frozen here
      cases dy with
      | int j =>
        have q : (match atI ds j with | some d => Rs.ok d | none => Rs.no) = .ok d := q
        cases q2 : atI ds j with
        | none => rw [q2] at q; cases q
        | some d' =>
          rw [q2] at q
          cases q
          obtain ⟨w, ew, hw⟩ := dpa_atI al q2
          exact .inl ⟨p, xs, j, w, rfl, dt_int (r2.dt R2.eF), SqL.of a, ew, Got.rd (m := .new) rfl h2 R2.eF hw⟩
      | _ => cases q

/-! ### built-ins of one argument -/
def CallD (X : Cx) (fv : Value) (g : D → Rs D) (m : RM) : Prop :=
  ∃ r, CallR X fv r ∧ ∀ (E : XK) (H0 F H : Hp) (x : V) (dx : D) (Q : VK), Same H0 F → Same F H → Dt X.K H x dx → Done X.K X.mg E H0 F H m (g dx) Q → r [x] H Q
theorem rdgC {r : List V → Hp → VK → Prop} {g : D → Rs D} (hr : ∀ (E : XK) (H0 F H : Hp) (x : V) (dx : D) (Q : VK), Same H0 F → Same F H → Dt X.K H x dx → Done X.K X.mg E H0 F H m (g dx) Q → r [x] H Q) (qa : Rdg X E H0 ks ta fa ma) :
    Rdg X E H0 ks (tCB r (tCons ta tNil)) (e1 g fa) m := fun F σ H env Q R h =>
  seq1 (k := fun x H1 => r [x] H1 Q) qa R h fun dx F1 x H1 A1 _ e1 r1 _ R1 h1 => hr E H0 F1 H1 x dx Q R1.e0 R1.eF (r1.dt R1.eF) h1
variable {x : Str} {p : Pos}
theorem pd_b1 {id : String} {g : D → Rs D} (hc : CallD X (.builtin id) g m) (ha : PD X E H0 ks a fa ma) (hm : X.mg x = none) (hv : bootBuiltins x = some (.builtin id)) (hg : Gl X x := by rfl) (hn : x ≠ "__name__" := by decide) (hdb : (x == ("__debug__" : Str)) = false := by decide)
    (he : starEach [a] X.env = (false, eval a X.env) :: starEach [] X.env := by rfl) (hpl : (backTo pos (starEach [] X.env)).any (·.1) = false := by rfl) : PD X E H0 ks (.Call (.Name x p) [a] [] pos) (e1 g fa) m := by
  obtain ⟨ta, pa, qa⟩ := ha.ex
  obtain ⟨r, ro, rq⟩ := hc
  exact ⟨_, pe_callB ro hg hm hv (pa_cons pa pa_nil he) hn hdb he hpl, rdgC rq qa⟩
theorem pd_t1 {T : String} {g : D → Rs D} (hc : CallD X (.type T) g m) (ha : PD X E H0 ks a fa ma) (hm : X.mg x = none) (hv : bootBuiltins x = some (.type T)) (hg : Gl X x := by rfl) (hn : x ≠ "__name__" := by decide) (hdb : (x == ("__debug__" : Str)) = false := by decide)
    (he : starEach [a] X.env = (false, eval a X.env) :: starEach [] X.env := by rfl) (hpl : (backTo pos (starEach [] X.env)).any (·.1) = false := by rfl) : PD X E H0 ks (.Call (.Name x p) [a] [] pos) (e1 g fa) m := by
  obtain ⟨ta, pa, qa⟩ := ha.ex
  obtain ⟨r, ro, rq⟩ := hc
  exact ⟨_, pe_callTy ro hg hm hv (pa_cons pa pa_nil he) hn hdb he hpl, rdgC rq qa⟩
theorem cd_len : CallD X (.builtin "len") oLen .new := by
  refine ⟨_, call_len, fun E H0 F H x dx Q h0 h1 hx h => ?_⟩
  cases dx with
  | list xs =>
    obtain ⟨a, vs, rfl, s, al⟩ := dt_list hx
    exact ⟨_, xs.length, rfl, .inl ⟨vs, s, (dpa_len al).symm⟩, Got.flat h h1 fun _ => .int _⟩
  | tuple xs =>
    obtain ⟨a, vs, rfl, s, al⟩ := dt_tup hx
    exact ⟨_, xs.length, rfl, .inr ⟨vs, s, (dpa_len al).symm⟩, Got.flat h h1 fun _ => .int _⟩
  | str z =>
    have h : Done X.K X.mg E H0 F H .new (if lim z.length = true then .ok (.int z.length) else .no) Q := h
    by_cases l : lim z.length = true
    · rw [if_pos l] at h
      obtain rfl := dt_str hx
      exact ⟨.str z, z.length, rfl, ⟨lim_le l, rfl⟩, Got.flat h h1 fun _ => .int _⟩
    · rw [if_neg l] at h; exact h.elim
  | _ => exact h.elim
theorem cd_min (hc : X.calm = true) : CallD X (.builtin "min") oMin .new := by
  refine ⟨_, cr_min hc, fun E H0 F H x dx Q h0 h1 hx h => ?_⟩
  cases dx with
  | list xs =>
    obtain ⟨a, vs, rfl, s, al⟩ := dt_list hx
    have h : Done X.K X.mg E H0 F H .new (match asInts xs with | some (n :: ns) => .ok (.int (ns.foldl min n)) | _ => .no) Q := h
    cases q : asInts xs with
    | none => rw [q] at h; exact h.elim
    | some ns =>
      rw [q] at h
      cases ns with
      | nil => exact h.elim
      | cons n ns =>
        obtain ⟨e1, e2⟩ := dpa_ints q al
        rw [e1] at s
        refine ⟨a, n :: ns, rfl, s, by simp, fun m hm hl => ?_⟩
        have e : m = ns.foldl min n := by
          have g1 : ∀ (l : List Int) (k : Int), l.foldl min k ≤ k ∧ (∀ y ∈ l, l.foldl min k ≤ y) ∧ (l.foldl min k = k ∨ l.foldl min k ∈ l) := by
            intro l
            induction l with
            | nil => intro k; exact ⟨Int.le_refl _, fun y hy => absurd hy (by simp), Or.inl rfl⟩
            | cons z r ih =>
              intro k
              obtain ⟨i1, i2, i3⟩ := ih (min k z)
              show r.foldl min (min k z) ≤ k ∧ (∀ y ∈ z :: r, r.foldl min (min k z) ≤ y) ∧ (r.foldl min (min k z) = k ∨ r.foldl min (min k z) ∈ z :: r)
              refine ⟨by omega, fun y hy => ?_, ?_⟩
              · rcases List.mem_cons.mp hy with e | e
                · subst e; omega
                · exact i2 y e
              · rcases i3 with e | e
                · rw [e]
                  by_cases w : k ≤ z
                  · left; omega
                  · right
                    have : min k z = z := by omega
                    rw [this]; simp
                · right; exact List.mem_cons_of_mem _ e
          obtain ⟨i1, i2, i3⟩ := g1 ns n
          have a1 : m ≤ ns.foldl min n := by
            rcases i3 with e | e
            · rw [e]; exact hl n (by simp)
            · exact hl _ (List.mem_cons_of_mem _ e)
          have a2 : ns.foldl min n ≤ m := by
            rcases List.mem_cons.mp hm with e | e
            · rw [e]; exact i1
            · exact i2 m e
          omega
        rw [e]
        exact Got.flat h h1 fun _ => .int _
  | _ => exact h.elim
theorem cd_max (hc : X.calm = true) : CallD X (.builtin "max") oMax .new := by
  refine ⟨_, cr_max hc, fun E H0 F H x dx Q h0 h1 hx h => ?_⟩
  cases dx with
  | list xs =>
    obtain ⟨a, vs, rfl, s, al⟩ := dt_list hx
    have h : Done X.K X.mg E H0 F H .new (match asInts xs with | some (n :: ns) => .ok (.int (ns.foldl max n)) | _ => .no) Q := h
    cases q : asInts xs with
    | none => rw [q] at h; exact h.elim
    | some ns =>
      rw [q] at h
      cases ns with
      | nil => exact h.elim
      | cons n ns =>
        obtain ⟨e1, e2⟩ := dpa_ints q al
        rw [e1] at s
        refine ⟨a, n :: ns, rfl, s, by simp, fun m hm hl => ?_⟩
        have e : m = ns.foldl max n := by
          have g1 : ∀ (l : List Int) (k : Int), k ≤ l.foldl max k ∧ (∀ y ∈ l, y ≤ l.foldl max k) ∧ (l.foldl max k = k ∨ l.foldl max k ∈ l) := by
            intro l
            induction l with
            | nil => intro k; exact ⟨Int.le_refl _, fun y hy => absurd hy (by simp), Or.inl rfl⟩
            | cons z r ih =>
              intro k
              obtain ⟨i1, i2, i3⟩ := ih (max k z)
              show k ≤ r.foldl max (max k z) ∧ (∀ y ∈ z :: r, y ≤ r.foldl max (max k z)) ∧ (r.foldl max (max k z) = k ∨ r.foldl max (max k z) ∈ z :: r)
              refine ⟨by omega, fun y hy => ?_, ?_⟩
              · rcases List.mem_cons.mp hy with e | e
                · subst e; omega
                · exact i2 y e
              · rcases i3 with e | e
                · rw [e]
                  by_cases w : z ≤ k
                  · left; omega
                  · right
                    have : max k z = z := by omega
                    rw [this]; simp
                · right; exact List.mem_cons_of_mem _ e
          obtain ⟨i1, i2, i3⟩ := g1 ns n
          have a1 : ns.foldl max n ≤ m := by
            rcases i3 with e | e
            · rw [e]; exact hl n (by simp)
            · exact hl _ (List.mem_cons_of_mem _ e)
          have a2 : m ≤ ns.foldl max n := by
            rcases List.mem_cons.mp hm with e | e
            · rw [e]; exact i1
            · exact i2 m e
          omega
        rw [e]
        exact Got.flat h h1 fun _ => .int _
  | _ => exact h.elim
theorem dpa_bools {K : PySem.W.Frag} {H : Hp} : ∀ {ds : List D} {vs : List V} {bs : List Bool}, asBools ds = some bs → DpAll K H vs ds → vs = bs.map V.bl
  | [], _, ns, e, .nil => by
      have q := Option.some.inj e
      subst q
      rfl
  | .bool i :: r, _, ns, e, .cons h t => by
      have e' : (asBools r).map (i :: ·) = some ns := e
      cases q : asBools r with
      | none => rw [q] at e'; cases e'
      | some ms =>
        rw [q] at e'
        have z := Option.some.inj e'
        subst z
        have a := dpa_bools q t
        cases h
        rw [a]; rfl
  | .none :: _, _, _, e, _ => nomatch e
  | .int _ :: _, _, _, e, _ => nomatch e
  | .str _ :: _, _, _, e, _ => nomatch e
  | .list _ :: _, _, _, e, _ => nomatch e
  | .tuple _ :: _, _, _, e, _ => nomatch e
  | .dict _ :: _, _, _, e, _ => nomatch e
theorem cd_all (hc : X.calm = true) : CallD X (.builtin "all") oAll .new := by
  refine ⟨_, cr_all hc, fun E H0 F H x dx Q h0 h1 hx h => ?_⟩
  cases dx with
  | list xs =>
    obtain ⟨a, vs, rfl, s, al⟩ := dt_list hx
    have h : Done X.K X.mg E H0 F H .new (match asBools xs with | some bs => .ok (.bool (bs.all id)) | none => .no) Q := h
    cases q : asBools xs with
    | none => rw [q] at h; exact h.elim
    | some bs =>
      rw [q] at h
      rw [dpa_bools q al] at s
      exact ⟨a, bs, rfl, s, Got.flat h h1 fun _ => .bl _⟩
  | _ => exact h.elim
/-- list(a list), its items asking no heap -/
def oListF : D → Rs D
  | .list xs => if xs.all flat then .ok (.list xs) else .no
  | .tuple xs => if xs.all flat then .ok (.list xs) else .no
  | _ => .no
theorem cd_listF : CallD X (.type "list") oListF .o1 := by
  refine ⟨_, call_list_of, fun E H0 F H x dx Q h0 h1 hx h => ?_⟩
  cases dx with
  | list xs =>
    obtain ⟨a, vs, rfl, s, al⟩ := dt_list hx
    have h : Done X.K X.mg E H0 F H .o1 (if xs.all flat = true then .ok (.list xs) else .no) Q := h
    by_cases z : xs.all flat = true
    · rw [if_pos z] at h
      exact ⟨a, vs, rfl, .inl s, fun l hl => Got.lst h h1 hl (dpa_flat z al)⟩
    · rw [if_neg z] at h; exact h.elim
  | tuple xs =>
    obtain ⟨a, vs, rfl, s, al⟩ := dt_tup hx
    have h : Done X.K X.mg E H0 F H .o1 (if xs.all flat = true then .ok (.list xs) else .no) Q := h
    by_cases z : xs.all flat = true
    · rw [if_pos z] at h
      exact ⟨a, vs, rfl, .inr s, fun l hl => Got.lst h h1 hl (dpa_flat z al)⟩
    · rw [if_neg z] at h; exact h.elim
  | _ => exact h.elim
def oTupF : D → Rs D
  | .list xs => if xs.all flat then .ok (.tuple xs) else .no
  | _ => .no
theorem cd_tupF : CallD X (.type "tuple") oTupF .new := by
  refine ⟨_, call_tuple_of, fun E H0 F H x dx Q h0 h1 hx h => ?_⟩
  cases dx with
  | list xs =>
    obtain ⟨a, vs, rfl, s, al⟩ := dt_list hx
    have h : Done X.K X.mg E H0 F H .new (if xs.all flat = true then .ok (.tuple xs) else .no) Q := h
    by_cases z : xs.all flat = true
    · rw [if_pos z] at h
      exact ⟨a, vs, rfl, .inl ⟨s, fun l hl => Got.tup h0 h h1 hl (dpa_flat z al)⟩⟩
    · rw [if_neg z] at h; exact h.elim
  | _ => exact h.elim
/-- str(a whole number), int(a truth value) -/
def oStr : D → Rs D
  | .int i => if decide (i.natAbs < 1000000) then .ok (.str (toString i)) else .no
  | _ => .no
theorem cd_str : CallD X (.type "str") oStr .new := by
  refine ⟨_, call_str_int, fun E H0 F H x dx Q h0 h1 hx h => ?_⟩
  cases dx with
  | int i =>
    have h : Done X.K X.mg E H0 F H .new (if decide (i.natAbs < 1000000) = true then .ok (.str (toString i)) else .no) Q := h
    by_cases z : decide (i.natAbs < 1000000) = true
    · rw [if_pos z] at h
      have z := of_decide_eq_true z
      refine ⟨i, by rw [dt_int hx], ?_, Got.flat h h1 fun _ => .str _⟩
      by_cases w : i.natAbs = 0
      · rw [w]; decide
      · have q : i.natAbs.log2 < 20 := (Nat.log2_lt w).mpr (by omega)
        omega
    · rw [if_neg z] at h; exact h.elim
  | _ => exact h.elim
def oIntB : D → Rs D
  | .bool b => .ok (.int (if b then 1 else 0))
  | _ => .no
theorem cd_intB : CallD X (.type "int") oIntB .new := by
  refine ⟨_, call_int1, fun E H0 F H x dx Q h0 h1 hx h => ?_⟩
  cases dx with
  | bool b => exact .inr ⟨b, by rw [dt_bl hx], Got.flat h h1 fun _ => .int _⟩
  | _ => exact h.elim

/-! ### isinstance(e, T) -/
def tyN : D → String
  | .none => "NoneType"
  | .bool _ => "bool"
  | .int _ => "int"
  | .str _ => "str"
  | .list _ => "list"
  | .tuple _ => "tuple"
  | .dict _ => "dict"
theorem tyx_of {K : PySem.W.Frag} {H : Hp} {v : V} {d : D} (h : Dp K H v d) : TyX K H v (.type (tyN d)) := by
  cases h with
  | non => exact .base .non
  | bl b => exact .base (.bl b)
  | int i => exact .base (.int i)
  | str x => exact .base (.str x)
  | lst s a =>
    rcases s with (s | ⟨o, s⟩) | ⟨o, its, n, k1, k2, _⟩
    · exact .base (.lst s)
    · exact .base (.frz s)
    · exact .kList k1 k2
  | tup s a =>
    rcases s with (s | ⟨o, s⟩) | ⟨o, its, n, k1, k2, _⟩
    · exact .base (.tup s)
    · exact .fTuple s
    · exact .kTuple k1 k2
theorem pd_isi {T : Str} {Tn : String} {g : D → Rs D} (ha : PD X E H0 ks a fa ma) (hg : ∀ d r, g d = .ok r → nd d = true ∧ ∃ k, r = .bool k ∧ kitB (tyN d) Tn = some k) (hx : ∀ d k, g d ≠ .ex k) {q : Pos} (hmi : X.mg "isinstance" = none) (hmT : X.mg T = none) (hvT : bootBuiltins T = some (.type Tn))
    (hgi : Gl X "isinstance" := by rfl) (hgT : Gl X T := by rfl) (hnT : T ≠ "__name__" := by decide) (hdT : (T == ("__debug__" : Str)) = false := by decide)
    (h1 : starEach [a, .Name T q] X.env = (false, eval a X.env) :: starEach [.Name T q] X.env := by rfl) (h2 : starEach [Expr.Name T q] X.env = (false, eval (.Name T q) X.env) :: starEach [] X.env := by rfl) (h3 : (backTo pos (starEach [Expr.Name T q] X.env)).any (·.1) = false := by rfl) :
    PD X E H0 ks (.Call (.Name "isinstance" p) [a, .Name T q] [] pos) (e1 g fa) .new := by
  obtain ⟨ta, pa, qa⟩ := ha.ex
  have pT : PE X (.Name T q) (tC (.ty Tn)) := pe_bltn hgT hmT hvT rfl hnT hdT
  refine ⟨_, pe_callB call_isi hgi hmi (by decide +kernel) (pa_cons pa (pa_cons pT pa_nil h2) h1) (by decide) (by decide) h1 h3, fun F σ H env Q R h => ?_⟩
  refine seq1 (k := fun x H1 => rIsi X.K [x, .ty Tn] H1 Q) qa R h fun dx F1 x H1 A1 _ e1 r1 _ R1 h1 => ?_
  cases hd : g dx with
  | ex k => exact absurd hd (hx dx k)
  | no => rw [hd] at h1; exact h1.elim
  | ok r =>
    obtain ⟨n, k, rfl, hk⟩ := hg dx r hd
    rw [hd] at h1
    exact ⟨x, .ty Tn, .type (tyN dx), .type Tn, k, rfl, .ty Tn, tyx_of ((r1.dt R1.eF).dp n), kit_ty hk, Got.flat h1 R1.eF fun _ => .bl _⟩
theorem isInt_ok : ∀ d r, isInt d = .ok r → nd d = true ∧ ∃ k, r = .bool k ∧ kitB (tyN d) "int" = some k := by
  intro d r h
  cases d <;> cases h <;> exact ⟨rfl, _, rfl, by simp only [tyN]; decide +kernel⟩
theorem isBool_ok : ∀ d r, isBool d = .ok r → nd d = true ∧ ∃ k, r = .bool k ∧ kitB (tyN d) "bool" = some k := by
  intro d r h
  cases d <;> cases h <;> exact ⟨rfl, _, rfl, by simp only [tyN]; decide +kernel⟩
theorem isList_ok : ∀ d r, isList d = .ok r → nd d = true ∧ ∃ k, r = .bool k ∧ kitB (tyN d) "list" = some k := by
  intro d r h
  cases d <;> cases h <;> exact ⟨rfl, _, rfl, by simp only [tyN]; decide +kernel⟩
theorem isStr_ok : ∀ d r, isStr d = .ok r → nd d = true ∧ ∃ k, r = .bool k ∧ kitB (tyN d) "str" = some k := by
  intro d r h
  cases d <;> cases h <;> exact ⟨rfl, _, rfl, by simp only [tyN]; decide +kernel⟩
theorem isTup_ok : ∀ d r, isTup d = .ok r → nd d = true ∧ ∃ k, r = .bool k ∧ kitB (tyN d) "tuple" = some k := by
  intro d r h
  cases d <;> cases h <;> exact ⟨rfl, _, rfl, by simp only [tyN]; decide +kernel⟩
theorem isInt_ex : ∀ d k, isInt d ≠ .ex k := by intro d k h; cases d <;> cases h
theorem isBool_ex : ∀ d k, isBool d ≠ .ex k := by intro d k h; cases d <;> cases h
theorem isList_ex : ∀ d k, isList d ≠ .ex k := by intro d k h; cases d <;> cases h
theorem isStr_ex : ∀ d k, isStr d ≠ .ex k := by intro d k h; cases d <;> cases h
theorem isTup_ex : ∀ d k, isTup d ≠ .ex k := by intro d k h; cases d <;> cases h
end
end Tf
/-! set(a list of whole numbers), with its table's order told (the tuple's way, turned to lists) -/
namespace L2
open PySem PySem.Spec PyProof.Rows
section
variable {P : Program} {w : World} {A : Around} {E : Value → Shared → Prop} {s : Shared}
abbrev emptySet (w : World) : Obj := { cls := .type "set", dict := none, data := .set #[] 0 (.fresh 0 0 (!w.params.followText "set-order")) }
set_option maxRecDepth 100000 in
set_option maxHeartbeats 3200000 in
theorem setOfListI {l : Addr} {items : Array Value} (ns : List Int) {Q : Value → Shared → Prop} (hh : A.handled = none) (hl : s.heap.IsList l items) (hit : IntsAre items.toList ns) (hb : ns.length + 1 < scanBound)
    (h : ∀ (h' : Heap) (tk c : Nat), SetR w h' s.heap.objs.size (fun j => decide (j ∈ ns)) c → c ≤ ns.length → (∀ b o, s.heap.get? b = some o → h'.get? b = some o) → Q (.ref s.heap.objs.size) { s with heap := h', toks := tk }) :
    wpAny (model P w) A (call (.type "set") [.ref l]) Q E s := by
  have hisz : items.size = ns.length := by have q := IntsAre.length hit; rw [Array.length_toList] at q; exact q
  obtain ⟨c, tl, hmro⟩ := F.called_set.mro
  have hmade := F.called_set.made
  have hsub := F.called_set.sub
  refine wpAny_call (codeAny_of_tree ?_)
  show wpAny _ _ (callAny (.type "set") _) _ _ _
  refine wpAny_pure ⟨Code.quiet_builtin _ (by decide +kernel), codeAny_builtin F.entry_type_call ?_⟩
  rw [Around.under_plain (weight_type_call_type "set" [.ref l] []) rfl]
  have k1 := F.called_set.notType
  have k2 := F.called_set.canCreate
  have kt := F.typeCall_set_1 (.ref l)
  repeat (any_goals (first | assumption | wp_step))
  refine codeAny_mono (code_set_led1 (.ref l) (E := E) (Q₁ := fun obj s₁ => obj = .ref s.heap.objs.size ∧ s₁ = { s with heap := s.heap.push (emptySet w) }) ⟨rfl, rfl⟩) fun r s₁ hr => ?_
  cases r with
  | error e => exact hr
  | ok fl =>
    cases fl with
    | ret obj =>
      obtain ⟨rfl, rfl⟩ := hr
      have hS : (s.heap.push (emptySet w)).get? s.heap.objs.size = some (emptySet w) := Heap.get?_push_size _ rfl
      have hT : Shared.TypeIs { s with heap := s.heap.push (emptySet w) } (.ref s.heap.objs.size) "set" := ⟨_, hS, rfl⟩
      have hli := F.called_set.init.lookup
      have hbi := F.called_set.init.bind (.ref s.heap.objs.size)
      repeat (any_goals (first | assumption | wp_step))
      refine codeAny_mono (codeAny_call_builtin (R := wants (fun r s₂ => r = .none ∧ ∃ h' tk c, s₂ = { s with heap := h', toks := tk } ∧ SetR w h' s.heap.objs.size (fun j => decide (j ∈ ns)) c ∧ c ≤ ns.length ∧
        (∀ b o, s.heap.get? b = some o → h'.get? b = some o)) E) F.called_set.init.plain F.entry_set_init (check_set_init_1 hT ?_)) fun r₂ s₂ hr₂ => ?_
      · obtain ⟨⟨ocls, odict, odata, oslots⟩, hol, hcl, nl, hdl⟩ := hl
        simp only at hcl hdl
        subst hcl hdl
        have hol' : (s.heap.push (emptySet w)).get? l = some { cls := .type "list", dict := odict, data := .seq items nl, slots := oslots } := Heap.get?_push_of_some _ hol
        have s1 := F.sub_list_set
        have s2 := F.sub_list_frozenset
        have s3 : (Value.type "list" == Value.type "dict") = false := by decide
        have hl1 : (s.heap.push (emptySet w)).IsList l items := ⟨_, hol', rfl, nl, rfl⟩
        unfold Builtin.«set.__init__» noKeywords Builtin.Frozenset.updateFrom
        generalize hPI : pyIter = PI
        wp_walk
        subst hPI
        refine wpAny_pyIter_list hl1 (wpAny_bind (wpAny_runValue ?_))
        have hlS : l < s.heap.objs.size := Heap.lt_size hol
        have hh3 : A.in1.in1.in1.handled = none := by simp [hh]
        have hz1 : (s.heap.push (emptySet w)).objs.size = s.heap.objs.size + 1 := Heap.size_push ..
        have hneI : l ≠ (s.heap.push (emptySet w)).objs.size := by rw [hz1]; exact Nat.ne_of_lt (Nat.lt_succ_of_lt hlS)
        have hSf : s.heap.objs.size ∉ [(s.heap.push (emptySet w)).objs.size, l] := by
          rw [hz1]
          simp only [List.mem_cons, List.mem_singleton, List.not_mem_nil, or_false, not_or]
          exact ⟨Nat.ne_of_lt (Nat.lt_succ_self _), Nat.ne_of_gt hlS⟩
        have hval : ∀ (i : Nat) (v : Value), items[i]? = some v → ∃ k t, ns[i]? = some k ∧ v = .int k t := fun i v hv => by
          have hi : i < ns.length := by rw [← hisz]; exact (Array.getElem?_eq_some_iff.mp hv).1
          obtain ⟨t, e⟩ := PyProof.Rows.IntsAre.int_at hit i v (by rw [Array.getElem?_toList]; exact hv)
          exact ⟨ns[i], t, List.getElem?_eq_getElem hi, by rw [e, List.getD_eq_getElem?_getD, List.getElem?_eq_getElem hi] <;> rfl⟩
        refine set_update_ints ((Walks.list hh3 _ l hneI items).toS) s.heap.objs.size hSf ns hisz hb hval (items.size - 0) 0 _ (by omega) (Nat.zero_le _) ⟨⟨_, Heap.get?_push_size _ rfl, rfl, rfl⟩, (hl1.push _)⟩ ?hS0 ?hR
        case hS0 =>
          have hget : ((s.heap.push (emptySet w)).push { cls := .type "list_iterator", data := .fields #[.ref l, .int 0 0] }).get? s.heap.objs.size = some (emptySet w) := Heap.get?_push_of_some _ hS
          exact ⟨0, Nat.le_refl 0, setR_new_at hget⟩
        case hR =>
          intro s' c' hm hc' hS'
          obtain ⟨h', g2, d', tk', os'⟩ := s'
          have eg : g2 = s.gens := hm.gens
          have ed : d' = s.drawn := hm.drawn
          have eo : os' = s.os := hm.os
          subst eg ed eo
          show wpAny _ _ _ _ _ _
          refine wpAny_pure ?_
          show wpAny _ _ (ret Value.none) _ _ _
          rw [hisz] at hc'
          refine wpAny_pure ⟨rfl, h', tk', c', rfl, hS', hc', fun b o e => ?_⟩
          have hb0 : b < s.heap.objs.size := Heap.lt_size e
          refine hm.heap b o ?_ (Heap.get?_push_of_some _ (Heap.get?_push_of_some _ e))
          simp only [List.mem_cons, List.mem_singleton, List.not_mem_nil, or_false, not_or]
          exact ⟨Nat.ne_of_lt hb0, by rw [hz1]; exact Nat.ne_of_lt (Nat.lt_succ_of_lt hb0)⟩
      · cases r₂ with
        | error e => exact hr₂
        | ok fl₂ =>
          cases fl₂ with
          | ret r =>
            obtain ⟨rfl, h', tk, c', rfl, hS', hc', hk'⟩ := hr₂
            repeat (any_goals (first | assumption | wp_step))
            exact h _ _ _ hS' hc' hk'
          | _ => exact hr₂.elim
    | _ => exact hr.elim
end
/-- set(a list of whole numbers) -/
def rSetI (K : PySem.W.Frag) (w : World) : List V → Hp → VK → Prop := fun vs H Q => ∃ (a : Addr) (ns : List Int), vs = [.ref a] ∧ SqL K H a (ns.map V.int) ∧ ns.length ≤ 1000 ∧ ∀ p c, H p = none → c ≤ ns.length → (∃ l : List Int, l.Nodup ∧ (∀ k, k ∈ l ↔ k ∈ ns) ∧ l.length = c) → Q (.ref p) (upd H p (SetO w p (fun j => decide (j ∈ ns)) c))
theorem cr_setI {X : Cx} (hc : X.calm = true) : CallR X (.type "set") (rSetI X.K X.w) := by
  intro pins s σ H vs us Q I r h
  obtain ⟨a, ns, rfl, hs, hz, q⟩ := h
  obtain ⟨its, rv, hl, _⟩ := I.list hs
  rw [Vals.ref1 r]
  refine setOfListI ns (I.ok.hd hc) hl.isList (by simpa using rv.ints) (by unfold scanBound; omega) fun h' tk c new hle k => ?_
  have hn : H s.heap.objs.size = none := I.hok.fresh (Nat.le_refl _)
  refine ⟨.ref s.heap.objs.size, _, I.laid (t' := tk) k (Nat.le_refl _) (setO_new new), rfl, q _ c hn hle ?_⟩
  obtain ⟨o, es, ep, t, _, _, _, _, nd, mem, _, _, hn2, _⟩ := new
  exact ⟨es.toList.map keyOf, nd, fun k => by rw [← mem k]; simp, by rw [List.length_map, Array.length_toList]; exact hn2⟩
end L2
namespace Tf
open PySem PySem.Spec PyProof.Rows L2
section
variable {X : Cx} {E : XK} {H0 : Hp} {ks : List RM} {e a b c : Expr} {f fa fb fc : DE} {m ma mb mc : RM} {ta tb tc : TE} {F H : Hp} {σ : L2.St} {env : En} {Q : VK} {pos : Pos}
/-! ### sorted -/
theorem each_of {K : PySem.W.Frag} {G : Hp} : ∀ {xs : List V} {us : List Value} {ds : List D}, Vals xs us → DpAll K G xs ds → PySem.W.EachIs (fun u d => ∃ v, RelV v u ∧ Dp K G v d) us ds
  | _, _, _, .nil, .nil => .nil
  | _, _, _, .cons r t, .cons h q => .cons ⟨_, r, h⟩ (each_of t q)
theorem each_to {K : PySem.W.Frag} {G : Hp} : ∀ {us : List Value} {ds : List D}, PySem.W.EachIs (fun u d => ∃ v, RelV v u ∧ Dp K G v d) us ds → ∃ ys, Vals ys us ∧ DpAll K G ys ds
  | _, _, .nil => ⟨[], .nil, .nil⟩
  | _, _, .cons ⟨v, r, h⟩ t => by
    obtain ⟨ys, a, b⟩ := each_to t
    exact ⟨v :: ys, .cons r a, .cons h b⟩
theorem each_reads {pins : List (Addr × Obj)} {s : Shared} (I : Inv X pins σ H s) : ∀ {xs : List V} {us : List Value} {ds : List D}, Vals xs us → DpAll X.K H xs ds → PySem.W.EachIs (fun u d => ∃ as, Reads s.heap u (id d) as) us ds
  | _, _, _, .nil, .nil => .nil
  | _, _, _, .cons r t, .cons h q => .cons (Dp.reads I _ _ _ h r) (each_reads I t q)
def sortD (ds : List D) : List D := ds.mergeSort (PySem.W.dataLe false id)
def rSortD (K : PySem.W.Frag) (m : RM) : List V → Hp → VK → Prop := fun vs H Q => ∃ (G : Hp) (a : Addr) (xs : List V) (ds : List D), vs = [.ref a] ∧ Same G H ∧ SqL K H a xs ∧ DpAll (fr K m) G xs ds ∧ allAlike ds = true ∧ (ds.all tupCons || ds.all notNT) = true ∧ ds.length ≤ 100000 ∧
  (∀ d ∈ ds, d.depth ≤ 60) ∧ ∀ ys p, DpAll (fr K m) G ys (sortD ds) → ys.length = ds.length → H p = none → Q (.ref p) (upd H p (.lst ys))
theorem tupCons_ok {d : D} (h : tupCons d = true) : ∃ x r, d = .tuple (x :: r) := by
  unfold tupCons at h
  split at h
  · exact ⟨_, _, rfl⟩
  · cases h
theorem notNT_ok {d : D} (h : notNT d = true) : d ≠ .none ∧ ∀ xs, d ≠ .tuple xs := by
  refine ⟨fun q => ?_, fun xs q => ?_⟩ <;> (subst q; cases h)
theorem cr_sortD (hu : X.A.units + 64 < cLine) : CallR X (.builtin "sorted") (rSortD X.K m) := by
  intro pins s σ H vs us Q I r h
  obtain ⟨G, a, xs, ds, rfl, sg, hs, al, ha, hk, hz, hd, q⟩ := h
  obtain ⟨its, rv, hl, _⟩ := I.list hs
  rw [Vals.ref1 r]
  have el := dpa_len al
  refine PySem.W.sorted_data (bs := ds) (enc := id) hl.isList (each_of rv al) (each_reads I rv (dpa_mono sg (dpa_fr al))) ?_ ?_ (Nat.le_trans hz (by decide)) (fun d hm => ?_) fun out hol ho => ?_
  · intro d hd' d' hd2
    rw [List.map_id] at hd' hd2
    have := List.all_eq_true.mp ha d hd'
    exact List.all_eq_true.mp this d' hd2
  · rw [List.map_id]
    rcases Bool.or_eq_true_iff.mp hk with z | z
    · exact .inl fun d hm => tupCons_ok (List.all_eq_true.mp z d hm)
    · exact .inr fun d hm => notNT_ok (List.all_eq_true.mp z d hm)
  · have := hd d hm
    show X.A.units + 2 + d.depth < cLine
    omega
  · obtain ⟨ys, r1, r2⟩ := each_to ho
    obtain ⟨ep, he⟩ := PyProof.Rows.sortedAll_at s.heap its out.toArray
    have ly : ys.length = ds.length := by rw [r1.length]; exact hol
    exact ⟨.ref _, upd H (s.heap.objs.size + 1) (.lst ys), I.laid (t' := s.toks) (fun _ _ => PyProof.Rows.sortedAll_old) (Nat.le_succ _) ⟨by rw [ly]; exact Nat.le_trans hz (by decide), out, ep, r1, he⟩, rfl, q ys _ r2 ly (I.hok.fresh (Nat.le_succ _))⟩
def sortOk (ds : List D) : Bool := allAlike ds && (ds.all tupCons || ds.all notNT) && lim ds.length && (ds.all fun d => decide (d.depth ≤ 60))
theorem sortOk_of {ds : List D} (h : sortOk ds = true) : allAlike ds = true ∧ (ds.all tupCons || ds.all notNT) = true ∧ ds.length ≤ 100000 ∧ ∀ d ∈ ds, d.depth ≤ 60 := by
  unfold sortOk at h
  rw [Bool.and_eq_true, Bool.and_eq_true, Bool.and_eq_true] at h
  exact ⟨h.1.1.1, h.1.1.2, of_decide_eq_true h.1.2, fun d hd => of_decide_eq_true (List.all_eq_true.mp h.2 d hd)⟩
/-- sorted(a frozen list) -/
def oSort : D → Rs D
  | .list ds => if sortOk ds then .ok (.list (sortD ds)) else .no
  | _ => .no
/-- sorted(a list of what asks no heap) -/
def oSortF : D → Rs D
  | .list ds => if sortOk ds && ds.all flat then .ok (.list (sortD ds)) else .no
  | _ => .no
theorem sortD_perm (ds : List D) : (sortD ds).Perm ds := List.mergeSort_perm _ _
variable {x : Str} {p : Pos}
theorem pd_sort (hu : X.A.units + 64 < cLine) (ha : PD X E H0 ks a fa .new) (hm : X.mg "sorted" = none) (hg : Gl X "sorted" := by rfl)
    (he : starEach [a] X.env = (false, eval a X.env) :: starEach [] X.env := by rfl) (hpl : (backTo pos (starEach [] X.env)).any (·.1) = false := by rfl) : PD X E H0 ks (.Call (.Name "sorted" p) [a] [] pos) (e1 oSort fa) .o1 := by
  obtain ⟨ta, pa, qa⟩ := ha.ex
  refine ⟨_, pe_callB (cr_sortD (m := .new) hu) hg hm boot_sorted (pa_cons pa pa_nil he) (by decide) (by decide) he hpl, fun F σ H env Q R h => ?_⟩
  refine seq1 (k := fun x H1 => rSortD X.K .new [x] H1 Q) qa R h fun dx F1 x H1 A1 _ e1 r1 _ R1 h1 => ?_
  cases dx with
  | list ds =>
    have h1 : Done X.K X.mg E H0 F1 H1 .o1 (if sortOk ds = true then .ok (.list (sortD ds)) else .no) Q := h1
    by_cases z : sortOk ds = true
    · rw [if_pos z] at h1
      obtain ⟨z1, z2, z3, z4⟩ := sortOk_of z
      obtain ⟨l, vs, rfl, s, al⟩ := dp_list r1.1
      exact ⟨nw H0 F1, l, vs, ds, rfl, nw_le.trans R1.eF, sql_k (sql_mono (nw_le.trans R1.eF) s), al, z1, z2, z3, z4, fun ys q hy _ hq => Got.lst h1 R1.eF hq hy⟩
    · rw [if_neg z] at h1; exact h1.elim
  | _ => exact h1.elim
theorem pd_sortF (hu : X.A.units + 64 < cLine) (ha : PD X E H0 ks a fa ma) (hm : X.mg "sorted" = none) (hg : Gl X "sorted" := by rfl)
    (he : starEach [a] X.env = (false, eval a X.env) :: starEach [] X.env := by rfl) (hpl : (backTo pos (starEach [] X.env)).any (·.1) = false := by rfl) : PD X E H0 ks (.Call (.Name "sorted" p) [a] [] pos) (e1 oSortF fa) .o1 := by
  obtain ⟨ta, pa, qa⟩ := ha.ex
  refine ⟨_, pe_callB (cr_sortD (m := .B) hu) hg hm boot_sorted (pa_cons pa pa_nil he) (by decide) (by decide) he hpl, fun F σ H env Q R h => ?_⟩
  refine seq1 (k := fun x H1 => rSortD X.K .B [x] H1 Q) qa R h fun dx F1 x H1 A1 _ e1 r1 _ R1 h1 => ?_
  cases dx with
  | list ds =>
    have h1 : Done X.K X.mg E H0 F1 H1 .o1 (if (sortOk ds && ds.all flat) = true then .ok (.list (sortD ds)) else .no) Q := h1
    by_cases z : (sortOk ds && ds.all flat) = true
    · rw [if_pos z] at h1
      rw [Bool.and_eq_true] at z
      obtain ⟨z1, z2, z3, z4⟩ := sortOk_of z.1
      obtain ⟨l, vs, rfl, s, al⟩ := dt_list (r1.dt R1.eF)
      refine ⟨H1, l, vs, ds, rfl, Same.refl _, s, al, z1, z2, z3, z4, fun ys q hy _ hq => Got.lst h1 R1.eF hq (dpa_flat ?_ hy)⟩
      rw [List.all_eq_true] at z ⊢
      exact fun d hd => z.2 d ((sortD_perm ds).mem_iff.mp hd)
    · rw [if_neg z] at h1; exact h1.elim
  | _ => exact h1.elim

/-! ### sorted(set(a list of whole numbers)) -/
theorem insI_mem (k j : Int) : ∀ l : List Int, j ∈ insI k l ↔ j = k ∨ j ∈ l
  | [] => by simp [insI]
  | x :: r => by
    unfold insI
    by_cases h1 : k < x
    · rw [if_pos h1]; simp
    · rw [if_neg h1]
      by_cases h2 : k = x
      · rw [if_pos h2]; simp [h2]
      · rw [if_neg h2, List.mem_cons, insI_mem k j r, List.mem_cons]
        constructor
        · rintro (a | a | a)
          · exact .inr (.inl a)
          · exact .inl a
          · exact .inr (.inr a)
        · rintro (a | a | a)
          · exact .inr (.inl a)
          · exact .inl a
          · exact .inr (.inr a)
theorem insI_pair (k : Int) : ∀ l : List Int, l.Pairwise (· < ·) → (insI k l).Pairwise (· < ·)
  | [], _ => by simp [insI]
  | x :: r, h => by
    obtain ⟨h1, h2⟩ := List.pairwise_cons.mp h
    unfold insI
    by_cases c1 : k < x
    · rw [if_pos c1]
      exact List.pairwise_cons.mpr ⟨fun y hy => by
        rcases List.mem_cons.mp hy with e | e
        · omega
        · have := h1 y e
          omega, h⟩
    · rw [if_neg c1]
      by_cases c2 : k = x
      · rw [if_pos c2]; exact h
      · rw [if_neg c2]
        exact List.pairwise_cons.mpr ⟨fun y hy => by
          rcases (insI_mem k y r).mp hy with e | e
          · omega
          · exact h1 y e, insI_pair k r h2⟩
theorem sset_mem (j : Int) : ∀ l : List Int, j ∈ sset l ↔ j ∈ l
  | [] => by simp [sset]
  | x :: r => by
    show j ∈ insI x (sset r) ↔ _
    rw [insI_mem, sset_mem j r, List.mem_cons]
theorem sset_pair : ∀ l : List Int, (sset l).Pairwise (· < ·)
  | [] => by simp [sset]
  | x :: r => insI_pair x _ (sset_pair r)
theorem rise_ext : ∀ {l m : List Int}, l.Pairwise (· < ·) → m.Pairwise (· < ·) → (∀ k, k ∈ l ↔ k ∈ m) → l = m
  | [], [], _, _, _ => rfl
  | [], y :: m, _, _, h => absurd ((h y).mpr (by simp)) (by simp)
  | x :: l, [], _, _, h => absurd ((h x).mp (by simp)) (by simp)
  | x :: l, y :: m, h1, h2, h => by
    obtain ⟨a1, a2⟩ := List.pairwise_cons.mp h1
    obtain ⟨b1, b2⟩ := List.pairwise_cons.mp h2
    have e : x = y := by
      rcases List.mem_cons.mp ((h x).mp (by simp)) with e | e
      · exact e
      · rcases List.mem_cons.mp ((h y).mpr (by simp)) with e2 | e2
        · exact e2.symm
        · have := b1 x e
          have := a1 y e2
          omega
    subst e
    rw [rise_ext a2 b2 fun k => ?_]
    have hk := h k
    constructor
    · intro q
      rcases List.mem_cons.mp (hk.mp (List.mem_cons_of_mem _ q)) with z | z
      · have := a1 k q
        omega
      · exact z
    · intro q
      rcases List.mem_cons.mp (hk.mpr (List.mem_cons_of_mem _ q)) with z | z
      · have := b1 k q
        omega
      · exact z
theorem pd_sset {p2 : Pos} {q2 : Pos} (hc : X.calm = true) (ha : PD X E H0 ks a fa ma) (hm : X.mg "sorted" = none) (hm2 : X.mg "set" = none) (hg : Gl X "sorted" := by rfl) (hg2 : Gl X "set" := by rfl)
    (he : starEach [a] X.env = (false, eval a X.env) :: starEach [] X.env := by rfl) (hpl : (backTo q2 (starEach [] X.env)).any (·.1) = false := by rfl)
    (he2 : starEach [Expr.Call (.Name "set" p2) [a] [] q2] X.env = (false, eval (.Call (.Name "set" p2) [a] [] q2) X.env) :: starEach [] X.env := by rfl) (hpl2 : (backTo pos (starEach [] X.env)).any (·.1) = false := by rfl) :
    PD X E H0 ks (.Call (.Name "sorted" p) [.Call (.Name "set" p2) [a] [] q2] [] pos) (e1 oSSet fa) .o1 := by
  obtain ⟨ta, pa, qa⟩ := ha.ex
  have p1 : PE X (.Call (.Name "set" p2) [a] [] q2) (tCB (rSetI X.K X.w) (tCons ta tNil)) := pe_callTy (cr_setI hc) hg2 hm2 boot_set (pa_cons pa pa_nil he) (by decide) (by decide) he hpl
  refine ⟨_, pe_callB (cr_sortedSet hc) hg hm boot_sorted (pa_cons p1 pa_nil he2) (by decide) (by decide) he2 hpl2, fun F σ H env Q R h => ?_⟩
  show ta σ H fun x H1 => rSetI X.K X.w [x] H1 fun y H2 => rSortedSet X.w [y] H2 Q
  refine seq1 qa R h fun dx F1 x H1 A1 _ e1 r1 _ R1 h1 => ?_
  cases dx with
  | list ds =>
    have h1 : Done X.K X.mg E H0 F1 H1 .o1 (match asInts ds with | some ns => if (decide (ns.length ≤ 1000) && decide ((sset ns).length < 64)) = true then .ok (.list ((sset ns).map .int)) else .no | none => .no) Q := h1
    cases q : asInts ds with
    | none => rw [q] at h1; exact h1.elim
    | some ns =>
      rw [q] at h1
      have h1 : Done X.K X.mg E H0 F1 H1 .o1 (if (decide (ns.length ≤ 1000) && decide ((sset ns).length < 64)) = true then .ok (.list ((sset ns).map .int)) else .no) Q := h1
      by_cases z : (decide (ns.length ≤ 1000) && decide ((sset ns).length < 64)) = true
      · rw [if_pos z] at h1
        rw [Bool.and_eq_true] at z
        obtain ⟨l, vs, rfl, s, al⟩ := dt_list (r1.dt R1.eF)
        obtain ⟨e1', e2'⟩ := dpa_ints q al
        rw [e1'] at s
        refine ⟨l, ns, rfl, s, of_decide_eq_true z.1, fun p c hp hcl ⟨l1, n1, m1, c1⟩ => ?_⟩
        -- the set has as many members as sset tells
        refine ⟨p, _, c, rfl, upd_same, ?_, fun ms r hr hms hl hr0 => ?_⟩
        · have n2 : (sset ns).Nodup := (sset_pair ns).imp fun h => by omega
          have pm : l1.Perm (sset ns) := (List.perm_ext_iff_of_nodup n1 n2).mpr fun k => by rw [m1 k, sset_mem]
          rw [← c1, pm.length_eq]
          exact of_decide_eq_true z.2
        · have es : ms = sset ns := rise_ext hr (sset_pair ns) fun k => by rw [hms k, sset_mem]; simp
          subst es
          have rn : H1 r = none := by
            by_cases e : r = p
            · subst e; exact hp
            · rw [upd_ne e] at hr0; exact hr0
          exact Got.lst (Got.mono (Ext.heap R1.eF (same_upd hp)) h1) (R1.eF.trans (same_upd hp)) hr0 (dpa_map_int _)
      · rw [if_neg z] at h1; exact h1.elim
  | _ => exact h1.elim
end
end Tf
namespace Tf
open PySem PySem.Spec PyProof.Rows L2
section
variable {X : Cx} {E : XK} {H0 : Hp} {ks ks' ks1 ks2 : List RM} {e a b c : Expr} {f fa fb fc : DE} {m ma mb mc mr : RM} {ta tb tc : TE} {F H : Hp} {σ : L2.St} {env : En} {Q : VK} {pos : Pos}

/-! ### tests -/
def GotT (F H : Hp) (d : D) (Q : Bool → Hp → Prop) : Prop := match d with
  | .bool k => ∀ F' H', Ext F H F' H' → Q k H'
  | _ => False
def DoneT (mg : Str → Option Value) (E : XK) (H0 F H : Hp) (r : Rs D) (Q : Bool → Hp → Prop) : Prop := match r with
  | .ok d => GotT F H d Q
  | .ex c => Wish mg E H0 c
  | .no => False
def RdgT (X : Cx) (E : XK) (H0 : Hp) (ks : List RM) (t : TT) (f : DE) : Prop :=
  ∀ (F : Hp) (σ : L2.St) (H : Hp) (env : En) (Q : Bool → Hp → Prop), Rel X.K H0 ks F σ H env → DoneT X.mg E H0 F H (f env) Q → t σ H Q
structure PDT (X : Cx) (E : XK) (H0 : Hp) (ks : List RM) (e : Expr) (f : DE) : Prop where
  ex : ∃ t, PT X e t ∧ RdgT X E H0 ks t f
/-- and, or: the test whatever its whole is -/
structure PDW (X : Cx) (E : XK) (H0 : Hp) (ks : List RM) (e : Expr) (f : DE) : Prop where
  ex : ∃ t, PW X e t ∧ RdgT X E H0 ks t f
theorem PDW.t (h : PDW X E H0 ks e f) : PDT X E H0 ks e f := by
  obtain ⟨t, p, q⟩ := h.ex
  exact ⟨t, p.pt, q⟩
theorem rdgT_B {t : TE} (q : Rdg X E H0 ks t f m) : RdgT X E H0 ks (tB t) f := fun F σ H env Q R h => by
  refine q F σ H env _ R ?_
  cases hf : f env with
  | ex c => rw [hf] at h; exact h
  | no => rw [hf] at h; exact h
  | ok d =>
    rw [hf] at h
    intro F' v H' A e r n
    cases d with
    | bool k => exact ⟨k, dt_bl (r.dt e.fh), h F' H' e⟩
    | _ => exact h.elim
theorem pdt_val (ha : PD X E H0 ks a f m) (he : ∀ whole, isTrue a X.env whole = (do let v ← whole; standAt a.pos; holding [v] (truthy v)) := by intro _; rfl) : PDT X E H0 ks a f := by
  obtain ⟨t, p, q⟩ := ha.ex
  exact ⟨_, pt_val p he, rdgT_B q⟩
theorem pdt_cmp {op : CmpOp} {g : D → D → Rs D} (o : OpD X (compareOp op) g m) (ha : PD X E H0 ks a fa ma) (hb : PD X E H0 ks b fb mb) (hm : behindInMarks op b = false := by first | exact nomark _ | rfl) : PDT X E H0 ks (.Compare a [op] [b] pos) (e2 g fa fb) := by
  obtain ⟨ta, pa, qa⟩ := ha.ex
  obtain ⟨tb, pb, qb⟩ := hb.ex
  obtain ⟨r, ro, rq⟩ := o
  exact ⟨_, pt_cmpR ro pa pb hm, rdgT_B (rdg2 rq qa qb)⟩
theorem pdt_ch {op op' : CmpOp} {g g' : D → D → Rs D} (o : OpD X (compareOp op) g .new) (o' : OpD X (compareOp op') g' .new) (ha : PD X E H0 ks a fa ma) (hb : PD X E H0 ks b fb mb) (hc : PD X E H0 ks c fc mc)
    (hm : lastMarks [op, op'] [b, c] = false := by with_unfolding_all rfl) : PDT X E H0 ks (.Compare a [op, op'] [b, c] pos) (eCh g g' fa fb fc) := by
  obtain ⟨ta, pa, qa⟩ := ha.ex
  obtain ⟨tb, pb, qb⟩ := hb.ex
  obtain ⟨tc, pc, qc⟩ := hc.ex
  obtain ⟨r, ro, rq⟩ := o
  obtain ⟨r', ro', rq'⟩ := o'
  refine ⟨_, pt_chain ro ro' pa pb pc hm, rdgT_B (m := .new) fun F σ H env Q R h => ?_⟩
  show ta σ H _
  refine seq1 qa R (show Done X.K X.mg E H0 F H .new ((fa env).bind _) Q from h) fun dx F1 x H1 A hd e1 r1 n R1 h1 => ?_
  show tb σ H1 _
  refine seq1 qb R1 (show Done X.K X.mg E H0 F1 H1 .new ((fb env).bind _) Q from h1) fun dy F2 y H2 A2 hd2 e2 r2 n2 R2 h2 => ?_
  refine rq E H0 F2 H2 x y dx dy _ R2.e0 R2.eF ((r1.mono e2).dt R2.eF) (r2.dt R2.eF) ?_
  have h2 : Done X.K X.mg E H0 F2 H2 .new ((g dx dy).bind _) Q := h2
  cases hg : g dx dy with
  | no => rw [hg] at h2; exact h2
  | ex k => rw [hg] at h2; exact h2
  | ok d =>
    rw [hg] at h2
    intro F3 v H3 A3 e3 r3 n3
    have dz := r3.dt e3.fh
    have R3 := R2.ext e3
    cases d with
    | bool k =>
      refine ⟨k, dt_bl dz, ?_⟩
      cases k with
      | true =>
        rw [if_pos rfl]
        refine seq1 qc R3 (Done.mono e3 (show Done X.K X.mg E H0 F2 H2 .new ((fc env).bind _) Q from h2)) fun dw F4 w H4 A4 hd4 e4 r4 n4 R4 h4 => ?_
        exact rq' E H0 F4 H4 y w dy dw Q R4.e0 R4.eF (((r2.mono e3).mono e4).dt R4.eF) (r4.dt R4.eF) h4
      | false =>
        rw [if_neg Bool.false_ne_true]
        exact Got.flat (Got.mono e3 h2) e3.fh fun _ => .bl _
    | _ => exact h2.elim
theorem DoneT.mono {mg : Str → Option Value} {F1 H1 : Hp} {r : Rs D} {Q : Bool → Hp → Prop} (e : Ext F H F1 H1) (g : DoneT mg E H0 F H r Q) : DoneT mg E H0 F1 H1 r Q := by
  cases r with
  | ok d =>
    cases d with
    | bool k => exact fun F' H' x => g F' H' (e.trans x)
    | _ => exact g
  | ex c => exact g
  | no => exact g
theorem pdt_not (ha : PDT X E H0 ks a fa) : PDT X E H0 ks (.UnaryOp .Not a pos) (e1 oNot fa) := by
  obtain ⟨ta, pa, qa⟩ := ha.ex
  refine ⟨_, pt_not pa, fun F σ H env Q R h => ?_⟩
  show ta σ H fun c H1 => Q (!c) H1
  refine qa F σ H env _ R ?_
  have h : DoneT X.mg E H0 F H ((fa env).bind oNot) Q := h
  cases hf : fa env with
  | ex c => rw [hf] at h; exact h
  | no => rw [hf] at h; exact h
  | ok d =>
    rw [hf] at h
    cases d with
    | bool k => exact h
    | _ => exact h.elim
theorem pdw_and1 (ha : PDT X E H0 ks a fa) : PDW X E H0 ks (.BoolOp .And [a] pos) fa := by
  obtain ⟨ta, pa, qa⟩ := ha.ex
  exact ⟨_, pw_and1 pa, qa⟩
theorem pdw_or1 (ha : PDT X E H0 ks a fa) : PDW X E H0 ks (.BoolOp .Or [a] pos) fa := by
  obtain ⟨ta, pa, qa⟩ := ha.ex
  exact ⟨_, pw_or1 pa, qa⟩
theorem pdw_and {rest : List Expr} (ha : PDT X E H0 ks a fa) (hb : PDW X E H0 ks (.BoolOp .And (b :: rest) pos) fb) : PDW X E H0 ks (.BoolOp .And (a :: b :: rest) pos) (eAnd fa fb) := by
  obtain ⟨ta, pa, qa⟩ := ha.ex
  obtain ⟨tb, pb, qb⟩ := hb.ex
  refine ⟨_, pw_and pa pb, fun F σ H env Q R h => ?_⟩
  show ta σ H fun c H1 => if c = true then tb σ H1 Q else Q false H1
  refine qa F σ H env _ R ?_
  have h : DoneT X.mg E H0 F H ((fa env).bind _) Q := h
  cases hf : fa env with
  | ex c => rw [hf] at h; exact h
  | no => rw [hf] at h; exact h
  | ok d =>
    rw [hf] at h
    cases d with
    | bool k =>
      intro F1 H1 e1
      cases k with
      | true => rw [if_pos rfl]; exact qb F1 σ H1 env Q (R.ext e1) (DoneT.mono e1 h)
      | false => rw [if_neg Bool.false_ne_true]; exact h F1 H1 e1
    | _ => exact h.elim
theorem pdw_or {rest : List Expr} (ha : PDT X E H0 ks a fa) (hb : PDW X E H0 ks (.BoolOp .Or (b :: rest) pos) fb) : PDW X E H0 ks (.BoolOp .Or (a :: b :: rest) pos) (eOr fa fb) := by
  obtain ⟨ta, pa, qa⟩ := ha.ex
  obtain ⟨tb, pb, qb⟩ := hb.ex
  refine ⟨_, pw_or pa pb, fun F σ H env Q R h => ?_⟩
  show ta σ H fun c H1 => if c = true then Q true H1 else tb σ H1 Q
  refine qa F σ H env _ R ?_
  have h : DoneT X.mg E H0 F H ((fa env).bind _) Q := h
  cases hf : fa env with
  | ex c => rw [hf] at h; exact h
  | no => rw [hf] at h; exact h
  | ok d =>
    rw [hf] at h
    cases d with
    | bool k =>
      intro F1 H1 e1
      cases k with
      | false => rw [if_neg Bool.false_ne_true]; exact qb F1 σ H1 env Q (R.ext e1) (DoneT.mono e1 h)
      | true => rw [if_pos rfl]; exact h F1 H1 e1
    | _ => exact h.elim

/-! ### statements -/
def DoneF (K : PySem.W.Frag) (mg : Str → Option Value) (E : XK) (H0 F H : Hp) (ks' : List RM) (mr : RM) (r : Fl) (D : Ends) : Prop := match r with
  | .nx env' => ∀ F' σ' H', Same F F' → Rel K H0 ks' F' σ' H' env' → D.nx σ' H'
  | .rt d => ∀ F' v H' A, Same F F' → Same F' H' → ResOk K H0 F' H' mr v d A → D.rt v H'
  | .ex c => Wish mg E H0 c
  | .no => False
theorem DoneF.mono {K : PySem.W.Frag} {mg : Str → Option Value} {F1 H1 : Hp} {r : Fl} {D : Ends} (e : Same F F1) (g : DoneF K mg E H0 F H ks' mr r D) : DoneF K mg E H0 F1 H1 ks' mr r D := by
  cases r with
  | nx env' => exact fun F' σ' H' s R => g F' σ' H' (e.trans s) R
  | rt d => exact fun F' v H' A s t r => g F' v H' A (e.trans s) t r
  | ex c => exact g
  | no => exact g
def RdgF (X : Cx) (E : XK) (H0 : Hp) (ks ks' : List RM) (mr : RM) (t : TS) (f : DS) : Prop :=
  ∀ (F : Hp) (σ : L2.St) (H : Hp) (env : En) (D : Ends), Rel X.K H0 ks F σ H env → DoneF X.K X.mg E H0 F H ks' mr (f env) D → t D σ H
structure PD1 (X : Cx) (E : XK) (H0 : Hp) (ks : List RM) (st : Stmt) (f : DS) (ks' : List RM) (mr : RM) : Prop where
  ex : ∃ t, PS X st t ∧ RdgF X E H0 ks ks' mr t f
structure PDs (X : Cx) (E : XK) (H0 : Hp) (ks : List RM) (st : List Stmt) (f : DS) (ks' : List RM) (mr : RM) : Prop where
  ex : ∃ t, PSs X st t ∧ RdgF X E H0 ks ks' mr t f
variable {st : Stmt} {rest body orelse : List Stmt} {g g' : DS}
theorem pds_nil : PDs X E H0 ks [] sSkip ks mr := ⟨_, pss_nil, fun F σ H env D R h => h F σ H (Same.refl _) R⟩
theorem pds_one (h : PD1 X E H0 ks st g ks' mr) : PDs X E H0 ks [st] g ks' mr := by
  obtain ⟨t, p, q⟩ := h.ex
  exact ⟨t, pss_one p, q⟩
theorem pds_cons (h : PD1 X E H0 ks st g ks1 mr) (h' : PDs X E H0 ks1 rest g' ks' mr) : PDs X E H0 ks (st :: rest) (sSeq g g') ks' mr := by
  obtain ⟨t, p, q⟩ := h.ex
  obtain ⟨t', p', q'⟩ := h'.ex
  refine ⟨_, pss_cons p p', fun F σ H env D R d => ?_⟩
  show t { D with nx := t' D } σ H
  refine q F σ H env _ R ?_
  have d : DoneF X.K X.mg E H0 F H ks' mr (match g env with | .nx e' => g' e' | r => r) D := d
  cases hg : g env with
  | nx env' =>
    rw [hg] at d
    exact fun F' σ' H' s R' => q' F' σ' H' env' D R' (DoneF.mono s d)
  | rt x => rw [hg] at d; exact d
  | ex c => rw [hg] at d; exact d
  | no => rw [hg] at d; exact d
/-- weaker books -/
def wkAll : List RM → List RM → Bool
  | [], [] => true
  | a :: r, b :: s => a.le b && (a != .B) && (b != .B) && wkAll r s
  | _, _ => false
theorem wkAll_at : ∀ {ks ks' : List RM}, wkAll ks ks' = true → ks.length = ks'.length ∧ ∀ i, i < ks.length → (kAt ks i).le (kAt ks' i) = true ∧ kAt ks i ≠ .B ∧ kAt ks' i ≠ .B
  | [], [], _ => ⟨rfl, fun i h => absurd h (by simp)⟩
  | a :: r, b :: s, h => by
    unfold wkAll at h
    rw [Bool.and_eq_true, Bool.and_eq_true, Bool.and_eq_true] at h
    obtain ⟨⟨⟨h1, h2⟩, h3⟩, h4⟩ := h
    obtain ⟨l, q⟩ := wkAll_at h4
    refine ⟨by rw [List.length_cons, List.length_cons, l], fun i hi => ?_⟩
    cases i with
    | zero => exact ⟨h1, by simpa [kAt] using h2, by simpa [kAt] using h3⟩
    | succ i => exact q i (by simpa using hi)
  | [], _ :: _, h => nomatch h
  | _ :: _, [], h => nomatch h
theorem kAt_out {ks : List RM} {i : Nat} (h : ks.length ≤ i) : kAt ks i = .un := by
  unfold kAt
  rw [List.getD_eq_getElem?_getD, List.getElem?_eq_none h]
  rfl
theorem kAt_mix {ks ks' : List RM} {n i : Nat} (l : ks.length = ks'.length) : kAt (ks'.take n ++ ks.drop n) i = if i < n then kAt ks' i else kAt ks i := by
  unfold kAt
  rw [List.getD_eq_getElem?_getD]
  by_cases h : i < n
  · rw [if_pos h]
    by_cases h2 : i < ks'.length
    · rw [List.getElem?_append_left (by rw [List.length_take]; omega), List.getElem?_take_of_lt h, ← List.getD_eq_getElem?_getD]
    · have h3 : (ks'.take n).length = ks'.length := by rw [List.length_take]; omega
      rw [List.getElem?_append_right (by omega), List.getElem?_drop, List.getElem?_eq_none (by omega), List.getD_eq_getElem?_getD, List.getElem?_eq_none (by omega)]
  · rw [if_neg h]
    by_cases h2 : n ≤ ks.length
    · have h3 : (ks'.take n).length = n := by rw [List.length_take]; omega
      rw [List.getElem?_append_right (by omega), List.getElem?_drop, h3, show n + (i - n) = i by omega, ← List.getD_eq_getElem?_getD]
    · have h3 : (ks'.take n).length = ks'.length := by rw [List.length_take]; omega
      rw [List.getElem?_append_right (by omega), List.getElem?_drop, List.getElem?_eq_none (by omega), List.getD_eq_getElem?_getD, List.getElem?_eq_none (by omega)]
theorem ks_ext {ks ks' : List RM} (l : ks.length = ks'.length) (h : ∀ i, kAt ks i = kAt ks' i) : ks = ks' := by
  refine List.ext_getElem l fun i h1 h2 => ?_
  have q := h i
  unfold kAt at q
  rw [List.getD_eq_getElem?_getD, List.getElem?_eq_getElem h1, List.getD_eq_getElem?_getD, List.getElem?_eq_getElem h2] at q
  exact q
theorem Rel.weakN {K : PySem.W.Frag} (R : Rel K H0 ks F σ H env) (w : wkAll ks ks' = true) : ∀ n, n ≤ ks.length → ∃ F', Same F F' ∧ Rel K H0 (ks'.take n ++ ks.drop n) F' σ H env
  | 0, _ => ⟨F, Same.refl _, by simpa using R⟩
  | n + 1, hn => by
    obtain ⟨l, q⟩ := wkAll_at w
    obtain ⟨F1, s1, R1⟩ := Rel.weakN R w n (by omega)
    have hmix := fun i => kAt_mix (n := n) (i := i) l
    have nb : ∀ i, kAt (ks'.take n ++ ks.drop n) i ≠ .B := fun i => by
      rw [hmix]
      by_cases hi : i < ks.length
      · split
        · exact (q i hi).2.2
        · exact (q i hi).2.1
      · split
        · rw [kAt_out (by omega)]; simp
        · rw [kAt_out (by omega)]; simp
    have len : (ks'.take n ++ ks.drop n).length = ks.length := by rw [List.length_append, List.length_take, List.length_drop]; omega
    have le := (q n (by omega)).1
    obtain ⟨F2, s2, R2⟩ := R1.weak1 (i := n) (m := kAt ks' n) nb (by rw [len]; omega) (by rw [hmix, if_neg (Nat.lt_irrefl n)]; exact le)
    refine ⟨F2, s1.trans s2, ?_⟩
    have e : (ks'.take n ++ ks.drop n).set n (kAt ks' n) = ks'.take (n + 1) ++ ks.drop (n + 1) := by
      refine ks_ext (by rw [List.length_set, len, List.length_append, List.length_take, List.length_drop]; omega) fun i => ?_
      rw [kAt_set (by rw [len]; omega), kAt_mix (n := n + 1) l]
      by_cases hi : n = i
      · subst hi
        rw [if_pos rfl, if_pos (Nat.lt_succ_self n)]
      · rw [if_neg hi, hmix]
        by_cases h2 : i < n
        · rw [if_pos h2, if_pos (by omega)]
        · rw [if_neg h2, if_neg (by omega)]
    rw [← e]
    exact R2
theorem Rel.weak {K : PySem.W.Frag} (R : Rel K H0 ks F σ H env) (w : wkAll ks ks' = true) : ∃ F', Same F F' ∧ Rel K H0 ks' F' σ H env := by
  obtain ⟨l, _⟩ := wkAll_at w
  obtain ⟨F', s, R'⟩ := R.weakN w ks.length (Nat.le_refl _)
  refine ⟨F', s, ?_⟩
  rw [List.drop_length, List.append_nil, l, List.take_length] at R'
  exact R'
theorem pds_wkL (h : PDs X E H0 ks1 body g ks' mr) (w : wkAll ks ks1 = true := by decide) : PDs X E H0 ks body g ks' mr := by
  obtain ⟨t, p, q⟩ := h.ex
  refine ⟨t, p, fun F σ H env D R d => ?_⟩
  obtain ⟨F1, s1, R1⟩ := R.weak w
  exact q F1 σ H env D R1 (DoneF.mono s1 d)
theorem pds_wkR (h : PDs X E H0 ks body g ks1 mr) (w : wkAll ks1 ks' = true := by decide) : PDs X E H0 ks body g ks' mr := by
  obtain ⟨t, p, q⟩ := h.ex
  refine ⟨t, p, fun F σ H env D R d => q F σ H env D R ?_⟩
  cases hg : g env with
  | nx env' =>
    rw [hg] at d
    exact fun F' σ' H' s R' => by
      obtain ⟨F2, s2, R2⟩ := R'.weak w
      exact d F2 σ' H' (s.trans s2) R2
  | rt x => rw [hg] at d; exact d
  | ex c => rw [hg] at d; exact d
  | no => rw [hg] at d; exact d
/-- what lies behind never comes to its end -/
theorem pds_end (h : PDs X E H0 ks body g ks1 mr) (n : ∀ env env', g env ≠ .nx env') : PDs X E H0 ks body g ks' mr := by
  obtain ⟨t, p, q⟩ := h.ex
  refine ⟨t, p, fun F σ H env D R d => q F σ H env D R ?_⟩
  cases hg : g env with
  | nx env' => exact absurd hg (n env env')
  | rt x => rw [hg] at d; exact d
  | ex c => rw [hg] at d; exact d
  | no => rw [hg] at d; exact d
theorem pd1_ret (ha : PD X E H0 ks a f mr) : PD1 X E H0 ks (.Return (some a) pos) (sRet f) ks' mr := by
  obtain ⟨t, p, q⟩ := ha.ex
  refine ⟨_, ps_ret p, fun F σ H env D R d => ?_⟩
  show t σ H D.rt
  refine q F σ H env _ R ?_
  have d : DoneF X.K X.mg E H0 F H ks' mr ((f env).fl .rt) D := d
  cases hf : f env with
  | ok x =>
    rw [hf] at d
    exact fun F' v H' A e r n => d F' v H' A e.ff e.fh r
  | ex c => rw [hf] at d; exact d
  | no => rw [hf] at d; exact d
/-- return, with the slot's list handed over -/
theorem pd1_retO {i : Nat} (p : PE X a (tVar i)) (hk : kAt ks i = mr := by rfl) (hm : mr ≠ .B := by decide) : PD1 X E H0 ks (.Return (some a) pos) (sRet (eV i)) ks' mr := by
  refine ⟨_, ps_ret p, fun F σ H env D R d => ?_⟩
  have d : DoneF X.K X.mg E H0 F H ks' mr ((eV i env).fl .rt) D := d
  cases hf : eV i env with
  | ok x =>
    rw [hf] at d
    obtain ⟨As, h1, _⟩ := R.sl
    obtain ⟨v, e, r⟩ := h1 i x (eV_some hf)
    rw [hk] at r
    exact ⟨v, e, d F v H (As i) (Same.refl _) R.eF r⟩
  | ex c => exact (eV_ex hf).elim
  | no => rw [hf] at d; exact d.elim
theorem pd1_drop (ha : PD X E H0 ks a f m) (hs : swapsWith a none pos.line X.env = pure false := by rfl) : PD1 X E H0 ks (.Expr a pos) (sDrop f) ks mr := by
  obtain ⟨t, p, q⟩ := ha.ex
  refine ⟨_, ps_expr p hs, fun F σ H env D R d => ?_⟩
  show t σ H fun _ H1 => D.nx σ H1
  refine q F σ H env _ R ?_
  have d : DoneF X.K X.mg E H0 F H ks mr ((f env).fl fun _ => .nx env) D := d
  cases hf : f env with
  | ok x =>
    rw [hf] at d
    exact fun F' v H' A e r n => d F' σ H' e.ff (R.ext e)
  | ex c => rw [hf] at d; exact d
  | no => rw [hf] at d; exact d
theorem pd1_if (hc : PDT X E H0 ks c f) (ha : PDs X E H0 ks body g ks' mr) (hb : PDs X E H0 ks orelse g' ks' mr) : PD1 X E H0 ks (.If c body orelse pos) (sIf f g g') ks' mr := by
  obtain ⟨t, p, q⟩ := hc.ex
  obtain ⟨t1, p1, q1⟩ := ha.ex
  obtain ⟨t2, p2, q2⟩ := hb.ex
  refine ⟨_, ps_if p p1 p2, fun F σ H env D R d => ?_⟩
  show t σ H fun k H1 => if k = true then t1 D σ H1 else t2 D σ H1
  refine q F σ H env _ R ?_
  have d : DoneF X.K X.mg E H0 F H ks' mr ((f env).fl _) D := d
  cases hf : f env with
  | ok x =>
    rw [hf] at d
    cases x with
    | bool k =>
      intro F1 H1 e1
      cases k with
      | true => rw [if_pos rfl]; exact q1 F1 σ H1 env D (R.ext e1) (DoneF.mono e1.ff d)
      | false => rw [if_neg Bool.false_ne_true]; exact q2 F1 σ H1 env D (R.ext e1) (DoneF.mono e1.ff d)
    | _ => exact d.elim
  | ex k => rw [hf] at d; exact d
  | no => rw [hf] at d; exact d
/-- x = e -/
theorem rdg_asg {t : TE} {j : Nat} (q : Rdg X E H0 ks t f m) (hj : j < ks.length) : RdgF X E H0 ks (ks.set j m) mr (tAsg t (gName j)) (sAsg (gN j) f) := fun F σ H env D R d => by
  show t σ H fun v H1 => D.nx (σ.set j (some v)) H1
  refine q F σ H env _ R ?_
  have d : DoneF X.K X.mg E H0 F H (ks.set j m) mr ((f env).fl fun x => (gN j x env).fl .nx) D := d
  cases hf : f env with
  | ok x =>
    rw [hf] at d
    exact fun F' v H' A e r n => d F' _ H' e.ff (R.set e r n hj)
  | ex c => rw [hf] at d; exact d
  | no => rw [hf] at d; exact d
theorem pd1_set {j : Nat} {x : Str} {pos' : Pos} (hN : X.N.Nodup) (ha : PD X E H0 ks a f m) (hi : X.N[j]? = some x := by rfl) (hx : Loc X.env.scope x := by first | exact .inl rfl | exact .inr rfl) (hj : j < ks.length := by decide) (hm : m ≠ .B := by decide)
    (hs : swapsWith a (some (.Name x pos')) pos.line X.env = pure false := by rfl) (hf : X.fn x = true ∨ X.env.scope.names.lookup x = some .local := by first | exact .inl rfl | exact .inr rfl) : PD1 X E H0 ks (.Assign [.Name x pos'] a pos) (sAsg (gN j) f) (ks.set j m) mr := by
  obtain ⟨t, p, q⟩ := ha.ex
  exact ⟨_, ps_set hN hi hx p hs hf, rdg_asg q hj⟩
/-- raise C('..') -/
theorem pd1_raise {k : EC} {x s : Str} {j : Nat} {p p2 p3 : Pos} {C : Addr} (hc : X.calm = true) (tk : Takes X fun cls d _ H => E cls d H) (hk : k.nm = x) (q : PySem.W.excIn X.K C [.type "ValueError", .type "Exception", .type "BaseException", .type "object"] "ValueError.__new__" = true) (gC : X.mg x = some (.ref C)) (kC : PySem.W.keepIn X.K (.ref C) = true)
    (r : Raises X (.ref C)) (hg : Gl X x := by rfl) (hdb : (x == ("__debug__" : Str)) = false := by decide) : PD1 X E H0 ks (.Raise (some (.Call (.Name x p) [.Constant (.str s) j p2] [] p3)) none pos) (sRaise k) ks' mr := by
  refine ⟨_, ps_raise hc tk (pmk_own PySem.F.excBase_ValueError q gC kC r hg hdb), fun F σ H env D R d => ?_⟩
  have d : Wish X.mg E H0 k := d
  exact d C (by rw [hk]; exact gC) H (R.e0.trans R.eF)
/-- while, with so many turns at most -/
theorem pd1_while {n : Nat} (hp : PassesOwn (model X.prog X.w) X.A X.env X.xe) (hc : PDT X E H0 ks c f) (hb : PDs X E H0 ks body g ks mr) : PD1 X E H0 ks (.While c body [] pos) (sWhile n f g) ks mr := by
  obtain ⟨t, p, q⟩ := hc.ex
  obtain ⟨t1, p1, q1⟩ := hb.ex
  refine ⟨_, ps_while hp p p1, fun F σ H env D R d => ?_⟩
  refine ⟨fun m σ H => ∃ F' env, Rel X.K H0 ks F' σ H env ∧ DoneF X.K X.mg E H0 F' H ks mr (whileL f g m env) D, ⟨n, F, env, R, d⟩, ?_⟩
  rintro m σ H ⟨F, env, R, d⟩
  cases m with
  | zero => exact d.elim
  | succ m =>
    refine q F σ H env _ R ?_
    have d : DoneF X.K X.mg E H0 F H ks mr ((f env).fl _) D := d
    cases hf : f env with
    | ex k => rw [hf] at d; exact d
    | no => rw [hf] at d; exact d
    | ok x =>
      rw [hf] at d
      cases x with
      | bool k =>
        intro F1 H1 e1
        cases k with
        | false =>
          rw [if_neg Bool.false_ne_true]
          exact d F1 σ H1 e1.ff (R.ext e1)
        | true =>
          rw [if_pos rfl]
          have d : DoneF X.K X.mg E H0 F H ks mr (match g env with | .nx e2 => whileL f g m e2 | o => o) D := d
          refine ⟨fun σ' H' => ∃ F' env', Rel X.K H0 ks F' σ' H' env' ∧ DoneF X.K X.mg E H0 F' H' ks mr (whileL f g m env') D, fun σ' H' ⟨F', env', R', d'⟩ => ⟨m, Nat.lt_succ_self m, F', env', R', d'⟩, ?_⟩
          refine q1 F1 σ H1 env _ (R.ext e1) ?_
          cases hg : g env with
          | nx env' =>
            rw [hg] at d
            exact fun F' σ' H' s R' => ⟨F', env', R', DoneF.mono (e1.ff.trans s) d⟩
          | rt x =>
            rw [hg] at d
            exact fun F' v H' A s t r => d F' v H' A (e1.ff.trans s) t r
          | ex k => rw [hg] at d; exact d
          | no => rw [hg] at d; exact d
      | _ => exact d.elim
end
end Tf
namespace Tf
open PySem PySem.Spec PyProof.Rows L2
section
variable {X : Cx} {E : XK} {H0 : Hp} {ks ks' ks1 ks2 : List RM} {e a b c : Expr} {f fa fb fc : DE} {m ma mb mc mr my : RM} {ta tb tc : TE} {F H : Hp} {σ : L2.St} {env : En} {Q : VK} {pos : Pos}

/-! ### what is walked -/
/-- strong: also where the heap that is not frozen has changed -/
def ItSt (F1 H1 : Hp) (strong : Bool) (F' H' : Hp) : Prop := Same F1 F' ∧ Same F' H' ∧ (strong = false → Same H1 H')
structure ItOk (K : PySem.W.Frag) (H0 F1 H1 : Hp) (strong : Bool) (J : It) (my : RM) (ds : List D) : Prop where
  go : ∀ i F' H', i < ds.length → ItSt F1 H1 strong F' H' → J.go i H'
  yld : ∀ i F' H' x H'' d, ds[i]? = some d → ItSt F1 H1 strong F' H' → J.yld i H' x H'' → ∃ F'', Ext F' H' F'' H'' ∧ ResOk K H0 F'' H'' my x d []
  stop : ∀ F' H', ItSt F1 H1 strong F' H' → J.stop ds.length H'
theorem ItOk.weak {K : PySem.W.Frag} {F1 H1 : Hp} {strong : Bool} {J : It} {ds : List D} (h : ItOk K H0 F1 H1 true J my ds) : ItOk K H0 F1 H1 strong J my ds :=
  ⟨fun i F' H' a b => h.go i F' H' a ⟨b.1, b.2.1, fun z => nomatch z⟩, fun i F' H' x H'' d a b y => h.yld i F' H' x H'' d a ⟨b.1, b.2.1, fun z => nomatch z⟩ y, fun F' H' b => h.stop F' H' ⟨b.1, b.2.1, fun z => nomatch z⟩⟩
def DoneI (K : PySem.W.Frag) (mg : Str → Option Value) (E : XK) (H0 F H : Hp) (strong : Bool) (my : RM) (r : Rs (List D)) (R : It → Hp → Prop) : Prop := match r with
  | .ok ds => ∀ F1 H1 J, Ext F H F1 H1 → ItOk K H0 F1 H1 strong J my ds → R J H1
  | .ex c => Wish mg E H0 c
  | .no => False
structure PDI (X : Cx) (E : XK) (H0 : Hp) (ks : List RM) (tg iter : Expr) (it : DI) (my : RM) (strong : Bool) : Prop where
  ex : ∃ wi, PI X tg iter wi ∧ ∀ (F : Hp) (σ : L2.St) (H : Hp) (env : En) (R : It → Hp → Prop), Rel X.K H0 ks F σ H env → DoneI X.K X.mg E H0 F H strong my (it env) R → wi σ H R
variable {tg iter : Expr} {it : DI} {strong : Bool}
theorem PDI.weak (h : PDI X E H0 ks tg iter it my true) : PDI X E H0 ks tg iter it my false := by
  obtain ⟨wi, p, q⟩ := h.ex
  refine ⟨wi, p, fun F σ H env R r d => q F σ H env R r ?_⟩
  cases hi : it env with
  | ok ds => rw [hi] at d; exact fun F1 H1 J e o => d F1 H1 J e o.weak
  | ex c => rw [hi] at d; exact d
  | no => rw [hi] at d; exact d
/-- the items of a list -/
theorem itok_list {K : PySem.W.Frag} {F1 H1 : Hp} {l : Addr} {xs : List V} {ds : List D} (hm : m.rd = true) (h0 : Same H0 F1) (hs : ∀ F' H', ItSt F1 H1 strong F' H' → SqL K H' l xs) (ha : ∀ F' H', ItSt F1 H1 strong F' H' → DpAll (fr K m) (reg H0 F' H' m) xs ds) :
    ItOk K H0 F1 H1 strong (Itl K l) m ds := by
  refine ⟨fun i F' H' hi st => ?_, fun i F' H' x H'' d hd st y => ?_, fun F' H' st => ?_⟩
  · have al := ha F' H' st
    have hl : i < xs.length := by rw [dpa_len al]; exact hi
    exact ⟨xs, xs[i], hs F' H' st, List.getElem?_eq_getElem hl⟩
  · obtain ⟨rfl, y⟩ := y
    have al := ha F' H'' st
    obtain ⟨v, e1, e2⟩ := dpa_get al hd
    have ev := y xs (hs F' H'' st)
    rw [e1] at ev
    cases ev
    exact ⟨F', Ext.refl st.2.1, reg_res hm e2⟩
  · exact ⟨xs, hs F' H' st, by rw [dpa_len (ha F' H' st)]; exact Nat.le_refl _⟩
theorem seqI {g : D → Rs (List D)} {R : It → Hp → Prop} {k : V → Hp → Prop} (qa : Rdg X E H0 ks ta fa ma) (r : Rel X.K H0 ks F σ H env) (h : DoneI X.K X.mg E H0 F H strong my ((fa env).bind g) R)
    (hk : ∀ d F1 x H1 A, fa env = .ok d → Ext F H F1 H1 → ResOk X.K H0 F1 H1 ma x d A → (∀ a ∈ A, H a = none) → Rel X.K H0 ks F1 σ H1 env → DoneI X.K X.mg E H0 F1 H1 strong my (g d) R → k x H1) : ta σ H k := by
  refine qa F σ H env k r ?_
  cases hf : fa env with
  | ok d =>
    rw [hf] at h
    intro F1 v H1 A e q n
    refine hk d F1 v H1 A hf e q n (r.ext e) ?_
    have h : DoneI X.K X.mg E H0 F H strong my (g d) R := h
    cases hg : g d with
    | ok ds => rw [hg] at h; exact fun F2 H2 J e2 o => h F2 H2 J (e.trans e2) o
    | ex c => rw [hg] at h; exact h
    | no => rw [hg] at h; exact h
  | ex c => rw [hf] at h; exact h
  | no => rw [hf] at h; exact h
theorem pdi_list (ha : PD X E H0 ks a fa m) (hm : m.shr = true := by rfl) : PDI X E H0 ks tg a (iL fa) m true := by
  obtain ⟨ta, pa, qa⟩ := ha.ex
  refine ⟨_, pi_list pa, fun F σ H env R r h => ?_⟩
  refine seqI (k := fun x H1 => ∃ a, x = .ref a ∧ (∃ xs, SqL X.K H1 a xs) ∧ R (Itl X.K a) H1) qa r h fun d F1 x H1 A _ e1 r1 _ R1 h1 => ?_
  have hrd : m.rd = true := by cases m <;> first | rfl | exact nomatch hm
  cases d with
  | list ds =>
    obtain ⟨l, xs, rfl, s, al⟩ := dp_list (reg_of hrd r1 rfl)
    refine ⟨l, rfl, ⟨xs, sql_fr (sql_mono (reg_le R1.eF) s)⟩, h1 F1 H1 _ (Ext.refl R1.eF) (itok_list (xs := xs) (strong := true) hrd R1.e0 (fun F' H' st => ?_) fun F' H' st => ?_)⟩
    · have q : Same (reg H0 F1 H1 m) F1 := by
        cases m with
        | any => exact Same.refl _
        | new => exact nw_le
        | _ => exact nomatch hm
      exact sql_fr (sql_mono (q.trans (st.1.trans st.2.1)) s)
    · have q : Same (reg H0 F1 H1 m) (reg H0 F' H' m) := by
        cases m with
        | any => exact st.1
        | new => exact nw_mono st.1
        | _ => exact nomatch hm
      exact dpa_mono q al
  | _ => exact h1.elim
theorem pdi_listW (ha : PD X E H0 ks a fa m) (hm : m.rd = true := by rfl) : PDI X E H0 ks tg a (iL fa) m false := by
  obtain ⟨ta, pa, qa⟩ := ha.ex
  refine ⟨_, pi_list pa, fun F σ H env R r h => ?_⟩
  refine seqI (k := fun x H1 => ∃ a, x = .ref a ∧ (∃ xs, SqL X.K H1 a xs) ∧ R (Itl X.K a) H1) qa r h fun d F1 x H1 A _ e1 r1 _ R1 h1 => ?_
  cases d with
  | list ds =>
    obtain ⟨l, xs, rfl, s, al⟩ := dp_list (reg_of hm r1 rfl)
    refine ⟨l, rfl, ⟨xs, sql_fr (sql_mono (reg_le R1.eF) s)⟩, h1 F1 H1 _ (Ext.refl R1.eF) (itok_list (xs := xs) (strong := false) hm R1.e0 (fun F' H' st => ?_) fun F' H' st => ?_)⟩
    · exact sql_fr (sql_mono ((reg_le R1.eF).trans (st.2.2 rfl)) s)
    · have q : Same (reg H0 F1 H1 m) (reg H0 F' H' m) := by
        cases m with
        | B => exact st.2.2 rfl
        | any => exact st.1
        | new => exact nw_mono st.1
        | _ => exact nomatch hm
      exact dpa_mono q al
  | _ => exact h1.elim
/-- of the list that the slot i alone holds -/
theorem pdi_listV {i : Nat} (p : PE X a (tVar i)) (hk : kAt ks i = .o1 := by rfl) : PDI X E H0 ks tg a (iL (eV i)) .new false := by
  refine ⟨_, pi_list p, fun F σ H env R r h => ?_⟩
  have h : DoneI X.K X.mg E H0 F H false .new ((eV i env).bind _) R := h
  cases hf : eV i env with
  | ex k => exact (eV_ex hf).elim
  | no => rw [hf] at h; exact h.elim
  | ok dx =>
    rw [hf] at h
    obtain ⟨As, h1, _⟩ := r.sl
    obtain ⟨v, ev, q⟩ := h1 i dx (eV_some hf)
    rw [hk] at q
    obtain ⟨l, xs, ds, rfl, rfl, s, al, _, _⟩ := q
    refine ⟨.ref l, ev, l, rfl, ⟨xs, SqL.of s⟩, h F H _ (Ext.refl r.eF) (itok_list (strong := false) rfl r.e0 (fun F' H' st => SqL.of (st.2.2 rfl _ _ s)) fun F' H' st => dpa_mono (nw_mono st.1) al)⟩
theorem itok_tup {K : PySem.W.Frag} {F1 H1 : Hp} {l : Addr} {xs : List V} {ds : List D} (hm : m.rd = true) (hs : ∀ F' H', ItSt F1 H1 strong F' H' → SqT K H' l xs) (ha : ∀ F' H', ItSt F1 H1 strong F' H' → DpAll (fr K m) (reg H0 F' H' m) xs ds) :
    ItOk K H0 F1 H1 strong (Itt K l) m ds := by
  refine ⟨fun i F' H' hi st => ?_, fun i F' H' x H'' d hd st y => ?_, fun F' H' st => ?_⟩
  · have al := ha F' H' st
    have hl : i < xs.length := by rw [dpa_len al]; exact hi
    exact ⟨xs, xs[i], hs F' H' st, List.getElem?_eq_getElem hl⟩
  · obtain ⟨rfl, y⟩ := y
    have al := ha F' H'' st
    obtain ⟨v, e1, e2⟩ := dpa_get al hd
    have ev := y xs (hs F' H'' st)
    rw [e1] at ev
    cases ev
    exact ⟨F', Ext.refl st.2.1, reg_res hm e2⟩
  · exact ⟨xs, hs F' H' st, by rw [dpa_len (ha F' H' st)]; exact Nat.le_refl _⟩
theorem pdi_tup (ha : PD X E H0 ks a fa m) (hm : m.shr = true := by rfl) : PDI X E H0 ks tg a (iT fa) m true := by
  obtain ⟨ta, pa, qa⟩ := ha.ex
  refine ⟨_, pi_tup pa, fun F σ H env R r h => ?_⟩
  refine seqI (k := fun x H1 => ∃ a, x = .ref a ∧ (∃ xs, SqT X.K H1 a xs) ∧ R (Itt X.K a) H1) qa r h fun d F1 x H1 A _ e1 r1 _ R1 h1 => ?_
  have hrd : m.rd = true := by cases m <;> first | rfl | exact nomatch hm
  cases d with
  | tuple ds =>
    obtain ⟨l, xs, rfl, s, al⟩ := dt_tup (.inl (reg_of hrd r1 rfl))
    refine ⟨l, rfl, ⟨xs, sqt_fr (sqt_mono (reg_le R1.eF) s)⟩, h1 F1 H1 _ (Ext.refl R1.eF) (itok_tup (xs := xs) (strong := true) hrd (fun F' H' st => ?_) fun F' H' st => ?_)⟩
    · have q : Same (reg H0 F1 H1 m) F1 := by
        cases m with
        | any => exact Same.refl _
        | new => exact nw_le
        | _ => exact nomatch hm
      exact sqt_fr (sqt_mono (q.trans (st.1.trans st.2.1)) s)
    · have q : Same (reg H0 F1 H1 m) (reg H0 F' H' m) := by
        cases m with
        | any => exact st.1
        | new => exact nw_mono st.1
        | _ => exact nomatch hm
      exact dpa_mono q al
  | _ => exact h1.elim
theorem itok_rng {K : PySem.W.Frag} {F1 H1 : Hp} {lo : Int} {n : Nat} : ItOk K H0 F1 H1 true (Itr lo n) .new (rng lo n) := by
  have len : (rng lo n).length = n := by unfold rng; rw [List.length_map, List.length_range]
  refine ⟨fun i F' H' hi st => by rw [len] at hi; exact hi, fun i F' H' x H'' d hd st y => ?_, fun F' H' st => by rw [len]; exact Nat.le_refl n⟩
  obtain ⟨rfl, rfl⟩ := y
  unfold rng at hd
  rw [List.getElem?_map] at hd
  cases q : (List.range n)[i]? with
  | none => rw [q] at hd; cases hd
  | some j =>
    rw [q] at hd
    have hj : j = i := by
      obtain ⟨h1, h2⟩ := List.getElem?_eq_some_iff.mp q
      rw [List.getElem_range] at h2
      exact h2.symm
    subst hj
    cases hd
    exact ⟨F', Ext.refl st.2.1, .int _, rfl⟩
theorem pdi_r1 {p : Pos} (ha : PD X E H0 ks a fa ma) (hm : X.mg "range" = none) (hg : Gl X "range" := by rfl) (hs : starEach [a] X.env = [(false, eval a X.env)] := by rfl) : PDI X E H0 ks tg (.Call (.Name "range" p) [a] [] pos) (iR1 fa) .new true := by
  obtain ⟨ta, pa, qa⟩ := ha.ex
  refine ⟨_, pi_range1 hg hm (pa_cons pa pa_nil hs) hs, fun F σ H env R r h => ?_⟩
  show ta σ H fun x H1 => ∃ j : Int, [x] = [.int j] ∧ -(2 ^ 62) ≤ j ∧ j < 2 ^ 62 ∧ R (Itr 0 j.toNat) H1
  refine seqI qa r h fun d F1 x H1 A _ e1 r1 _ R1 h1 => ?_
  cases d with
  | int n =>
    have h1 : DoneI X.K X.mg E H0 F1 H1 true .new (if -(2 ^ 62) ≤ n ∧ n < 2 ^ 62 then .ok (rng 0 n.toNat) else .no) R := h1
    by_cases z : -(2 ^ 62) ≤ n ∧ n < 2 ^ 62
    · rw [if_pos z] at h1
      exact ⟨n, by rw [dt_int (r1.dt R1.eF)], z.1, z.2, h1 F1 H1 _ (Ext.refl R1.eF) itok_rng⟩
    · rw [if_neg z] at h1; exact h1.elim
  | _ => exact h1.elim
theorem pdi_r2 {p : Pos} (ha : PD X E H0 ks a fa ma) (hb : PD X E H0 ks b fb mb) (hm : X.mg "range" = none) (hg : Gl X "range" := by rfl) (hs : starEach [a, b] X.env = [(false, eval a X.env), (false, eval b X.env)] := by rfl) (hs2 : starEach [b] X.env = [(false, eval b X.env)] := by rfl) :
    PDI X E H0 ks tg (.Call (.Name "range" p) [a, b] [] pos) (iR2 fa fb) .new true := by
  obtain ⟨ta, pa, qa⟩ := ha.ex
  obtain ⟨tb, pb, qb⟩ := hb.ex
  refine ⟨_, pi_range2 hg hm (pa_cons pa (pa_cons pb pa_nil hs2) (by rw [hs, hs2])) hs hs2, fun F σ H env R r h => ?_⟩
  show ta σ H fun x H1 => tb σ H1 fun y H2 => ∃ i j : Int, [x, y] = [.int i, .int j] ∧ (-(2 ^ 62) ≤ i ∧ i < 2 ^ 62 ∧ -(2 ^ 62) ≤ j ∧ j < 2 ^ 62) ∧ R (Itr i (j - i).toNat) H2
  refine seqI qa r h fun d F1 x H1 A _ e1 r1 _ R1 h1 => ?_
  refine seqI qb R1 h1 fun d' F2 y H2 A2 _ e2 r2 _ R2 h2 => ?_
  have dx := (r1.mono e2).dt R2.eF
  have dy := r2.dt R2.eF
  cases d with
  | int i =>
    cases d' with
    | int j =>
      have h2 : DoneI X.K X.mg E H0 F2 H2 true .new (if -(2 ^ 62) ≤ i ∧ i < 2 ^ 62 ∧ -(2 ^ 62) ≤ j ∧ j < 2 ^ 62 then .ok (rng i (j - i).toNat) else .no) R := h2
      by_cases z : -(2 ^ 62) ≤ i ∧ i < 2 ^ 62 ∧ -(2 ^ 62) ≤ j ∧ j < 2 ^ 62
      · rw [if_pos z] at h2
        exact ⟨i, j, by rw [dt_int dx, dt_int dy], z, h2 F2 H2 _ (Ext.refl R2.eF) itok_rng⟩
      · rw [if_neg z] at h2; exact h2.elim
    | _ => exact h2.elim
  | _ => cases d' <;> exact h2.elim

/-! ### targets -/
structure PDG (X : Cx) (H0 : Hp) (ks : List RM) (tg : Expr) (g : DG) (my : RM) (js : List Nat) (ks1 : List RM) : Prop where
  ex : ∃ gt, PG X tg gt ∧ ∀ (F : Hp) (σ : L2.St) (H : Hp) (env env' : En) (x : V) (d : D) (k : L2.St → Hp → Prop), Rel X.K H0 ks F σ H env → ResOk X.K H0 F H my x d [] → g d env = .ok env' →
    (∀ σ', Rel X.K H0 ks1 F σ' H env' → (∀ vs : List Nat, (∀ j ∈ js, j ∈ vs) → wipe σ' vs = wipe σ vs) → k σ' H) → gt x σ H k
  nx : ∀ d env c, g d env ≠ .ex c
theorem wipe_get {σ : L2.St} {i : Nat} : ∀ {vs : List Nat}, (wipe σ vs)[i]? = if i ∈ vs then (σ[i]?).map fun _ => none else σ[i]?
  | [] => by simp [wipe]
  | v :: vs => by
    have ih := wipe_get (σ := σ) (i := i) (vs := vs)
    show ((wipe σ vs).set v none)[i]? = _
    by_cases h : v = i
    · subst h
      rw [if_pos (by simp)]
      by_cases hl : v < σ.length
      · rw [List.getElem?_set_self (by rw [wipe_length]; exact hl), List.getElem?_eq_getElem hl]
        rfl
      · rw [List.getElem?_eq_none (by rw [List.length_set, wipe_length]; omega), List.getElem?_eq_none (by omega)]
        rfl
    · rw [List.getElem?_set_ne h, ih]
      by_cases h2 : i ∈ vs
      · rw [if_pos h2, if_pos (List.mem_cons_of_mem _ h2)]
      · rw [if_neg h2, if_neg (by simp only [List.mem_cons, not_or]; exact ⟨fun z => h z.symm, h2⟩)]
theorem wipe_set {σ : L2.St} {j : Nat} {o : Option V} {vs : List Nat} (h : j ∈ vs) : wipe (σ.set j o) vs = wipe σ vs := by
  refine List.ext_getElem? fun i => ?_
  rw [wipe_get, wipe_get]
  by_cases hi : i ∈ vs
  · rw [if_pos hi, if_pos hi]
    by_cases e : j = i
    · subst e
      by_cases hl : j < σ.length
      · rw [List.getElem?_set_self hl, List.getElem?_eq_getElem hl]
        rfl
      · rw [List.getElem?_eq_none (by rw [List.length_set]; omega), List.getElem?_eq_none (by omega)]
    · rw [List.getElem?_set_ne e]
  · rw [if_neg hi, if_neg hi, List.getElem?_set_ne (fun e => hi (by rw [← e]; exact h))]
theorem wipe_wipe {σ : L2.St} {vs : List Nat} : wipe (wipe σ vs) vs = wipe σ vs := by
  refine List.ext_getElem? fun i => ?_
  rw [wipe_get, wipe_get]
  by_cases hi : i ∈ vs
  · rw [if_pos hi, if_pos hi]
    cases σ[i]? <;> rfl
  · rw [if_neg hi, if_neg hi]
theorem pdg_name {j : Nat} {x : Str} {p : Pos} (hN : X.N.Nodup) (hi : X.N[j]? = some x := by rfl) (hx : Loc X.env.scope x := by first | exact .inl rfl | exact .inr rfl) (hj : j < ks.length := by decide)
    (hf : X.fn x = true ∨ X.env.scope.names.lookup x = some .local := by first | exact .inl rfl | exact .inr rfl) : PDG X H0 ks (.Name x p) (gN j) my [j] (ks.set j my) := by
  refine ⟨⟨_, pg_name hN hi hx hf, fun F σ H env env' x d k R r e h => ?_⟩, fun d env c => by intro z; cases z⟩
  cases e
  exact h _ (R.set (Ext.refl R.eF) r (fun a ha => nomatch ha) hj) fun vs hv => wipe_set (hv j (by simp))
theorem pdg_two {j1 j2 : Nat} {x1 x2 : Str} {p1 p2 : Pos} {kk : Nat} (hc : X.calm = true) (hN : X.N.Nodup) (hm : my.rd = true) (hi1 : X.N[j1]? = some x1 := by rfl) (hi2 : X.N[j2]? = some x2 := by rfl) (hx1 : Loc X.env.scope x1 := by first | exact .inl rfl | exact .inr rfl) (hx2 : Loc X.env.scope x2 := by first | exact .inl rfl | exact .inr rfl)
    (hj1 : j1 < ks.length := by decide) (hj2 : j2 < ks.length := by decide) (hf1 : X.fn x1 = true ∨ X.env.scope.names.lookup x1 = some .local := by first | exact .inl rfl | exact .inr rfl) (hf2 : X.fn x2 = true ∨ X.env.scope.names.lookup x2 = some .local := by first | exact .inl rfl | exact .inr rfl)
    (hn : (assignEach [Expr.Name x1 p1, .Name x2 p2] X.env).length = 2 := by rfl) (hst : (assignEach [Expr.Name x1 p1, .Name x2 p2] X.env).findIdx? (·.1) = none := by rfl) :
    PDG X H0 ks (.Tuple [.Name x1 p1, .Name x2 p2] kk pos) (gT [j1, j2]) my [j1, j2] ((ks.set j1 my).set j2 my) := by
  refine ⟨⟨_, pg_tup hc (pgs_cons (pg_name hN hi1 hx1 hf1) (pgs_cons (pg_name hN hi2 hx2 hf2) pgs_nil)) hn hst, fun F σ H env env' x d k R r e h => ?_⟩, fun d env c z => ?_⟩
  · cases d with
    | tuple ds =>
      match ds, e, r with
      | [d1, d2], e, r =>
        have e : Rs.ok ((env.set j1 (some d1)).set j2 (some d2)) = .ok env' := e
        cases e
        obtain ⟨a, xs, rfl, s, al⟩ := dt_tup (.inl (reg_of hm r rfl))
        cases al with
        | cons q1 al =>
          cases al with
          | cons q2 al =>
            cases al
            refine ⟨a, _, rfl, sqt_fr (sqt_mono (reg_le R.eF) s), rfl, _, _, rfl, _, _, rfl, rfl, ?_⟩
            have R1 := R.set (Ext.refl R.eF) (reg_res hm q1) (fun a ha => nomatch ha) hj1
            have R2 := R1.set (Ext.refl R1.eF) (reg_res hm q2) (fun a ha => nomatch ha) (by rw [List.length_set]; exact hj2)
            exact h _ R2 fun vs hv => (wipe_set (hv j2 (by simp))).trans (wipe_set (hv j1 (by simp)))
      | [], e, _ => cases e
      | [_], e, _ => cases e
      | _ :: _ :: _ :: _, e, _ => cases e
    | _ => cases e
  · cases d with
    | tuple ds =>
      match ds, z with
      | [_, _], z => cases z
      | [], z => cases z
      | [_], z => cases z
      | _ :: _ :: _ :: _, z => cases z
    | _ => cases z

/-! ### for -/
variable {body : List Stmt} {g : DG} {sb : DS} {js : List Nat}
theorem pd1_for (hp : PassesOwn (model X.prog X.w) X.A X.env X.xe) (hc : X.calm = true) (hi : PDI X E H0 ks tg iter it my true) (hg : PDG X H0 ks tg g my js ks1) (hb : PDs X E H0 ks1 body sb ks mr)
    (hs : ∀ x, foldedSetIterable iter X.env x = pure x := by intro _; rfl) : PD1 X E H0 ks (.For tg iter body [] pos) (sFor g it sb) ks mr := by
  obtain ⟨wi, pi, qi⟩ := hi.ex
  obtain ⟨⟨gt, pg, qg⟩, nx⟩ := hg
  obtain ⟨t, p, q⟩ := hb.ex
  refine ⟨_, ps_for hp hc pi pg p hs, fun F σ H env D R d => ?_⟩
  refine qi F σ H env _ R ?_
  have d : DoneF X.K X.mg E H0 F H ks mr ((it env).fl fun ds => forL g sb ds env) D := d
  cases hit : it env with
  | ex c => rw [hit] at d; exact d
  | no => rw [hit] at d; exact d
  | ok ds =>
    rw [hit] at d
    intro F1 H1 J e1 ok
    refine ⟨fun i m σ' H' => m = ds.length - i ∧ i ≤ ds.length ∧ ∃ F' env', Same F1 F' ∧ Rel X.K H0 ks F' σ' H' env' ∧ DoneF X.K X.mg E H0 F' H' ks mr (forL g sb (ds.drop i) env') D,
      ⟨ds.length, by simp, Nat.zero_le _, F1, env, Same.refl _, R.ext e1, DoneF.mono e1.ff d⟩, ?_⟩
    rintro i m σ' H' ⟨rfl, hile, F', env', s1, R', d'⟩
    have st : ItSt F1 H1 true F' H' := ⟨s1, R'.eF, fun z => nomatch z⟩
    by_cases hlt : i < ds.length
    · refine .inr ⟨ok.go i F' H' hlt st, fun σ2 H2 => ∃ F2 env2, Same F1 F2 ∧ Rel X.K H0 ks F2 σ2 H2 env2 ∧ DoneF X.K X.mg E H0 F2 H2 ks mr (forL g sb (ds.drop (i + 1)) env2) D, fun σ2 H2 h2 => ⟨ds.length - (i + 1), by omega, rfl, hlt, h2⟩, fun x H2 y => ?_⟩
      obtain ⟨F2, e2, r2⟩ := ok.yld i F' H' x H2 ds[i] (List.getElem?_eq_getElem hlt) st y
      have hd : ds.drop i = ds[i] :: ds.drop (i + 1) := List.drop_eq_getElem_cons hlt
      rw [hd] at d'
      have d' : DoneF X.K X.mg E H0 F' H' ks mr ((g ds[i] env').fl fun e' => match sb e' with | .nx e2 => forL g sb (ds.drop (i + 1)) e2 | o => o) D := d'
      cases hgd : g ds[i] env' with
      | ex c => exact absurd hgd (nx _ _ c)
      | no => rw [hgd] at d'; exact d'.elim
      | ok env2 =>
        rw [hgd] at d'
        have d' : DoneF X.K X.mg E H0 F' H' ks mr (match sb env2 with | .nx e2 => forL g sb (ds.drop (i + 1)) e2 | o => o) D := d'
        refine qg F2 σ' H2 env' env2 x ds[i] _ (R'.ext e2) r2 hgd fun σ3 R3 _ => ?_
        refine q F2 σ3 H2 env2 _ R3 ?_
        cases hsb : sb env2 with
        | nx env3 =>
          rw [hsb] at d'
          exact fun F3 σ4 H4 s3 R4 => ⟨F3, env3, s1.trans (e2.ff.trans s3), R4, DoneF.mono (e2.ff.trans s3) d'⟩
        | rt x =>
          rw [hsb] at d'
          exact fun F3 v H3 A s3 t r => d' F3 v H3 A (e2.ff.trans s3) t r
        | ex c => rw [hsb] at d'; exact d'
        | no => rw [hsb] at d'; exact d'
    · have e : i = ds.length := by omega
      subst e
      refine .inl ⟨ok.stop F' H' st, ?_⟩
      rw [List.drop_length] at d'
      exact d' F' σ' H' (Same.refl _) R'
end
end Tf
namespace Tf
open PySem PySem.Spec PyProof.Rows L2
section
variable {X : Cx} {E : XK} {H0 : Hp} {ks ks' ks1 ks2 : List RM} {e a b c : Expr} {f fa fb fc ft : DE} {m ma mb mc mr my : RM} {ta tb tc : TE} {F H : Hp} {σ : L2.St} {env : En} {Q : VK} {pos : Pos}

/-! ### the weakest readings, over a family of contexts -/
abbrev E0 : XK := fun _ _ _ => False
def wpE (X : Cx) (e : Expr) : TE := fun σ H Q => ∀ (pins : List (Addr × Obj)) (s : Shared), Inv X pins σ H s → wpAny (model X.prog X.w) X.A (eval e X.env) (EP X pins σ Q) X.xe s
def wpG (X : Cx) (tg : Expr) : TG := fun v σ H Q => ∀ (pins : List (Addr × Obj)) (s : Shared) (u : Value), Inv X pins σ H s → RelV v u → wpAny (model X.prog X.w) X.A (assign tg X.env u) (fun _ s' => ∃ σ' H', Inv X pins σ' H' s' ∧ Q σ' H') X.xe s
def wpTs (X : Cx) (ifs : List Expr) : TT := fun σ H Q => ∀ (pins : List (Addr × Obj)) (s : Shared), Inv X pins σ H s →
  wpAny (model X.prog X.w) X.A (forIn ifs true fun c r => if r = true then do let ok ← isTrue c X.env (eval c X.env); pure (ForInStep.yield ok) else pure (ForInStep.yield r)) (TP X pins σ Q) X.xe s
/-- a clause's tests -/
structure PDTs (X : Cx) (E : XK) (H0 : Hp) (ks : List RM) (ifs : List Expr) (f : DE) : Prop where
  ex : ∃ t, PTs X ifs t ∧ RdgT X E H0 ks t f
def eYes : DE := fun _ => .ok (.bool true)
theorem pdts_nil : PDTs X E H0 ks [] eYes := ⟨_, pts_nil, fun F σ H env Q R h => h F H (Ext.refl R.eF)⟩
theorem pdts_one (h : PDT X E H0 ks c f) : PDTs X E H0 ks [c] f := by
  obtain ⟨t, p, q⟩ := h.ex
  exact ⟨t, pts_one p, q⟩

/-! ### comprehensions -/
theorem wipeE_get {env : En} {i : Nat} : ∀ {vs : List Nat}, (wipeE env vs)[i]? = if i ∈ vs then (env[i]?).map fun _ => none else env[i]?
  | [] => by simp [wipeE]
  | v :: vs => by
    have ih := wipeE_get (env := env) (i := i) (vs := vs)
    have ll : ∀ vs : List Nat, (wipeE env vs).length = env.length := fun vs => by
      induction vs with
      | nil => rfl
      | cons v vs ih => show ((wipeE env vs).set v none).length = _; rw [List.length_set, ih]
    show ((wipeE env vs).set v none)[i]? = _
    by_cases h : v = i
    · subst h
      rw [if_pos (by simp)]
      by_cases hl : v < env.length
      · rw [List.getElem?_set_self (by rw [ll]; exact hl), List.getElem?_eq_getElem hl]
        rfl
      · rw [List.getElem?_eq_none (by rw [List.length_set, ll]; omega), List.getElem?_eq_none (by omega)]
        rfl
    · rw [List.getElem?_set_ne h, ih]
      by_cases h2 : i ∈ vs
      · rw [if_pos h2, if_pos (List.mem_cons_of_mem _ h2)]
      · rw [if_neg h2, if_neg (by simp only [List.mem_cons, not_or]; exact ⟨fun z => h z.symm, h2⟩)]
theorem wipeE_len {env : En} : ∀ {vs : List Nat}, (wipeE env vs).length = env.length
  | [] => rfl
  | v :: vs => by show ((wipeE env vs).set v none).length = _; rw [List.length_set, wipeE_len]
theorem Rel.wipe {K : PySem.W.Frag} (R : Rel K H0 ks F σ H env) (vs : List Nat) : Rel K H0 ks F (L2.wipe σ vs) H (wipeE env vs) := by
  obtain ⟨As, h1, h2, h3⟩ := R.sl
  refine ⟨R.e0, R.eF, by rw [wipe_length, wipeE_len]; exact R.len, by rw [wipeE_len]; exact R.kl, As, fun i d hd => ?_, h2, h3⟩
  rw [wipeE_get] at hd
  by_cases hi : i ∈ vs
  · rw [if_pos hi] at hd
    cases q : env[i]? with
    | none => rw [q] at hd; cases hd
    | some o => rw [q] at hd; cases hd
  · rw [if_neg hi] at hd
    obtain ⟨v, e, r⟩ := h1 i d hd
    exact ⟨v, by rw [wipe_get, if_neg hi]; exact e, r⟩
variable {tg iter elt : Expr} {ifs : List Expr} {it : DI} {g : DG} {js : List Nat} {own : List (Str × Nat)} {scope : Scope}
/-- what a comprehension wants of its parts, in each block's context -/
structure Parts (X : Cx) (H0 : Hp) (ks ks1 : List RM) (tg : Expr) (ifs : List Expr) (elt : Expr) (scope : Scope) (g : DG) (my : RM) (js : List Nat) (ft fa : DE) (m : RM) : Prop where
  hg : ∀ (s : Shared) (H : Hp) (C : Addr) (cl : List (Str × Addr)) (fp : List Addr), PDG (X.blk s H scope (compEnvC scope cl C X.env) fp) H0 ks tg g my js ks1
  ht : ∀ (s : Shared) (H : Hp) (C : Addr) (cl : List (Str × Addr)) (fp : List Addr), PDTs (X.blk s H scope (compEnvC scope cl C X.env) fp) E0 H0 ks1 ifs ft
  he : ∀ (s : Shared) (H : Hp) (C : Addr) (cl : List (Str × Addr)) (fp : List Addr), PD (X.blk s H scope (compEnvC scope cl C X.env) fp) E0 H0 ks1 elt fa m
def fG (X : Cx) (scope : Scope) (tg : Expr) : TG := fun v σ H Q => ∀ (s : Shared) (H' : Hp) (C : Addr) (cl : List (Str × Addr)) (fp : List Addr), wpG (X.blk s H' scope (compEnvC scope cl C X.env) fp) tg v σ H Q
def fT (X : Cx) (scope : Scope) (ifs : List Expr) : TT := fun σ H Q => ∀ (s : Shared) (H' : Hp) (C : Addr) (cl : List (Str × Addr)) (fp : List Addr), wpTs (X.blk s H' scope (compEnvC scope cl C X.env) fp) ifs σ H Q
def fE (X : Cx) (scope : Scope) (elt : Expr) : TE := fun σ H Q => ∀ (s : Shared) (H' : Hp) (C : Addr) (cl : List (Str × Addr)) (fp : List Addr), wpE (X.blk s H' scope (compEnvC scope cl C X.env) fp) elt σ H Q
/-- one turn, for a result of the mode m: what is kept (Nx) is shown of the heap with the new item -/
theorem comp_turn (P : Parts X H0 ks ks1 tg ifs elt scope g my js ft fa m) (R : Rel X.K H0 ks F σ H env) {x : V} {d : D} {vs : List Nat} {res : Rs (List D)} {more : Rs (List D)} {Nx : Hp → Prop} {L : Addr} (hj : ∀ j ∈ js, j ∈ vs)
    (hx : ResOk X.K H0 F H my x d []) (hR : Rel X.K H0 ks F (L2.wipe σ vs) H (wipeE env vs)) {zs : List D}
    (hres : ((g d (wipeE env vs)).bind fun e' => (ft e').bind fun k => match k with | .bool true => (fa e').bind fun y => more.bind fun ys => .ok (y :: ys) | .bool false => more | _ => .no) = .ok zs)
    (hno : ∀ F' H', Ext F H F' H' → more = .ok zs → Nx H')
    (hyes : ∀ y ys F' v H' A, Ext F H F' H' → more = .ok ys → zs = y :: ys → ResOk X.K H0 F' H' m v y A → (∀ a ∈ A, H a = none) → ∃ acc, H' L = some (.lst acc) ∧ acc.length < sizeLine ∧ Nx (upd H' L (.lst (acc ++ [v])))) :
    fG X scope tg x (L2.wipe σ vs) H fun σ2 H2 => L2.wipe σ2 vs = L2.wipe σ vs ∧ fT X scope ifs σ2 H2 fun b H3 => if b = true then fE X scope elt σ2 H3 fun y H4 => ∃ acc, H4 L = some (.lst acc) ∧ acc.length < sizeLine ∧ Nx (upd H4 L (.lst (acc ++ [y]))) else Nx H3 := by
  intro s0 H0' C0 cl0 fp0
  obtain ⟨⟨gt, pg, qg⟩, nx⟩ := P.hg s0 H0' C0 cl0 fp0
  intro pins s u I rv
  refine pg.run pins s _ H x u _ I rv ?_
  cases hg : g d (wipeE env vs) with
  | ex c => exact absurd hg (nx _ _ c)
  | no => rw [hg] at hres; cases hres
  | ok env2 =>
    rw [hg] at hres
    have hres : ((ft env2).bind fun k => match k with | .bool true => (fa env2).bind fun y => more.bind fun ys => .ok (y :: ys) | .bool false => more | _ => .no) = Rs.ok zs := hres
    refine qg F _ H _ env2 x d _ hR hx hg fun σ2 R2 hw => ⟨(hw vs hj).trans wipe_wipe, ?_⟩
    intro s1 H1' C1 cl1 fp1
    obtain ⟨tt, pt, qt⟩ := (P.ht s1 H1' C1 cl1 fp1).ex
    intro pins1 s1' I1
    refine pt.run pins1 s1' σ2 H _ I1 ?_
    refine qt F σ2 H env2 _ R2 ?_
    cases hf : ft env2 with
    | ex c => rw [hf] at hres; cases hres
    | no => rw [hf] at hres; cases hres
    | ok k =>
      rw [hf] at hres
      cases k with
      | bool k =>
        intro F3 H3 e3
        cases k with
        | false =>
          rw [if_neg Bool.false_ne_true]
          exact hno F3 H3 e3 hres
        | true =>
          rw [if_pos rfl]
          have hres : ((fa env2).bind fun y => more.bind fun ys => .ok (y :: ys)) = Rs.ok zs := hres
          intro s2 H2' C2 cl2 fp2
          obtain ⟨te, pe, qe⟩ := (P.he s2 H2' C2 cl2 fp2).ex
          intro pins2 s2' I2
          refine pe.run pins2 s2' σ2 H3 _ I2 ?_
          refine qe F3 σ2 H3 env2 _ (R2.ext e3) ?_
          cases ha : fa env2 with
          | ex c => rw [ha] at hres; cases hres
          | no => rw [ha] at hres; cases hres
          | ok y =>
            rw [ha] at hres
            have hres : (more.bind fun ys => .ok (y :: ys)) = Rs.ok zs := hres
            cases hm : more with
            | ex c => rw [hm] at hres; cases hres
            | no => rw [hm] at hres; cases hres
            | ok ys =>
              rw [hm] at hres
              have hz : zs = y :: ys := by cases hres; rfl
              intro F4 v H4 A e4 r4 n4
              exact hyes y ys F4 v H4 A (e3.trans e4) hm hz r4 fun a ha => e3.hh.free (n4 a ha)
      | _ => cases hres
theorem nox_ok {α : Type} {r : Rs α} {a : α} (h : r.nox = .ok a) : r = .ok a := by
  cases r with
  | ok x => exact h
  | ex c => cases h
  | no => cases h
/-- the list that a comprehension makes: its items frozen -/
theorem rdg_comp {wi : TI} (hq : ∀ (F : Hp) (σ : L2.St) (H : Hp) (env : En) (R : It → Hp → Prop), Rel X.K H0 ks F σ H env → DoneI X.K X.mg E H0 F H false my (it env) R → wi σ H R)
    (P : Parts X H0 ks ks1 tg ifs elt scope g my js ft fa .new) (hj : ∀ j ∈ js, j ∈ own.map (·.2)) :
    Rdg X E H0 ks (tLc wi (fG X scope tg) (fT X scope ifs) (fE X scope elt) (own.map (·.2))) (eComp (own.map (·.2)) g it ft fa) .o1 := by
  intro F σ H env Q R h
  generalize hvs : own.map (·.2) = vs at hj h ⊢
  refine hq F σ H env _ R ?_
  have h : Done X.K X.mg E H0 F H .o1 ((it env).bind fun ds => if ds.length ≤ 100000 then ((compL vs g ft fa env ds).nox).bind fun ys => .ok (.list ys) else .no) Q := h
  cases hit : it env with
  | ex c => rw [hit] at h; exact h
  | no => rw [hit] at h; exact h
  | ok ds =>
    rw [hit] at h
    intro F1 H1 J e1 ok D hD
    have h : Done X.K X.mg E H0 F H .o1 (if ds.length ≤ 100000 then ((compL vs g ft fa env ds).nox).bind fun ys => .ok (.list ys) else .no) Q := h
    by_cases hz : ds.length ≤ 100000
    · rw [if_pos hz] at h
      cases hc : compL vs g ft fa env ds with
      | ex c => rw [hc] at h; exact h.elim
      | no => rw [hc] at h; exact h.elim
      | ok all =>
        rw [hc] at h
        have h : Got X.K H0 F H .o1 (.list all) Q := h
        have R1 := R.ext e1
        -- behind i turns: done are the first of all, the rest is to come
        refine ⟨fun i m H' => m = ds.length - i ∧ i ≤ ds.length ∧ ∃ F' acc ys zs, Ext F1 H1 F' H' ∧ F' D = none ∧ H' D = some (.lst acc) ∧ DpAll N0 (nw H0 F') acc ys ∧ acc.length ≤ i ∧ compL vs g ft fa env (ds.drop i) = .ok zs ∧ ys ++ zs = all,
          ⟨ds.length, by simp, Nat.zero_le _, F1, [], [], all, Ext.heap R1.eF (same_upd hD), R1.eF.free hD, upd_same, .nil, Nat.le_refl _, hc, rfl⟩, ?_⟩
        rintro i m H' ⟨rfl, hile, F', acc, ys, zs, e', fD, hDa, al, hacc, hcz, hall⟩
        have st : ItSt F1 H1 false F' H' := ⟨e'.ff, e'.fh, fun _ => e'.hh⟩
        have R' := R1.ext e'
        by_cases hlt : i < ds.length
        · refine .inr ⟨ok.go i F' H' hlt st, fun H2 => ∃ F2 acc ys zs, Ext F1 H1 F2 H2 ∧ F2 D = none ∧ H2 D = some (.lst acc) ∧ DpAll N0 (nw H0 F2) acc ys ∧ acc.length ≤ i + 1 ∧ compL vs g ft fa env (ds.drop (i + 1)) = .ok zs ∧ ys ++ zs = all,
            fun H2 h2 => ⟨ds.length - (i + 1), by omega, rfl, hlt, h2⟩, fun x H2 y => ?_⟩
          obtain ⟨F2, e2, r2⟩ := ok.yld i F' H' x H2 ds[i] (List.getElem?_eq_getElem hlt) st y
          rw [List.drop_eq_getElem_cons hlt] at hcz
          have R2 := R'.ext e2
          have nD : H' D ≠ none := by rw [hDa]; simp
          refine comp_turn (L := D) (vs := vs) P R2 hj r2 (R2.wipe vs) (more := compL vs g ft fa env (ds.drop (i + 1))) (zs := zs) (res := .no) hcz (fun F3 H3 e3 hm => ?_) (fun y ys' F3 v H3 A e3 hm hzs r3 n3 => ?_)
          · have e23 := e2.trans e3
            exact ⟨F3, acc, ys, zs, e'.trans e23, e23.free fD nD, e23.hh _ _ hDa, dpa_mono (nw_mono e23.ff) al, by omega, hm, hall⟩
          · have e23 := e2.trans e3
            have f3 := e23.free fD nD
            refine ⟨acc, e23.hh _ _ hDa, Nat.lt_of_le_of_lt hacc (Nat.lt_of_lt_of_le hlt (Nat.le_trans hz (by decide))), F3, acc ++ [v], ys ++ [y], ys', ?_, f3, upd_same, dpa_app (dpa_mono (nw_mono e23.ff) al) (dpa_one r3.1), by rw [List.length_append]; simp; omega, hm, by rw [← hall, hzs]; simp⟩
            have e13 := e'.trans e23
            refine ⟨e13.ff, fun b o hb => ?_, fun b o hb => ?_, e13.fr⟩
            · rw [upd_ne (ne_of_none hb hD)]
              exact e13.hh _ _ hb
            · rw [upd_ne (ne_of_none hb f3)]
              exact e13.fh _ _ hb
        · have ei : i = ds.length := by omega
          subst ei
          refine .inl ⟨ok.stop F' H' st, ?_⟩
          rw [List.drop_length] at hcz
          have hz0 : zs = [] := by cases hcz; rfl
          subst hz0
          rw [List.append_nil] at hall
          subst hall
          exact h F' (.ref D) H' [D] (e1.trans e') ⟨D, acc, ys, rfl, rfl, hDa, al, fD, rfl⟩ fun a ha => by
            have q : a = D := by simpa using ha
            subst q
            exact e1.hh.free hD
    · rw [if_neg hz] at h; exact h.elim
theorem compL_len {vs : List Nat} : ∀ {ds : List D} {zs : List D}, compL vs g ft fa env ds = .ok zs → zs.length ≤ ds.length
  | [], zs, h => by cases h; exact Nat.le_refl _
  | d :: r, zs, h => by
    have h : ((g d (wipeE env vs)).bind fun e' => (ft e').bind fun k => match k with | .bool true => (fa e').bind fun y => (compL vs g ft fa env r).bind fun ys => .ok (y :: ys) | .bool false => compL vs g ft fa env r | _ => .no) = Rs.ok zs := h
    cases hg : g d (wipeE env vs) with
    | ex c => rw [hg] at h; cases h
    | no => rw [hg] at h; cases h
    | ok e' =>
      rw [hg] at h
      have h : ((ft e').bind fun k => match k with | .bool true => (fa e').bind fun y => (compL vs g ft fa env r).bind fun ys => .ok (y :: ys) | .bool false => compL vs g ft fa env r | _ => .no) = Rs.ok zs := h
      cases hf : ft e' with
      | ex c => rw [hf] at h; cases h
      | no => rw [hf] at h; cases h
      | ok k =>
        rw [hf] at h
        cases k with
        | bool k =>
          cases k with
          | false => exact Nat.le_succ_of_le (compL_len (zs := zs) h)
          | true =>
            have h : ((fa e').bind fun y => (compL vs g ft fa env r).bind fun ys => .ok (y :: ys)) = Rs.ok zs := h
            cases ha : fa e' with
            | ex c => rw [ha] at h; cases h
            | no => rw [ha] at h; cases h
            | ok y =>
              rw [ha] at h
              have h : ((compL vs g ft fa env r).bind fun ys => .ok (y :: ys)) = Rs.ok zs := h
              cases hm : compL vs g ft fa env r with
              | ex c => rw [hm] at h; cases h
              | no => rw [hm] at h; cases h
              | ok ys =>
                rw [hm] at h
                cases h
                simp only [List.length_cons]
                exact Nat.succ_le_succ (compL_len hm)
        | _ => cases h
theorem pd_comp (hc : X.calm = true) (hN : X.N.Nodup) (hi : PDI X E H0 ks tg iter it my false) (ok : BlkOk X.N X.env.scope scope own) (P : Parts X H0 ks ks1 tg ifs elt scope g my js ft fa .new) (hj : ∀ j ∈ js, j ∈ own.map (·.2) := by decide)
    (hs : ∀ x, foldedSetIterable iter X.env x = pure x := by intro _; rfl) : PD X E H0 ks (.ListComp elt [⟨tg, iter, ifs, 0⟩] scope pos) (eComp (own.map (·.2)) g it ft fa) .o1 := by
  obtain ⟨wi, pi, qi⟩ := hi.ex
  refine ⟨_, pe_lc (g := fG X scope tg) (tt := fT X scope ifs) (te := fE X scope elt) hc hN pi ok (fun s H C cl fp => ⟨fun pins s' σ H' v u Q I r h => h s H C cl fp pins s' u I r⟩) (fun s H C cl fp => ⟨fun pins s' σ H' Q I h => h s H C cl fp pins s' I⟩) (fun s H C cl fp => ⟨fun pins s' σ H' Q I h => h s H C cl fp pins s' I⟩) hs, rdg_comp qi P hj⟩
/-- x = [..] on one line -/
theorem pd1_setLc {j : Nat} {x : Str} {py spos : Pos} (hc : X.calm = true) (hN : X.N.Nodup) (hy : X.N[j]? = some x) (hyl : X.env.scope.names.lookup x = some .local) (hsw : swapsWith (.ListComp elt [⟨tg, iter, ifs, 0⟩] scope pos) (some (.Name x py)) spos.line X.env = pure true)
    (hi : PDI X E H0 ks tg iter it my false) (ok : BlkOk X.N X.env.scope scope own) (P : Parts X H0 ks ks1 tg ifs elt scope g my js ft fa .new) (hm : m ≠ .B := by decide) (hle : RM.o1.le m = true := by rfl) (hj : ∀ j ∈ js, j ∈ own.map (·.2) := by decide) (hjl : j < ks.length := by decide)
    (hs : ∀ x, foldedSetIterable iter X.env x = pure x := by intro _; rfl) : PD1 X E H0 ks (.Assign [.Name x py] (.ListComp elt [⟨tg, iter, ifs, 0⟩] scope pos) spos) (sAsg (gN j) (eComp (own.map (·.2)) g it ft fa)) (ks.set j m) mr := by
  obtain ⟨wi, pi, qi⟩ := hi.ex
  refine ⟨_, ps_setLc (g := fG X scope tg) (tt := fT X scope ifs) (te := fE X scope elt) hc hN hy hyl hsw pi ok (fun s H C cl fp => ⟨fun pins s' σ H' v u Q I r h => h s H C cl fp pins s' u I r⟩) (fun s H C cl fp => ⟨fun pins s' σ H' Q I h => h s H C cl fp pins s' I⟩) (fun s H C cl fp => ⟨fun pins s' σ H' Q I h => h s H C cl fp pins s' I⟩) hs, ?_⟩
  refine rdg_asg (fun F σ H env Q R d => rdg_comp qi P hj F σ H env Q R ?_) hjl
  cases hf : eComp (own.map (·.2)) g it ft fa env with
  | ok y => rw [hf] at d; exact Got.le (R.e0.trans R.eF) hle d
  | ex c => rw [hf] at d; exact d
  | no => rw [hf] at d; exact d

/-! ### a def -/
def start0 (n N : Nat) : List RM := List.replicate n .any ++ List.replicate (N - n) .un
theorem rel_start {K : PySem.W.Frag} {N : List Str} {vs : List V} {ds : List D} (h : DtAll K H vs ds) : Rel K H (start0 ds.length N.length) H (L2.start N vs) H (ds.map some ++ List.replicate (N.length - ds.length) none) := by
  have hl := dta_len h
  refine ⟨Same.refl _, Same.refl _, ?_, ?_, fun _ => [], fun i d hd => ?_, fun i j a ha => absurd ha (by simp), fun i a ha => absurd ha (by simp)⟩
  · unfold L2.start
    simp only [List.length_append, List.length_map, List.length_replicate, hl]
  · unfold start0
    simp only [List.length_append, List.length_map, List.length_replicate]
  · have hi : i < ds.length := by
      by_cases z : i < ds.length
      · exact z
      · rw [List.getElem?_append_right (by rw [List.length_map]; omega)] at hd
        rw [List.getElem?_replicate] at hd
        split at hd <;> cases hd
    rw [List.getElem?_append_left (by rw [List.length_map]; exact hi), List.getElem?_map] at hd
    cases q : ds[i]? with
    | none => rw [q] at hd; cases hd
    | some d' =>
      rw [q] at hd
      cases hd
      obtain ⟨v, e, r⟩ := dta_get h q
      refine ⟨v, ?_, ?_⟩
      · unfold L2.start
        rw [List.getElem?_append_left (by rw [List.length_map, hl]; exact hi), List.getElem?_map, e]
        rfl
      · have hk : kAt (start0 ds.length N.length) i = .any := by
          unfold kAt start0
          rw [List.getD_eq_getElem?_getD, List.getElem?_append_left (by rw [List.length_replicate]; exact hi), List.getElem?_replicate, if_pos hi]
          rfl
        rw [hk]
        exact ⟨r, rfl⟩
section
variable {P : Program} {w : World} {K : PySem.W.Frag} {mg : Str → Option Value} {base : Heap}
/-- a def whose body is denoted by g -/
theorem fn_pd {x qual : Str} {st : Stmt} {fn : Addr} {fd : FuncData} {N ps : List Str} {k n : Nat} {g : DS} (FF : Fun K x qual st fn fd) (S : FnScope N ps (defScope st)) (hn : ps.length = n)
    (hb : ∀ (cdv : Value) (A : Around) (outer : List Env) (s : Shared) (H : Hp) (E : XK), Room k (A.deeper (envOfC qual (defScope st) s.heap.objs.size fn cdv)) →
      ∃ ks', PDs (cxOf (L2.CX P w) P w K mg base N qual (defScope st) fn cdv A outer s H E) E H (start0 n N.length) (defBody st) g ks' .new) : FnOk P w K mg base (L2.CX P w) (k + 1) fn fd ps (Pr K mg n .new (runB N.length g)) := by
  refine FF.okX S (fun vs H Q E h => by rw [Pr.len vs H Q E h, hn]) fun cdv A outer s H vs Q E hr h => ?_
  obtain ⟨ds, hd, rfl, h⟩ := h
  obtain ⟨ks', hp⟩ := hb cdv A outer s H E hr
  obtain ⟨t, p, q⟩ := hp.ex
  refine ⟨t, p, q H (L2.start N vs) H _ _ (rel_start hd) ?_⟩
  unfold runB at h
  cases hg : g (ds.map some ++ List.replicate (N.length - ds.length) none) with
  | nx env' =>
    rw [hg] at h
    have h : ∀ F' v H' A, Same H F' → Same F' H' → ResOk K H F' H' .new v .none A → Q v H' := h
    exact fun F' σ' H' s' R' => h F' .non H' [] s' R'.eF ⟨.non, rfl⟩
  | rt d =>
    rw [hg] at h
    exact fun F' v H' A a b r => h F' v H' A a b r
  | ex c => rw [hg] at h; exact h
  | no => rw [hg] at h; exact h
theorem fn_pdN {x qual : Str} {st : Stmt} {fn : Addr} {fd : FuncData} {N ps : List Str} {k n : Nat} {g : DS} (FF : Fun K x qual st fn fd) (S : FnScope N ps (defScope st)) (hn : ps.length = n)
    (hb : ∀ (cdv : Value) (A : Around) (outer : List Env) (s : Shared) (H : Hp) (E : XK), Room k (A.deeper (envOfC qual (defScope st) s.heap.objs.size fn cdv)) →
      ∃ ks', PDs (cxOf (L2.CX P w) P w K mg base N qual (defScope st) fn cdv A outer s H E) E H (start0 n N.length) (defBody st) g ks' mr) : FnOk P w K mg base (L2.CX P w) (k + 1) fn fd ps (Pr K mg n mr (runN N.length g)) := by
  refine FF.okX S (fun vs H Q E h => by rw [Pr.len vs H Q E h, hn]) fun cdv A outer s H vs Q E hr h => ?_
  obtain ⟨ds, hd, rfl, h⟩ := h
  obtain ⟨ks', hp⟩ := hb cdv A outer s H E hr
  obtain ⟨t, p, q⟩ := hp.ex
  refine ⟨t, p, q H (L2.start N vs) H _ _ (rel_start hd) ?_⟩
  unfold runN at h
  cases hg : g (ds.map some ++ List.replicate (N.length - ds.length) none) with
  | nx env' =>
    rw [hg] at h
    exact h.elim
  | rt d =>
    rw [hg] at h
    exact fun F' v H' A a b r => h F' v H' A a b r
  | ex c => rw [hg] at h; exact h
  | no => rw [hg] at h; exact h
end
end
end Tf
namespace Tf
open PySem PySem.Spec PyProof.Rows L2
section
variable {X : Cx} {E : XK} {H0 : Hp} {ks ks' ks1 ks2 : List RM} {e a b c o : Expr} {f fa fb fc ft : DE} {m ma mb mc mr my : RM} {ta tb tc : TE} {F H : Hp} {σ : L2.St} {env : En} {Q : VK} {pos apos : Pos} {j : Nat}

/-! ### what a def alone holds, changed -/
def noB (ks : List RM) : Bool := ks.all (· != .B)
theorem noB_at {ks : List RM} (h : noB ks = true) (i : Nat) : kAt ks i ≠ .B := by
  by_cases hi : i < ks.length
  · unfold kAt
    rw [List.getD_eq_getElem?_getD, List.getElem?_eq_getElem hi]
    have q := List.all_eq_true.mp h ks[i] (List.getElem_mem hi)
    simpa using q
  · rw [kAt_out (by omega)]
    simp
/-- a change at p, which the slot j alone holds -/
theorem Rel.changed {K : PySem.W.Frag} {p : Addr} {ob : HO} {As : Nat → List Addr} {v : V} {d' : D} {A' : List Addr} (R : Rel K H0 ks F σ H env) (nb : noB ks = true)
    (h1 : ∀ (i : Nat) (d : D), env[i]? = some (some d) → ∃ v, σ[i]? = some (some v) ∧ ResOk K H0 F H (kAt ks i) v d (As i)) (h2 : ∀ i j a, a ∈ As i → a ∈ As j → i = j) (h3 : ∀ i, ∀ a ∈ As i, H a ≠ none ∧ F a = none)
    (hp : p ∈ As j) (hv : σ[j]? = some (some v)) (hj : j < env.length) (r : ResOk K H0 F (upd H p ob) (kAt ks j) v d' A') (fr : ∀ a ∈ A', a ∈ As j ∨ ∀ i, a ∉ As i) : Rel K H0 ks F σ (upd H p ob) (env.set j (some d')) := by
  have fp : F p = none := (h3 j p hp).2
  have s1 : Same F (upd H p ob) := fun a o e => by
    rw [upd_ne (ne_of_none e fp)]
    exact R.eF _ _ e
  refine ⟨R.e0, s1, by rw [List.length_set]; exact R.len, by rw [List.length_set]; exact R.kl, asSet As j A', fun i d hd => ?_, fun i k a ha hb => ?_, fun i a ha => ?_⟩
  · by_cases e : j = i
    · subst e
      rw [List.getElem?_set_self hj] at hd
      have q := Option.some.inj (Option.some.inj hd)
      subst q
      exact ⟨v, hv, by rw [asSet_eq]; exact r⟩
    · rw [List.getElem?_set_ne e] at hd
      obtain ⟨w, q1, q2⟩ := h1 i d hd
      refine ⟨w, q1, ?_⟩
      rw [asSet_ne e]
      have np : ∀ a ∈ As i, upd H p ob a = H a := fun a ha => upd_ne fun z => e (h2 j i p hp (z ▸ ha))
      cases hk : kAt ks i with
      | un => rw [hk] at q2; exact q2
      | B => exact absurd hk (noB_at nb i)
      | any => rw [hk] at q2; exact q2
      | new => rw [hk] at q2; exact q2
      | o1 =>
        rw [hk] at q2
        obtain ⟨p', xs, ds, rfl, rfl, z1, z2, z3, z4⟩ := q2
        exact ⟨p', xs, ds, rfl, rfl, by rw [np p' (by rw [z4]; simp)]; exact z1, z2, z3, z4⟩
      | o2 =>
        rw [hk] at q2
        obtain ⟨p', qs, dss, rfl, rfl, z1, z2, z3, z4, z5⟩ := q2
        have rows : ∀ {qs : List Addr} {dss : List (List D)}, (∀ a ∈ qs, upd H p ob a = H a) → RowsOk N0 (nw H0 F) H qs dss → RowsOk N0 (nw H0 F) (upd H p ob) qs dss := by
          intro qs
          induction qs with
          | nil => intro dss _ w; cases dss <;> exact w
          | cons q qs ih =>
            intro dss n w
            cases dss with
            | nil => exact w
            | cons ds dss =>
              obtain ⟨⟨xs, y1, y2⟩, y3⟩ := w
              exact ⟨⟨xs, by rw [n q (by simp)]; exact y1, y2⟩, ih (fun a ha => n a (List.mem_cons_of_mem _ ha)) y3⟩
        exact ⟨p', qs, dss, rfl, rfl, by rw [np p' (by rw [z3]; simp)]; exact z1, rows (fun a ha => np a (by rw [z3]; exact List.mem_cons_of_mem _ ha)) z2, z3, z4, z5⟩
      | dk =>
        rw [hk] at q2
        rcases q2 with ⟨p', ns, rfl, rfl, z1, z2, z3⟩ | q2
        · exact .inl ⟨p', ns, rfl, rfl, by rw [np p' (by rw [z3]; simp)]; exact z1, z2, z3⟩
        · exact .inr q2
      | dt =>
        rw [hk] at q2
        obtain ⟨p', ns, rfl, rfl, z1, z2, z3⟩ := q2
        exact ⟨p', ns, rfl, rfl, by rw [np p' (by rw [z3]; simp)]; exact z1, z2, z3⟩
      | ow =>
        rw [hk] at q2
        have e : rs (upd H p ob) (As i) = rs H (As i) := by
          funext a
          unfold rs
          by_cases ha : a ∈ As i
          · rw [if_pos ha, if_pos ha, np a ha]
          · rw [if_neg ha, if_neg ha]
        exact ⟨by rw [e]; exact q2.1, fun a ha => by rw [np a ha]; exact q2.2 a ha⟩
  · have case1 : ∀ a, a ∈ asSet As j A' i → i ≠ j → a ∈ As i := fun a h n => by rw [asSet_ne fun z => n z.symm] at h; exact h
    by_cases ei : i = j
    · by_cases ek : k = j
      · exact ei.trans ek.symm
      · rw [ei, asSet_eq] at ha
        rw [asSet_ne fun z => ek z.symm] at hb
        rcases fr a ha with z | z
        · exact ei.trans (h2 j k a z hb)
        · exact absurd hb (z k)
    · by_cases ek : k = j
      · rw [asSet_ne fun z => ei z.symm] at ha
        rw [ek, asSet_eq] at hb
        rcases fr a hb with z | z
        · exact (h2 i j a ha z).trans ek.symm
        · exact absurd ha (z i)
      · rw [asSet_ne fun z => ei z.symm] at ha
        rw [asSet_ne fun z => ek z.symm] at hb
        exact h2 i k a ha hb
  · by_cases ei : j = i
    · subst ei
      rw [asSet_eq] at ha
      exact r.own a ha
    · rw [asSet_ne ei] at ha
      obtain ⟨y1, y2⟩ := h3 i a ha
      refine ⟨?_, y2⟩
      by_cases z : a = p
      · subst z; rw [upd_same]; simp
      · rw [upd_ne z]; exact y1
/-- the list of slot j, and what follows when it is another one -/
theorem Rel.o1 {K : PySem.W.Frag} {ds : List D} (R : Rel K H0 ks F σ H env) (nb : noB ks = true) (hk : kAt ks j = .o1) (he : env[j]? = some (some (.list ds))) :
    ∃ p xs, σ[j]? = some (some (.ref p)) ∧ H p = some (.lst xs) ∧ DpAll N0 (nw H0 F) xs ds ∧ ∀ ys es, DpAll N0 (nw H0 F) ys es → Rel K H0 ks F σ (upd H p (.lst ys)) (env.set j (some (.list es))) := by
  obtain ⟨As, h1, h2, h3⟩ := R.sl
  obtain ⟨v, hv, r⟩ := h1 j _ he
  rw [hk] at r
  obtain ⟨p, xs, ds', rfl, e, hp, al, fp, hA⟩ := r
  cases e
  have hj : j < env.length := (List.getElem?_eq_some_iff.mp he).1
  refine ⟨p, xs, hv, hp, al, fun ys es al' => R.changed nb h1 h2 h3 (by rw [hA]; simp) hv hj (A' := [p]) ?_ fun a ha => .inl (by rw [hA]; exact ha)⟩
  rw [hk]
  exact ⟨p, ys, es, rfl, rfl, upd_same, al', fp, rfl⟩
theorem rows_len {K : PySem.W.Frag} {G : Hp} : ∀ {qs : List Addr} {dss : List (List D)}, RowsOk K G H qs dss → qs.length = dss.length
  | [], [], _ => rfl
  | _ :: _, _ :: _, ⟨_, r⟩ => by rw [List.length_cons, List.length_cons, rows_len r]
theorem rows_get {K : PySem.W.Frag} {G : Hp} : ∀ {qs : List Addr} {dss : List (List D)} {n : Nat} {ds : List D}, RowsOk K G H qs dss → dss[n]? = some ds → ∃ q xs, qs[n]? = some q ∧ H q = some (.lst xs) ∧ DpAll K G xs ds
  | [], [], n, ds, _, h => by simp at h
  | q :: _, _ :: _, 0, ds, ⟨⟨xs, a, b⟩, _⟩, h => ⟨q, xs, rfl, a, by
      have z := Option.some.inj h
      rw [← z]; exact b⟩
  | _ :: _, _ :: dss, n + 1, ds, ⟨_, r⟩, h => rows_get (n := n) (dss := dss) r (by simpa using h)
theorem rows_out {K : PySem.W.Frag} {G : Hp} {q : Addr} {ob : HO} : ∀ {qs : List Addr} {dss : List (List D)}, q ∉ qs → RowsOk K G H qs dss → RowsOk K G (upd H q ob) qs dss
  | [], [], _, _ => trivial
  | x :: _, _ :: _, n, ⟨⟨xs, a, b⟩, r⟩ => ⟨⟨xs, by
      rw [upd_ne fun z => n (by rw [← z]; simp)]
      exact a, b⟩, rows_out (fun z => n (List.mem_cons_of_mem _ z)) r⟩
theorem rows_set {K : PySem.W.Frag} {G : Hp} {q : Addr} {ys : List V} {es : List D} (al : DpAll K G ys es) : ∀ {qs : List Addr} {dss : List (List D)} {n : Nat}, qs.Nodup → qs[n]? = some q → RowsOk K G H qs dss → RowsOk K G (upd H q (.lst ys)) qs (dss.set n es)
  | [], [], n, _, h, _ => by simp at h
  | x :: xs, d :: dss, 0, nd, h, ⟨_, r⟩ => by
      have z := Option.some.inj h
      subst z
      exact ⟨⟨ys, upd_same, al⟩, rows_out (List.nodup_cons.mp nd).1 r⟩
  | x :: xs, d :: dss, n + 1, nd, h, ⟨⟨zs, a, b⟩, r⟩ => by
      obtain ⟨n1, n2⟩ := List.nodup_cons.mp nd
      have hq : q ∈ xs := List.mem_of_getElem? (show xs[n]? = some q by simpa using h)
      exact ⟨⟨zs, by
        rw [upd_ne fun z => n1 (by rw [z]; exact hq)]
        exact a, b⟩, rows_set al n2 (by simpa using h) r⟩
/-- the lists in the list of slot j -/
theorem Rel.o2 {K : PySem.W.Frag} {ds : List D} (R : Rel K H0 ks F σ H env) (nb : noB ks = true) (hk : kAt ks j = .o2) (he : env[j]? = some (some (.list ds))) :
    ∃ (p : Addr) (qs : List Addr) (dss : List (List D)), ds = dss.map .list ∧ σ[j]? = some (some (.ref p)) ∧ H p = some (.lst (qs.map .ref)) ∧ qs.length = dss.length ∧ ∀ (n : Nat) (row : List D), dss[n]? = some row → ∃ q xs, qs[n]? = some q ∧ H q = some (.lst xs) ∧ DpAll N0 (nw H0 F) xs row ∧
      ∀ ys es, DpAll N0 (nw H0 F) ys es → Rel K H0 ks F σ (upd H q (.lst ys)) (env.set j (some (.list ((dss.set n es).map .list)))) := by
  obtain ⟨As, h1, h2, h3⟩ := R.sl
  obtain ⟨v, hv, r⟩ := h1 j _ he
  rw [hk] at r
  obtain ⟨p, qs, dss, rfl, e, hp, rows, hA, nd, fA⟩ := r
  cases e
  have hj : j < env.length := (List.getElem?_eq_some_iff.mp he).1
  refine ⟨p, qs, dss, rfl, hv, hp, rows_len rows, fun n row hn => ?_⟩
  obtain ⟨q, xs, hq, hH, al⟩ := rows_get rows hn
  have hqm : q ∈ qs := List.mem_of_getElem? hq
  have hqA : q ∈ As j := by rw [hA]; exact List.mem_cons_of_mem _ hqm
  refine ⟨q, xs, hq, hH, al, fun ys es al' => R.changed nb h1 h2 h3 hqA hv hj (A' := As j) ?_ fun a ha => .inl ha⟩
  rw [hk]
  rw [hA] at nd
  obtain ⟨n1, n2⟩ := List.nodup_cons.mp nd
  refine ⟨p, qs, dss.set n es, rfl, rfl, ?_, rows_set al' n2 hq rows, hA, by rw [hA]; exact List.nodup_cons.mpr ⟨n1, n2⟩, fA⟩
  rw [upd_ne fun z => n1 (by rw [z]; exact hqm)]
  exact hp
theorem rows_app {K : PySem.W.Frag} {G : Hp} {q : Addr} {row : List D} (l : ∃ xs, H q = some (.lst xs) ∧ DpAll K G xs row) : ∀ {qs : List Addr} {dss : List (List D)}, RowsOk K G H qs dss → RowsOk K G H (qs ++ [q]) (dss ++ [row])
  | [], [], _ => ⟨l, trivial⟩
  | _ :: _, _ :: _, ⟨a, r⟩ => ⟨a, rows_app l r⟩
/-- what a def alone holds grows by a list that it alone holds -/
theorem Rel.o2app {K : PySem.W.Frag} {ds row : List D} {H1 F1 : Hp} {v : V} {A : List Addr} (R : Rel K H0 ks F σ H env) (e1 : Ext F H F1 H1) (nb : noB ks = true) (hk : kAt ks j = .o2) (he : env[j]? = some (some (.list ds))) (r1 : ResOk K H0 F1 H1 .o1 v (.list row) A) (n1 : ∀ a ∈ A, H a = none) :
    ∃ p vs, σ[j]? = some (some (.ref p)) ∧ H1 p = some (.lst vs) ∧ vs.length = ds.length ∧ Rel K H0 ks F1 σ (upd H1 p (.lst (vs ++ [v]))) (env.set j (some (.list (ds ++ [.list row])))) := by
  obtain ⟨As, h1, h2, h3⟩ := R.sl
  have R1 := R.ext e1
  obtain ⟨v0, hv, r⟩ := h1 j _ he
  have h1' : ∀ (i : Nat) (d : D), env[i]? = some (some d) → ∃ v, σ[i]? = some (some v) ∧ ResOk K H0 F1 H1 (kAt ks i) v d (As i) := fun i d hd => by
    obtain ⟨w, q1, q2⟩ := h1 i d hd
    exact ⟨w, q1, q2.mono e1⟩
  have h3' : ∀ i, ∀ a ∈ As i, H1 a ≠ none ∧ F1 a = none := fun i a ha => by
    obtain ⟨y1, y2⟩ := h3 i a ha
    exact ⟨fun z => y1 (e1.hh.free z), e1.free y2 y1⟩
  rw [hk] at r
  have r := r.mono e1
  obtain ⟨p, qs, dss, rfl, e, hp, rows, hA, nd, fA⟩ := r
  cases e
  obtain ⟨q, xs, row', rfl, e, hq, al, fq, rfl⟩ := r1
  cases e
  have hj : j < env.length := (List.getElem?_eq_some_iff.mp he).1
  have hqn : ∀ i, q ∉ As i := fun i z => (h3 i q z).1 (n1 q (by simp))
  have hqA : q ∉ p :: qs := by rw [← hA]; exact hqn j
  have hpq : p ≠ q := fun z => hqA (by rw [z]; simp)
  refine ⟨p, qs.map .ref, hv, hp, by rw [List.length_map, List.length_map, rows_len rows], ?_⟩
  have ed : dss.map PyData.list ++ [.list row] = (dss ++ [row]).map .list := by simp
  rw [ed]
  refine R1.changed nb h1' h2 h3' (by rw [hA]; simp) hv hj (A' := p :: (qs ++ [q])) ?_ fun a ha => ?_
  · rw [hk]
    rw [hA] at nd
    obtain ⟨m1, m2⟩ := List.nodup_cons.mp nd
    refine ⟨p, qs ++ [q], dss ++ [row], rfl, rfl, by rw [upd_same]; simp, ?_, rfl, ?_, ?_⟩
    · have base := rows_out (ob := .lst (qs.map .ref ++ [.ref q])) m1 rows
      have last : (upd H1 p (.lst (qs.map .ref ++ [.ref q]))) q = some (.lst xs) := by rw [upd_ne hpq.symm]; exact hq
      exact rows_app ⟨xs, last, al⟩ base
    · refine List.nodup_cons.mpr ⟨?_, ?_⟩
      · rw [List.mem_append]
        rintro (z | z)
        · exact m1 z
        · exact hpq (by simpa using z)
      · rw [List.nodup_append]
        refine ⟨m2, by simp, fun x hx y hy => ?_⟩
        have z : y = q := by simpa using hy
        subst z
        exact fun w => hqA (by rw [← w]; exact List.mem_cons_of_mem _ hx)
    · intro x hx
      rcases List.mem_cons.mp hx with z | z
      · subst z; exact (h3' j x (by rw [hA]; simp)).2
      · rcases List.mem_append.mp z with z | z
        · exact (h3' j x (by rw [hA]; exact List.mem_cons_of_mem _ z)).2
        · have w : x = q := by simpa using z
          subst w
          exact fq
  · rcases List.mem_cons.mp ha with z | z
    · exact .inl (by rw [hA, z]; simp)
    · rcases List.mem_append.mp z with z | z
      · exact .inl (by rw [hA]; exact List.mem_cons_of_mem _ z)
      · have w : a = q := by simpa using z
        subst w
        exact .inr hqn
end
end Tf
namespace Tf
open PySem PySem.Spec PyProof.Rows L2
section
variable {X : Cx} {E : XK} {H0 : Hp} {ks ks' ks1 ks2 : List RM} {e a b c o : Expr} {f fa fb fc ft fi : DE} {m ma mb mc mr my mi : RM} {ta tb tc : TE} {F H : Hp} {σ : L2.St} {env : En} {Q : VK} {pos apos ipos : Pos} {j : Nat}
theorem seqF {k : V → Hp → Prop} {g : D → Fl} {DD : Ends} (qa : Rdg X E H0 ks ta fa ma) (R : Rel X.K H0 ks F σ H env) (h : DoneF X.K X.mg E H0 F H ks' mr ((fa env).fl g) DD)
    (hk : ∀ d F1 x H1 A, fa env = .ok d → Ext F H F1 H1 → ResOk X.K H0 F1 H1 ma x d A → (∀ a ∈ A, H a = none) → Rel X.K H0 ks F1 σ H1 env → DoneF X.K X.mg E H0 F1 H1 ks' mr (g d) DD → k x H1) : ta σ H k := by
  refine qa F σ H env k R ?_
  cases hf : fa env with
  | ok d =>
    rw [hf] at h
    intro F1 v H1 A e r n
    exact hk d F1 v H1 A hf e r n (R.ext e) (DoneF.mono e.ff h)
  | ex c => rw [hf] at h; exact h
  | no => rw [hf] at h; exact h
theorem tyL {K : PySem.W.Frag} {p : Addr} {xs : List V} (h : H p = some (.lst xs)) : tyV K "list" (.ref p) H := .inl ⟨rfl, _, SqL.of h⟩
/-- the list at slot j -/
theorem env_list {g : List D → Fl} {D : Ends} (h : DoneF X.K X.mg E H0 F H ks' mr (match env[j]? with | some (some (.list xs)) => g xs | _ => .no) D) : ∃ xs, env[j]? = some (some (.list xs)) ∧ DoneF X.K X.mg E H0 F H ks' mr (g xs) D := by
  split at h
  · rename_i xs e
    exact ⟨xs, e, h⟩
  · exact h.elim
def isL (j : Nat) (e : En) : Bool := match e[j]? with
  | some (some (.list _)) => true
  | _ => false
/-- only where slot j holds a list -/
def sIf0 (j : Nat) (s : DS) : DS := fun e => if isL j e then s e else .no
theorem isL_ok {j : Nat} {env : En} (h : isL j env = true) : ∃ xs, env[j]? = some (some (.list xs)) := by
  unfold isL at h
  split at h
  · rename_i xs e
    exact ⟨xs, e⟩
  · cases h
theorem ite_done {D : Ends} {g : DS} (h : DoneF X.K X.mg E H0 F H ks' mr (sIf0 j g env) D) : (∃ xs, env[j]? = some (some (.list xs))) ∧ DoneF X.K X.mg E H0 F H ks' mr (g env) D := by
  unfold sIf0 at h
  by_cases z : isL j env = true
  · rw [if_pos z] at h
    exact ⟨isL_ok z, h⟩
  · rw [if_neg z] at h
    exact h.elim
/-- x.append(e), x.insert(i, e) .. of a list that the slot alone holds -/
def sChg (j : Nat) (f : List D → List D → Rs (List D)) (es : List DE) : DS := sIf0 j fun e => (eL es e).fl fun ds => match e[j]? with
  | some (some (.list xs)) => (f xs ds).fl fun ys => .nx (e.set j (some (.list ys)))
  | _ => .no
def cApp : List D → List D → Rs (List D)
  | xs, [d] => if lim xs.length then .ok (xs ++ [d]) else .no
  | _, _ => .no
def cIns : List D → List D → Rs (List D)
  | xs, [.int i, d] => if lim xs.length && (decide (0 ≤ i) && decide (i < 2 ^ 62)) then .ok (xs.take i.toNat ++ [d] ++ xs.drop i.toNat) else .no
  | _, _ => .no
def cExt : List D → List D → Rs (List D)
  | xs, [.list ys] => if lim (xs.length + ys.length) then .ok (xs ++ ys) else .no
  | _, _ => .no
theorem rdg_chg {ty : V → Hp → Prop} {r : V → List V → Hp → VK → Prop} {f : List D → List D → Rs (List D)} {t : TA} {es : List Expr} {fs : List DE} (qa : RdgL X E H0 ks t fs .new) (hk : kAt ks j = .o1) (nb : noB ks = true) (hty : ∀ p xs H, H p = some (.lst xs) → ty (.ref p) H)
    (hr : ∀ (F H : Hp) (p : Addr) (xs vs : List V) (ds es zs : List D) (Q : VK), Same F H → H p = some (.lst xs) → DpAll N0 (nw H0 F) xs ds → DpAll N0 (nw H0 F) vs es → f ds es = .ok zs → (∀ ys, DpAll N0 (nw H0 F) ys zs → Q .non (upd H p (.lst ys))) → r (.ref p) vs H Q)
    (hx : ∀ a b k, f a b ≠ .ex k) : RdgF X E H0 ks ks mr (tDrop fun σ H Q => tVar j σ H fun x H1 => ty x H1 ∧ t σ H1 fun vs H2 => r x vs H2 Q) (sChg j f fs) := fun F σ H env D R d => by
  obtain ⟨⟨xs0, he⟩, d⟩ := ite_done d
  obtain ⟨p, xs, hv, hp, _, _⟩ := R.o1 nb hk he
  refine ⟨.ref p, hv, hty p xs H hp, ?_⟩
  refine qa F σ H env _ R ?_
  have d : DoneF X.K X.mg E H0 F H ks mr ((eL fs env).fl _) D := d
  cases hl : eL fs env with
  | ex k => rw [hl] at d; exact d
  | no => rw [hl] at d; exact d
  | ok ds =>
    rw [hl] at d
    intro F1 vs H1 e1 l1
    have d : DoneF X.K X.mg E H0 F H ks mr (match env[j]? with | some (some (.list xs)) => (f xs ds).fl fun ys => .nx (env.set j (some (.list ys))) | _ => .no) D := d
    rw [he] at d
    have d : DoneF X.K X.mg E H0 F H ks mr ((f xs0 ds).fl fun ys => .nx (env.set j (some (.list ys)))) D := d
    have R1 := R.ext e1
    obtain ⟨p', xs', hv', hp', al, ch⟩ := R1.o1 nb hk he
    rw [hv] at hv'
    cases hv'
    cases hf : f xs0 ds with
    | ex k => exact absurd hf (hx _ _ k)
    | no => rw [hf] at d; exact d.elim
    | ok zs =>
      rw [hf] at d
      exact hr F1 H1 p xs' vs xs0 ds zs _ R1.eF hp' al l1 hf fun ys hy => d F1 σ _ e1.ff (ch ys zs hy)
variable {es : List Expr} {fs : List DE} {mth : Str} {id : String}
theorem app_rule (F H : Hp) (p : Addr) (xs vs : List V) (ds es zs : List D) (Q : VK) (_ : Same F H) (hp : H p = some (.lst xs)) (al : DpAll N0 (nw H0 F) xs ds) (av : DpAll N0 (nw H0 F) vs es) (hf : cApp ds es = .ok zs) (q : ∀ ys, DpAll N0 (nw H0 F) ys zs → Q .non (upd H p (.lst ys))) : rAppend (.ref p) vs H Q := by
  match es, av, hf with
  | [d], .cons h .nil, hf =>
    have hf : (if lim ds.length = true then Rs.ok (ds ++ [d]) else .no) = .ok zs := hf
    obtain ⟨z, rfl⟩ := ite_ok hf
    exact ⟨p, xs, _, rfl, rfl, hp, by rw [dpa_len al]; exact lim_lt z, q _ (dpa_app al (dpa_one h))⟩
  | [], _, hf => cases hf
  | _ :: _ :: _, _, hf => cases hf
theorem cApp_ex : ∀ a b k, cApp a b ≠ .ex k := by
  intro a b k h
  match b, h with
  | [d], h => exact ite_ex (c := lim a.length) h
  | [], h => cases h
  | _ :: _ :: _, h => cases h
theorem pd1_app (p : PE X o (tVar j)) (ha : PDL X E H0 ks (e :: es) fs .new) (hk : kAt ks j = .o1 := by rfl) (nb : noB ks = true := by decide) (hs : swapsWith (.Call (.Attribute o "append" apos) (e :: es) [] pos) none ipos.line X.env = pure false := by rfl)
    (hbase : attributeBase o "append" X.env (eval o X.env) = eval o X.env := by rfl)
    (hfew : ((backTo pos (starEach (e :: es) X.env)).all (fun x => !x.1) && (backToKw pos (keywordEach [] X.env)).all (fun x => x.1.isSome)
      && decide ((e :: es).length + ([] : List Keyword).length + (if ([] : List Keyword).isEmpty then 0 else 1) < 30)) = true := by rfl)
    (hline : (apos.endLine == pos.line) = true := by rfl) (he : starEach (e :: es) X.env = (false, eval e X.env) :: starEach es X.env := by rfl) (hpl : (backTo pos (starEach es X.env)).any (·.1) = false := by rfl) :
    PD1 X E H0 ks (.Expr (.Call (.Attribute o "append" apos) (e :: es) [] pos) ipos) (sChg j cApp fs) ks mr := by
  obtain ⟨t, pt, qt⟩ := ha.ex
  exact ⟨_, ps_expr (pe_bm PySem.F.plainAttrs_list PySem.F.slot_list_append PySem.F.type_list_append mt_append p pt hbase hfew hline he hpl) hs,
    rdg_chg (es := es) (ty := tyV X.K "list") qt hk nb (fun _ _ _ h => tyL h) (fun F H p xs vs ds es zs Q a b c d e f => app_rule F H p xs vs ds es zs Q a b c d e f) cApp_ex⟩
theorem ins_rule (F H : Hp) (p : Addr) (xs vs : List V) (ds es zs : List D) (Q : VK) (_ : Same F H) (hp : H p = some (.lst xs)) (al : DpAll N0 (nw H0 F) xs ds) (av : DpAll N0 (nw H0 F) vs es) (hf : cIns ds es = .ok zs) (q : ∀ ys, DpAll N0 (nw H0 F) ys zs → Q .non (upd H p (.lst ys))) :
    ∃ (l : Addr) (xs : List V) (i : Int) (y : V), V.ref p = .ref l ∧ vs = [.int i, y] ∧ H l = some (.lst xs) ∧ xs.length < sizeLine ∧ 0 ≤ i ∧ i < 2 ^ 63 ∧ Q .non (upd H l (.lst (xs.take i.toNat ++ [y] ++ xs.drop i.toNat))) := by
  match es, av, hf with
  | [.int i, d], .cons (.int _) (.cons h .nil), hf =>
    have hf : (if (lim ds.length && (decide (0 ≤ i) && decide (i < 2 ^ 62))) = true then Rs.ok (ds.take i.toNat ++ [d] ++ ds.drop i.toNat) else .no) = .ok zs := hf
    obtain ⟨z, rfl⟩ := ite_ok hf
    rw [Bool.and_eq_true, Bool.and_eq_true] at z
    have z2 := of_decide_eq_true z.2.1
    have z3 := of_decide_eq_true z.2.2
    exact ⟨p, xs, i, _, rfl, rfl, hp, by rw [dpa_len al]; exact lim_lt z.1, z2, by omega, q _ (dpa_app (dpa_app (dpa_take _ al) (dpa_one h)) (dpa_drop _ al))⟩
  | [], _, hf => cases hf
  | [x], _, hf => cases x <;> cases hf
  | .none :: _ :: [], _, hf => cases hf
  | .bool _ :: _ :: [], _, hf => cases hf
  | .str _ :: _ :: [], _, hf => cases hf
  | .list _ :: _ :: [], _, hf => cases hf
  | .tuple _ :: _ :: [], _, hf => cases hf
  | .dict _ :: _ :: [], _, hf => cases hf
  | x :: _ :: _ :: _, _, hf => cases x <;> cases hf
theorem cIns_ex : ∀ a b k, cIns a b ≠ .ex k := by
  intro a b k h
  unfold cIns at h
  split at h
  · exact ite_ex h
  · cases h
theorem pd1_ins (p : PE X o (tVar j)) (ha : PDL X E H0 ks (e :: es) fs .new) (hk : kAt ks j = .o1 := by rfl) (nb : noB ks = true := by decide) (hs : swapsWith (.Call (.Attribute o "insert" apos) (e :: es) [] pos) none ipos.line X.env = pure false := by rfl)
    (hbase : attributeBase o "insert" X.env (eval o X.env) = eval o X.env := by rfl)
    (hfew : ((backTo pos (starEach (e :: es) X.env)).all (fun x => !x.1) && (backToKw pos (keywordEach [] X.env)).all (fun x => x.1.isSome)
      && decide ((e :: es).length + ([] : List Keyword).length + (if ([] : List Keyword).isEmpty then 0 else 1) < 30)) = true := by rfl)
    (hline : (apos.endLine == pos.line) = true := by rfl) (he : starEach (e :: es) X.env = (false, eval e X.env) :: starEach es X.env := by rfl) (hpl : (backTo pos (starEach es X.env)).any (·.1) = false := by rfl) :
    PD1 X E H0 ks (.Expr (.Call (.Attribute o "insert" apos) (e :: es) [] pos) ipos) (sChg j cIns fs) ks mr := by
  obtain ⟨t, pt, qt⟩ := ha.ex
  exact ⟨_, ps_expr (pe_bm PySem.F.plainAttrs_list PySem.F.slot_list_insert PySem.F.type_list_insert mt_insert p pt hbase hfew hline he hpl) hs,
    rdg_chg (es := es) (ty := tyV X.K "list") qt hk nb (fun _ _ _ h => tyL h) (fun F H p xs vs ds es zs Q a b c d e f => ins_rule F H p xs vs ds es zs Q a b c d e f) cIns_ex⟩
end
end Tf
namespace Tf
open PySem PySem.Spec PyProof.Rows L2
section
variable {X : Cx} {E : XK} {H0 : Hp} {ks ks' ks1 ks2 : List RM} {e a b c o : Expr} {f fa fb fc ft fi fk : DE} {m ma mb mc mr my mi mk : RM} {ta tb tc : TE} {F H : Hp} {σ : L2.St} {env : En} {Q : VK} {pos apos ipos : Pos} {j : Nat}
/-- x[i][k] = v, of lists that the slot alone holds -/
def sSetR (j : Nat) (ix kx a : DE) : DS := sIf0 j fun e => (a e).fl fun v => (ix e).fl fun i => match e[j]? with
  | some (some (.list rows)) => match rowAt rows i with
    | some (n, row) => (kx e).fl fun k => (oSetL row k v).fl fun r => .nx (e.set j (some (.list (rows.set n (.list r)))))
    | none => .no
  | _ => .no
/-- x[i].append(v) -/
def sAppR (j : Nat) (ix : DE) (a : DE) : DS := sIf0 j fun e => (ix e).fl fun i => match e[j]? with
  | some (some (.list rows)) => match rowAt rows i with
    | some (n, row) => (a e).fl fun v => if lim row.length then .nx (e.set j (some (.list (rows.set n (.list (row ++ [v])))))) else .no
    | none => .no
  | _ => .no
theorem rowAt_some {rows : List D} {i : D} {n : Nat} {row : List D} (h : rowAt rows i = some (n, row)) : ∃ k, i = .int k ∧ ixN rows.length k = some n ∧ rows[n]? = some (.list row) := by
  unfold rowAt at h
  split at h
  · rename_i k
    cases q : ixN rows.length k with
    | none => rw [q] at h; cases h
    | some n' =>
      rw [q] at h
      have h : (match rows[n']? with | some (.list row) => some (n', row) | _ => none) = some (n, row) := h
      split at h
      · rename_i r e
        cases h
        exact ⟨k, rfl, q, e⟩
      · cases h
  · cases h
theorem map_list_get {dss : List (List D)} {n : Nat} {row : List D} (h : (dss.map PyData.list)[n]? = some (.list row)) : dss[n]? = some row := by
  rw [List.getElem?_map] at h
  cases q : dss[n]? with
  | none => rw [q] at h; cases h
  | some r =>
    rw [q] at h
    cases h
    rfl
theorem map_list_set {dss : List (List D)} {n : Nat} {row : List D} : (dss.map PyData.list).set n (.list row) = (dss.set n row).map .list := by rw [List.map_set]
theorem ixN_len {n m : Nat} {i : Int} (e : n = m) : ixN n i = ixN m i := by rw [e]
/-- where a slot's list of lists stands, from its row's place -/
theorem row_at {K : PySem.W.Frag} {rows : List D} {i : D} {n : Nat} {row : List D} (R : Rel K H0 ks F σ H env) (nb : noB ks = true) (hk : kAt ks j = .o2) (he : env[j]? = some (some (.list rows))) (h : rowAt rows i = some (n, row)) :
    ∃ p q k xs vs, σ[j]? = some (some (.ref p)) ∧ i = .int k ∧ H p = some (.lst vs) ∧ atI vs k = some (.ref q) ∧ H q = some (.lst xs) ∧ DpAll N0 (nw H0 F) xs row ∧
      ∀ ys es, DpAll N0 (nw H0 F) ys es → Rel K H0 ks F σ (upd H q (.lst ys)) (env.set j (some (.list (rows.set n (.list es))))) := by
  obtain ⟨k, rfl, hn, hr⟩ := rowAt_some h
  obtain ⟨p, qs, dss, rfl, hv, hp, hl, hrow⟩ := R.o2 nb hk he
  have hr := map_list_get hr
  obtain ⟨q, xs, hq, hH, al, ch⟩ := hrow n row hr
  refine ⟨p, q, k, xs, _, hv, rfl, hp, ?_, hH, al, fun ys es al' => ?_⟩
  · unfold atI
    rw [List.length_map, hl, ← List.length_map (f := PyData.list), hn]
    show (qs.map V.ref)[n]? = _
    rw [List.getElem?_map, hq]
    rfl
  · rw [map_list_set]
    exact ch ys es al'
theorem pd1_setR (hv : PE X o (tVar j)) (hi : PD X E H0 ks b fi mi) (hkx : PD X E H0 ks c fk mk) (ha : PD X E H0 ks a fa .new) (hk : kAt ks j = .o2 := by rfl) (nb : noB ks = true := by decide) (hs : PlainIx b := by exact fun _ _ => rfl)
    (hsub : ∀ v, assign (.Subscript (.Subscript o b apos) c ipos) X.env v = (do
      let ov ← holding [v] (eval (.Subscript o b apos) X.env)
      let iv ← holding [v, ov] (eval c X.env)
      standAt ipos
      holding [v, ov, iv] (setItem ov iv v)
      release [v, ov, iv] []) := by intro _; rfl)
    (h1 : swapsWithSole [.Subscript (.Subscript o b apos) c ipos] a pos.line X.env = pure false := by rfl) (h2 : swappedStores [.Subscript (.Subscript o b apos) c ipos] a X.env = pure none := by rfl)
    (h3 : (assignEach [.Subscript (.Subscript o b apos) c ipos] X.env).map (·.2) = [assign (.Subscript (.Subscript o b apos) c ipos) X.env] := by rfl) :
    PD1 X E H0 ks (.Assign [.Subscript (.Subscript o b apos) c ipos] a pos) (sSetR j fi fk fa) ks mr := by
  obtain ⟨ta, pa, qa⟩ := ha.ex
  obtain ⟨ti, pi, qi⟩ := hi.ex
  obtain ⟨tk, pk, qk⟩ := hkx.ex
  refine ⟨_, ps_asg pa (pg_sub (pe_ix ix_seq hv pi hs) pk set_list hsub) h1 h2 h3, fun F σ H env D R d => ?_⟩
  obtain ⟨⟨rows, he⟩, d⟩ := ite_done d
  show ta σ H fun x H1 => tVar j σ H1 fun w H2 => ti σ H2 fun i H3 => rIx X.K w i H3 fun q H4 => tk σ H4 fun k H5 => rSetL q k x H5 fun H6 => D.nx σ H6
  refine seqF qa R d fun dv F1 x H1 A1 _ e1 r1 _ R1 d1 => ?_
  obtain ⟨p, qs, dss, _, hv, hp, _, _⟩ := R1.o2 nb hk he
  refine ⟨.ref p, hv, ?_⟩
  refine seqF qi R1 d1 fun di F2 i H2 A2 _ e2 r2 _ R2 d2 => ?_
  have d2 : DoneF X.K X.mg E H0 F2 H2 ks mr (match env[j]? with | some (some (.list rows)) => (match rowAt rows di with | some (n, row) => (fk env).fl fun k => (oSetL row k dv).fl fun r => .nx (env.set j (some (.list (rows.set n (.list r))))) | none => .no) | _ => .no) D := d2
  rw [he] at d2
  have d2 : DoneF X.K X.mg E H0 F2 H2 ks mr (match rowAt rows di with | some (n, row) => (fk env).fl fun k => (oSetL row k dv).fl fun r => .nx (env.set j (some (.list (rows.set n (.list r))))) | none => .no) D := d2
  cases hrow : rowAt rows di with
  | none => rw [hrow] at d2; exact d2.elim
  | some nr =>
    obtain ⟨n, row⟩ := nr
    rw [hrow] at d2
    have d2 : DoneF X.K X.mg E H0 F2 H2 ks mr ((fk env).fl fun k => (oSetL row k dv).fl fun r => .nx (env.set j (some (.list (rows.set n (.list r)))))) D := d2
    obtain ⟨p', q, k, xs, vs, hv', hdi, hp', hat, hq, al, ch⟩ := row_at R2 nb hk he hrow
    rw [hv] at hv'
    cases hv'
    refine .inl ⟨p, vs, k, .ref q, rfl, dt_int (hdi ▸ r2.dt R2.eF), SqL.of hp', hat, ?_⟩
    refine seqF qk R2 d2 fun dk F3 kv H3 A3 _ e3 r3 _ R3 d3 => ?_
    obtain ⟨p3, q3, k3, xs3, vs3, hv3, hk3, hp3, hat3, hq3, al3, ch3⟩ := row_at R3 nb hk he hrow
    rw [hdi] at hk3
    cases hk3
    have eq3 : q3 = q := by
      have w := e3.hh _ _ hp'
      rw [hv] at hv3
      cases hv3
      rw [hp3] at w
      cases w
      rw [hat] at hat3
      cases hat3
      rfl
    subst eq3
    have d3 : DoneF X.K X.mg E H0 F3 H3 ks mr ((oSetL row dk dv).fl fun r => .nx (env.set j (some (.list (rows.set n (.list r)))))) D := d3
    unfold oSetL at d3
    cases dk with
    | int i =>
      have d3 : DoneF X.K X.mg E H0 F3 H3 ks mr ((match ixN row.length i with | some n => Rs.ok (row.set n dv) | none => .no).fl fun r => .nx (env.set j (some (.list (rows.set n (.list r)))))) D := d3
      cases hix : ixN row.length i with
      | none => rw [hix] at d3; exact d3.elim
      | some k' =>
        rw [hix] at d3
        refine ⟨q3, xs3, i, k', rfl, dt_int (r3.dt R3.eF), hq3, by rw [dpa_len al3]; exact hix, ?_⟩
        have hv1 := (r1.mono (e2.trans e3)).1
        exact d3 F3 σ _ (Same.refl _) (ch3 _ _ (dpa_set hv1 k' al3))
    | _ => exact d3.elim
theorem pd1_appR (hv : PE X o (tVar j)) (hi : PD X E H0 ks b fi mi) (ha : PD X E H0 ks a fa .new) (hk : kAt ks j = .o2 := by rfl) (nb : noB ks = true := by decide) (hs : PlainIx b := by exact fun _ _ => rfl)
    (hsw : swapsWith (.Call (.Attribute (.Subscript o b ipos) "append" apos) [a] [] pos) none pos.line X.env = pure false := by rfl)
    (hbase : attributeBase (.Subscript o b ipos) "append" X.env (eval (.Subscript o b ipos) X.env) = eval (.Subscript o b ipos) X.env := by rfl)
    (hfew : ((backTo pos (starEach [a] X.env)).all (fun x => !x.1) && (backToKw pos (keywordEach [] X.env)).all (fun x => x.1.isSome)
      && decide ([a].length + ([] : List Keyword).length + (if ([] : List Keyword).isEmpty then 0 else 1) < 30)) = true := by rfl)
    (hline : (apos.endLine == pos.line) = true := by rfl) (he : starEach [a] X.env = (false, eval a X.env) :: starEach [] X.env := by rfl) (hpl : (backTo pos (starEach [] X.env)).any (·.1) = false := by rfl) :
    PD1 X E H0 ks (.Expr (.Call (.Attribute (.Subscript o b ipos) "append" apos) [a] [] pos) pos) (sAppR j fi fa) ks mr := by
  obtain ⟨ta, pa, qa⟩ := ha.ex
  obtain ⟨ti, pi, qi⟩ := hi.ex
  refine ⟨_, ps_expr (pe_bm PySem.F.plainAttrs_list PySem.F.slot_list_append PySem.F.type_list_append mt_append (pe_ix ix_seq hv pi hs) (pa_cons pa pa_nil he) hbase hfew hline he hpl) hsw, fun F σ H env D R d => ?_⟩
  obtain ⟨⟨rows, he⟩, d⟩ := ite_done d
  show tVar j σ H fun w H2 => ti σ H2 fun i H3 => rIx X.K w i H3 fun q H4 => tyV X.K "list" q H4 ∧ ta σ H4 fun x H5 => rAppend q [x] H5 fun _ H6 => D.nx σ H6
  obtain ⟨p, qs, dss, _, hv, hp, _, _⟩ := R.o2 nb hk he
  refine ⟨.ref p, hv, ?_⟩
  refine seqF qi R d fun di F2 i H2 A2 _ e2 r2 _ R2 d2 => ?_
  have d2 : DoneF X.K X.mg E H0 F2 H2 ks mr (match env[j]? with | some (some (.list rows)) => (match rowAt rows di with | some (n, row) => (fa env).fl fun v => if lim row.length then .nx (env.set j (some (.list (rows.set n (.list (row ++ [v])))))) else .no | none => .no) | _ => .no) D := d2
  rw [he] at d2
  have d2 : DoneF X.K X.mg E H0 F2 H2 ks mr (match rowAt rows di with | some (n, row) => (fa env).fl fun v => if lim row.length then .nx (env.set j (some (.list (rows.set n (.list (row ++ [v])))))) else .no | none => .no) D := d2
  cases hrow : rowAt rows di with
  | none => rw [hrow] at d2; exact d2.elim
  | some nr =>
    obtain ⟨n, row⟩ := nr
    rw [hrow] at d2
    have d2 : DoneF X.K X.mg E H0 F2 H2 ks mr ((fa env).fl fun v => if lim row.length then .nx (env.set j (some (.list (rows.set n (.list (row ++ [v])))))) else .no) D := d2
    obtain ⟨p', q, k, xs, vs, hv', hdi, hp', hat, hq, al, ch⟩ := row_at R2 nb hk he hrow
    rw [hv] at hv'
    cases hv'
    refine .inl ⟨p, vs, k, .ref q, rfl, dt_int (hdi ▸ r2.dt R2.eF), SqL.of hp', hat, tyL hq, ?_⟩
    refine seqF qa R2 d2 fun dv F3 x H3 A3 _ e3 r3 _ R3 d3 => ?_
    obtain ⟨p3, q3, k3, xs3, vs3, hv3, hk3, hp3, hat3, hq3, al3, ch3⟩ := row_at R3 nb hk he hrow
    rw [hdi] at hk3
    cases hk3
    have eq3 : q3 = q := by
      have w := e3.hh _ _ hp'
      rw [hv] at hv3
      cases hv3
      rw [hp3] at w
      cases w
      rw [hat] at hat3
      cases hat3
      rfl
    subst eq3
    have d3 : DoneF X.K X.mg E H0 F3 H3 ks mr (if lim row.length = true then .nx (env.set j (some (.list (rows.set n (.list (row ++ [dv])))))) else .no) D := d3
    by_cases z : lim row.length = true
    · rw [if_pos z] at d3
      exact ⟨q3, xs3, x, rfl, rfl, hq3, by rw [dpa_len al3]; exact lim_lt z, d3 F3 σ _ (Same.refl _) (ch3 _ _ (dpa_app al3 (dpa_one r3.1)))⟩
    · rw [if_neg z] at d3
      exact d3.elim
end
end Tf
namespace Tf
open PySem PySem.Spec PyProof.Rows L2
section
variable {X : Cx} {E : XK} {H0 : Hp} {ks ks' ks1 ks2 : List RM} {e a b c o : Expr} {f fa fb fc ft fi fk : DE} {m ma mb mc mr my mi mk : RM} {ta tb tc : TE} {F H : Hp} {σ : L2.St} {env : En} {Q : VK} {pos apos ipos : Pos} {j : Nat}
variable {tg iter elt : Expr} {ifs : List Expr} {it : DI} {g : DG} {js : List Nat} {own : List (Str × Nat)} {scope : Scope}
/-- a list of lists, each of them new -/
theorem rdg_comp2 {wi : TI} (hq : ∀ (F : Hp) (σ : L2.St) (H : Hp) (env : En) (R : It → Hp → Prop), Rel X.K H0 ks F σ H env → DoneI X.K X.mg E H0 F H false my (it env) R → wi σ H R)
    (P : Parts X H0 ks ks1 tg ifs elt scope g my js ft fa .o1) (hj : ∀ j ∈ js, j ∈ own.map (·.2)) :
    Rdg X E H0 ks (tLc wi (fG X scope tg) (fT X scope ifs) (fE X scope elt) (own.map (·.2))) (eComp (own.map (·.2)) g it ft fa) .o2 := by
  intro F σ H env Q R h
  generalize hvs : own.map (·.2) = vs at hj h ⊢
  refine hq F σ H env _ R ?_
  have h : Done X.K X.mg E H0 F H .o2 ((it env).bind fun ds => if ds.length ≤ 100000 then ((compL vs g ft fa env ds).nox).bind fun ys => .ok (.list ys) else .no) Q := h
  cases hit : it env with
  | ex c => rw [hit] at h; exact h
  | no => rw [hit] at h; exact h
  | ok ds =>
    rw [hit] at h
    intro F1 H1 J e1 ok L hL
    have h : Done X.K X.mg E H0 F H .o2 (if ds.length ≤ 100000 then ((compL vs g ft fa env ds).nox).bind fun ys => .ok (.list ys) else .no) Q := h
    by_cases hz : ds.length ≤ 100000
    · rw [if_pos hz] at h
      cases hc : compL vs g ft fa env ds with
      | ex c => rw [hc] at h; exact h.elim
      | no => rw [hc] at h; exact h.elim
      | ok all =>
        rw [hc] at h
        have h : Got X.K H0 F H .o2 (.list all) Q := h
        have R1 := R.ext e1
        refine ⟨fun i m H' => m = ds.length - i ∧ i ≤ ds.length ∧ ∃ (F' : Hp) (qs : List Addr) (yss : List (List D)) (zs : List D), Ext F1 H1 F' H' ∧ F' L = none ∧ H' L = some (.lst (qs.map .ref)) ∧ RowsOk N0 (nw H0 F') H' qs yss ∧ (L :: qs).Nodup ∧ (∀ q ∈ qs, F' q = none ∧ H1 q = none) ∧ qs.length ≤ i ∧
            compL vs g ft fa env (ds.drop i) = .ok zs ∧ yss.map .list ++ zs = all,
          ⟨ds.length, by simp, Nat.zero_le _, F1, [], [], all, Ext.heap R1.eF (same_upd hL), R1.eF.free hL, upd_same, trivial, by simp, fun q hq => absurd hq (by simp), Nat.le_refl _, hc, rfl⟩, ?_⟩
        rintro i m H' ⟨rfl, hile, F', qs, yss, zs, e', fL, hLa, rows, nd, own', hacc, hcz, hall⟩
        have st : ItSt F1 H1 false F' H' := ⟨e'.ff, e'.fh, fun _ => e'.hh⟩
        have R' := R1.ext e'
        by_cases hlt : i < ds.length
        · refine .inr ⟨ok.go i F' H' hlt st, fun H2 => ∃ (F2 : Hp) (qs : List Addr) (yss : List (List D)) (zs : List D), Ext F1 H1 F2 H2 ∧ F2 L = none ∧ H2 L = some (.lst (qs.map .ref)) ∧ RowsOk N0 (nw H0 F2) H2 qs yss ∧ (L :: qs).Nodup ∧ (∀ q ∈ qs, F2 q = none ∧ H1 q = none) ∧ qs.length ≤ i + 1 ∧
              compL vs g ft fa env (ds.drop (i + 1)) = .ok zs ∧ yss.map .list ++ zs = all,
            fun H2 h2 => ⟨ds.length - (i + 1), by omega, rfl, hlt, h2⟩, fun x H2 y => ?_⟩
          obtain ⟨F2, e2, r2⟩ := ok.yld i F' H' x H2 ds[i] (List.getElem?_eq_getElem hlt) st y
          rw [List.drop_eq_getElem_cons hlt] at hcz
          have R2 := R'.ext e2
          have nL : H' L ≠ none := by rw [hLa]; simp
          have nq : ∀ q ∈ qs, H' q ≠ none := fun q hq => by
            obtain ⟨xs, z⟩ := rows_at rows q hq
            rw [z]; simp
          refine comp_turn (L := L) (vs := vs) P R2 hj r2 (R2.wipe vs) (more := compL vs g ft fa env (ds.drop (i + 1))) (zs := zs) (res := .no) hcz (fun F3 H3 e3 hm => ?_) (fun y ys' F3 v H3 A e3 hm hzs r3 n3 => ?_)
          · have e23 := e2.trans e3
            exact ⟨F3, qs, yss, zs, e'.trans e23, e23.free fL nL, e23.hh _ _ hLa, rows_mono (nw_mono e23.ff) e23.hh rows, nd, fun q hq => ⟨e23.free (own' q hq).1 (nq q hq), (own' q hq).2⟩, by omega, hm, hall⟩
          · have e23 := e2.trans e3
            have f3 := e23.free fL nL
            obtain ⟨p, xs, row, rfl, rfl, hp, al, fp, rfl⟩ := r3
            have p2 : H2 p = none := n3 p (by simp)
            have p' : H' p = none := e2.hh.free p2
            have p1 : H1 p = none := e'.hh.free p'
            have npL : p ≠ L := fun z => nL (by rw [← z]; exact p')
            have npq : p ∉ qs := fun z => nq p z p'
            obtain ⟨nd1, nd2⟩ := List.nodup_cons.mp nd
            have rows3 := rows_mono (nw_mono (H0 := H0) e23.ff) e23.hh rows
            have e13 := e'.trans e23
            refine ⟨qs.map .ref, e23.hh _ _ hLa, by rw [List.length_map]; exact Nat.lt_of_le_of_lt hacc (Nat.lt_of_lt_of_le hlt (Nat.le_trans hz (by decide))), F3, qs ++ [p], yss ++ [row], ys', ?_, f3, by rw [upd_same]; simp, ?_, ?_, ?_, by rw [List.length_append]; simp; omega, hm, by rw [← hall, hzs]; simp⟩
            · refine ⟨e13.ff, fun b o hb => ?_, fun b o hb => ?_, e13.fr⟩
              · rw [upd_ne (ne_of_none hb hL)]
                exact e13.hh _ _ hb
              · rw [upd_ne (ne_of_none hb f3)]
                exact e13.fh _ _ hb
            · refine rows_app ⟨xs, ?_, al⟩ (rows_out nd1 rows3)
              rw [upd_ne npL]
              exact hp
            · refine List.nodup_cons.mpr ⟨?_, ?_⟩
              · rw [List.mem_append]
                rintro (z | z)
                · exact nd1 z
                · have w : L = p := by simpa using z
                  exact npL w.symm
              · rw [List.nodup_append]
                refine ⟨nd2, by simp, fun x hx y hy => ?_⟩
                have z : y = p := by simpa using hy
                subst z
                exact fun w => npq (by rw [← w]; exact hx)
            · intro q hq
              rcases List.mem_append.mp hq with z | z
              · exact ⟨e23.free (own' q z).1 (nq q z), (own' q z).2⟩
              · have w : q = p := by simpa using z
                subst w
                exact ⟨fp, p1⟩
        · have ei : i = ds.length := by omega
          subst ei
          refine .inl ⟨ok.stop F' H' st, ?_⟩
          rw [List.drop_length] at hcz
          have hz0 : zs = [] := by cases hcz; rfl
          subst hz0
          rw [List.append_nil] at hall
          subst hall
          refine h F' (.ref L) H' (L :: qs) (e1.trans e') ⟨L, qs, yss, rfl, rfl, hLa, rows, rfl, nd, fun a ha => ?_⟩ fun a ha => ?_
          · rcases List.mem_cons.mp ha with z | z
            · subst z; exact fL
            · exact (own' a z).1
          · rcases List.mem_cons.mp ha with z | z
            · subst z; exact e1.hh.free hL
            · exact e1.hh.free (own' a z).2
    · rw [if_neg hz] at h; exact h.elim
theorem pd_comp2 (hc : X.calm = true) (hN : X.N.Nodup) (hi : PDI X E H0 ks tg iter it my false) (ok : BlkOk X.N X.env.scope scope own) (P : Parts X H0 ks ks1 tg ifs elt scope g my js ft fa .o1) (hj : ∀ j ∈ js, j ∈ own.map (·.2) := by decide)
    (hs : ∀ x, foldedSetIterable iter X.env x = pure x := by intro _; rfl) : PD X E H0 ks (.ListComp elt [⟨tg, iter, ifs, 0⟩] scope pos) (eComp (own.map (·.2)) g it ft fa) .o2 := by
  obtain ⟨wi, pi, qi⟩ := hi.ex
  refine ⟨_, pe_lc (g := fG X scope tg) (tt := fT X scope ifs) (te := fE X scope elt) hc hN pi ok (fun s H C cl fp => ⟨fun pins s' σ H' v u Q I r h => h s H C cl fp pins s' u I r⟩) (fun s H C cl fp => ⟨fun pins s' σ H' Q I h => h s H C cl fp pins s' I⟩) (fun s H C cl fp => ⟨fun pins s' σ H' Q I h => h s H C cl fp pins s' I⟩) hs, rdg_comp2 qi P hj⟩
theorem pd1_setLc2 {j : Nat} {x : Str} {py spos : Pos} (hc : X.calm = true) (hN : X.N.Nodup) (hy : X.N[j]? = some x) (hyl : X.env.scope.names.lookup x = some .local) (hsw : swapsWith (.ListComp elt [⟨tg, iter, ifs, 0⟩] scope pos) (some (.Name x py)) spos.line X.env = pure true)
    (hi : PDI X E H0 ks tg iter it my false) (ok : BlkOk X.N X.env.scope scope own) (P : Parts X H0 ks ks1 tg ifs elt scope g my js ft fa .o1) (hm : m ≠ .B := by decide) (hle : RM.o2.le m = true := by rfl) (hj : ∀ j ∈ js, j ∈ own.map (·.2) := by decide) (hjl : j < ks.length := by decide)
    (hs : ∀ x, foldedSetIterable iter X.env x = pure x := by intro _; rfl) : PD1 X E H0 ks (.Assign [.Name x py] (.ListComp elt [⟨tg, iter, ifs, 0⟩] scope pos) spos) (sAsg (gN j) (eComp (own.map (·.2)) g it ft fa)) (ks.set j m) mr := by
  obtain ⟨wi, pi, qi⟩ := hi.ex
  refine ⟨_, ps_setLc (g := fG X scope tg) (tt := fT X scope ifs) (te := fE X scope elt) hc hN hy hyl hsw pi ok (fun s H C cl fp => ⟨fun pins s' σ H' v u Q I r h => h s H C cl fp pins s' u I r⟩) (fun s H C cl fp => ⟨fun pins s' σ H' Q I h => h s H C cl fp pins s' I⟩) (fun s H C cl fp => ⟨fun pins s' σ H' Q I h => h s H C cl fp pins s' I⟩) hs, ?_⟩
  refine rdg_asg (fun F σ H env Q R d => rdg_comp2 qi P hj F σ H env Q R ?_) hjl
  cases hf : eComp (own.map (·.2)) g it ft fa env with
  | ok y => rw [hf] at d; exact Got.le (R.e0.trans R.eF) hle d
  | ex c => rw [hf] at d; exact d
  | no => rw [hf] at d; exact d

/-! ### what a def knows of the others -/
structure Cal (P : Program) (w : World) (K : PySem.W.Frag) (mg : Str → Option Value) (base : Heap) (x : Str) (ps : List Str) (k n : Nat) (m : RM) (g : List D → Rs D) : Prop where
  ex : ∃ (fn : Addr) (fd : FuncData), mg x = some (.ref fn) ∧ PySem.W.keepIn K (.ref fn) = true ∧ Binds K fd ps [] ∧ FnOk P w K mg base (L2.CX P w) k fn fd ps (Pr K mg n m g)
theorem pd_callC {x : Str} {ps : List Str} {p : Pos} {k n : Nat} {es : List Expr} {fs : List DE} {g : List D → Rs D} (c : Cal X.prog X.w X.K X.mg X.base x ps k n m g) (hr : Room k X.A) (hx : Passes (L2.CX X.prog X.w) X E) (ha : PDL X E H0 ks (e :: es) fs .B) (hg : Gl X x := by rfl)
    (hn : fs.length = n := by rfl) (hmm : m = .new ∨ m = .o1 ∨ m = .o2 ∨ m = .dk := by first | exact .inl rfl | exact .inr (.inl rfl) | exact .inr (.inr (.inl rfl)) | exact .inr (.inr (.inr rfl)))
    (hdb : (x == ("__debug__" : Str)) = false := by decide) (he : starEach (e :: es) X.env = (false, eval e X.env) :: starEach es X.env := by rfl) (hpl : (backTo pos (starEach es X.env)).any (·.1) = false := by rfl) :
    PD X E H0 ks (.Call (.Name x p) (e :: es) [] pos) (eCall g fs) m := by
  obtain ⟨fn, fd, h1, h2, h3, h4⟩ := c.ex
  exact pd_call h4 hr hg h1 h2 h3 hx ha hn hmm hdb he hpl
theorem pd_call0 {x : Str} {p : Pos} {k : Nat} {g : List D → Rs D} (c : Cal X.prog X.w X.K X.mg X.base x [] k 0 m g) (hr : Room k X.A) (hx : Passes (L2.CX X.prog X.w) X E) (hg : Gl X x := by rfl)
    (hmm : m = .new ∨ m = .o1 ∨ m = .o2 ∨ m = .dk := by first | exact .inl rfl | exact .inr (.inl rfl) | exact .inr (.inr (.inl rfl)) | exact .inr (.inr (.inr rfl)))
    (hdb : (x == ("__debug__" : Str)) = false := by decide) :
    PD X E H0 ks (.Call (.Name x p) [] [] pos) (eCall g []) m := by
  obtain ⟨fn, fd, h1, h2, h3, h4⟩ := c.ex
  refine ⟨_, L2.pe_call0 (hdb := hdb) h4 hr hg h1 h2 h3 .nil hx, fun F σ H env Q R h => ?_⟩
  have h : Done X.K X.mg E H0 F H m (g []) Q := h
  refine ⟨[], DtAll.nil, rfl, ?_⟩
  cases hgd : g [] with
  | ok d =>
    rw [hgd] at h
    intro F' v H' A s1 s2 r
    obtain ⟨r1, n1⟩ := joinF_res R.e0 R.eF s1 hmm r
    exact h (joinF F H F') v H' A (joinF_ext R.eF s1 s2) r1 n1
  | ex c =>
    rw [hgd] at h
    exact fun C hC H' s => h C hC H' ((R.e0.trans R.eF).trans s)
  | no => rw [hgd] at h; exact h
section
variable {P : Program} {w : World} {K : PySem.W.Frag} {mg : Str → Option Value} {base : Heap} {N : List Str} {qual : Str} {fn : Addr} {cdv : Value} {A : Around} {outer : List Env} {s : Shared} {sc : Scope}
theorem takesD : Takes (cxOf (L2.CX P w) P w K mg base N qual sc fn cdv A outer s H E) (fun cls d _ H => E cls d H) := takes_of rfl rfl rfl rfl
theorem passD : Passes (L2.CX P w) (cxOf (L2.CX P w) P w K mg base N qual sc fn cdv A outer s H E) E := passes_call takesD fun _ _ _ _ h => h
theorem passOwnD : PassesOwn (model P w) (cxOf (L2.CX P w) P w K mg base N qual sc fn cdv A outer s H E).A (cxOf (L2.CX P w) P w K mg base N qual sc fn cdv A outer s H E).env (cxOf (L2.CX P w) P w K mg base N qual sc fn cdv A outer s H E).xe := passes_of rfl
end
theorem passB : Passes (L2.CX X.prog X.w) X E0 := passL
theorem un64 {k : Nat} {A : Around} (h : Room k A) : A.units + 64 < cLine := by have := h.un; omega
theorem un65 {k : Nat} {A : Around} (h : Room k A) : A.units + 65 < cLine := by have := h.un; omega
end
end Tf
namespace Tf
open PySem PySem.Spec PyProof.Rows L2
section
variable {X : Cx} {E : XK} {H0 : Hp} {ks ks' ks1 ks2 : List RM} {e a b c o : Expr} {f fa fb fc ft fi fk fo : DE} {m ma mb mc mr my mi mk mo : RM} {ta tb tc : TE} {F H : Hp} {σ : L2.St} {env : En} {Q : VK} {pos apos ipos : Pos} {j : Nat}
theorem dpa_rng {K : PySem.W.Frag} {G : Hp} (lo : Int) (l : List Nat) : DpAll K G (l.map fun i => V.int (lo + (i : Nat))) (l.map fun i => .int (lo + (i : Nat))) := by
  induction l with
  | nil => exact .nil
  | cons x r ih => exact .cons (.int _) ih
/-- list(range(n)) -/
theorem pd_lrg {p p2 q2 : Pos} (hc : X.calm = true) (ha : PD X E H0 ks a fa ma) (hm : X.mg "list" = none) (hm2 : X.mg "range" = none) (hg : Gl X "list" := by rfl) (hg2 : Gl X "range" := by rfl)
    (na : starEach [a] X.env = (false, eval a X.env) :: starEach [] X.env := by rfl) (na2 : starEach [Expr.Call (.Name "range" p2) [a] [] q2] X.env = (false, eval (.Call (.Name "range" p2) [a] [] q2) X.env) :: starEach [] X.env := by rfl) :
    PD X E H0 ks (.Call (.Name "list" p) [.Call (.Name "range" p2) [a] [] q2] [] pos) (e1 oLrg fa) .o1 := by
  obtain ⟨ta, pa, qa⟩ := ha.ex
  refine ⟨_, pe_listRg hc hg hm (prg_1 hg2 hm2 pa na) na2, fun F σ H env Q R h => ?_⟩
  show ta σ H fun x H1 => ∃ n, x = .int n ∧ RgOk 0 n ∧ ∀ q, H1 q = none → Q (.ref q) (upd H1 q (.lst (rgV 0 n)))
  refine seq1 qa R h fun dx F1 x H1 A1 _ e1 r1 _ R1 h1 => ?_
  cases dx with
  | int n =>
    have h1 : Done X.K X.mg E H0 F1 H1 .o1 (if (decide (0 ≤ n) && decide (n ≤ 100000)) = true then .ok (.list (rng 0 n.toNat)) else .no) Q := h1
    by_cases z : (decide (0 ≤ n) && decide (n ≤ 100000)) = true
    · rw [if_pos z] at h1
      rw [Bool.and_eq_true] at z
      have z1 : 0 ≤ n := of_decide_eq_true z.1
      have z2 : n ≤ 100000 := of_decide_eq_true z.2
      refine ⟨n, dt_int (r1.dt R1.eF), RgOk.of_le (by omega) (by omega) (by omega) z1, fun q hq => Got.lst h1 R1.eF hq ?_⟩
      unfold rgV rng
      rw [Int.sub_zero]
      exact dpa_rng 0 _
    · rw [if_neg z] at h1; exact h1.elim
  | _ => exact h1.elim
theorem pd_max2 {p : Pos} (hc : X.calm = true) (ha : PD X E H0 ks a fa ma) (hb : PD X E H0 ks b fb mb) (hm : X.mg "max" = none) (hg : Gl X "max" := by rfl)
    (h1 : starEach [a, b] X.env = (false, eval a X.env) :: starEach [b] X.env := by rfl) (h2 : starEach [b] X.env = (false, eval b X.env) :: starEach [] X.env := by rfl) (hpl : (backTo pos (starEach [b] X.env)).any (·.1) = false := by rfl) :
    PD X E H0 ks (.Call (.Name "max" p) [a, b] [] pos) (e2 oMax2 fa fb) .new := by
  obtain ⟨ta, pa, qa⟩ := ha.ex
  obtain ⟨tb, pb, qb⟩ := hb.ex
  refine ⟨_, pe_callB (call_max2 hc) hg hm boot_max (pa_cons pa (pa_cons pb pa_nil h2) h1) (by decide) (by decide) h1 hpl, fun F σ H env Q R h => ?_⟩
  show ta σ H fun x H1 => tb σ H1 fun y H2 => ∃ i j, [x, y] = [.int i, .int j] ∧ Q (.int (if j > i then j else i)) H2
  refine seq1 qa R h fun dx F1 x H1 A1 _ e1 r1 _ R1 h1 => ?_
  refine seq1 qb R1 h1 fun dy F2 y H2 A2 _ e2 r2 _ R2 h2 => ?_
  have d1 := (r1.mono e2).dt R2.eF
  have d2 := r2.dt R2.eF
  cases dx with
  | int i =>
    cases dy with
    | int j =>
      exact ⟨i, j, by rw [dt_int d1, dt_int d2], Got.flat (show Got X.K H0 F2 H2 .new (.int (if j > i then j else i)) Q from h2) R2.eF fun _ => .int _⟩
    | _ => exact h2.elim
  | _ => cases dy <;> exact h2.elim
/-- for i, x in enumerate(a frozen list) -/
theorem itok_enum {K : PySem.W.Frag} {F1 H1 : Hp} {l : Addr} {xs : List V} {ds : List D} (hm : m.shr = true) (h0 : Same H0 F1) (hs : ∀ F' H', ItSt F1 H1 true F' H' → SqL K H' l xs) (ha : ∀ F' H', ItSt F1 H1 true F' H' → DpAll (fr K m) (reg H0 F' H' m) xs ds) :
    ItOk K H0 F1 H1 true (Ite K l) m (enumD ds) := by
  have len : (enumD ds).length = ds.length := by unfold enumD; rw [List.length_map, List.length_zipIdx]
  have hrd : m.rd = true := by cases m <;> first | rfl | exact nomatch hm
  refine ⟨fun i F' H' hi st => ?_, fun i F' H' x H'' d hd st y => ?_, fun F' H' st => ?_⟩
  · rw [len] at hi
    have al := ha F' H' st
    have hl : i < xs.length := by rw [dpa_len al]; exact hi
    exact ⟨xs, xs[i], hs F' H' st, List.getElem?_eq_getElem hl⟩
  · obtain ⟨T, w, rfl, hT, rfl, y⟩ := y
    have al := ha F' H' st
    unfold enumD at hd
    rw [List.getElem?_map] at hd
    cases q : ds.zipIdx[i]? with
    | none => rw [q] at hd; cases hd
    | some pr =>
      rw [q] at hd
      rw [List.getElem?_zipIdx] at q
      cases q2 : ds[i]? with
      | none => rw [q2] at q; cases q
      | some d0 =>
        rw [q2] at q
        cases q
        cases hd
        obtain ⟨v, e1, e2⟩ := dpa_get al q2
        have ev := y xs (hs F' H' st)
        rw [e1] at ev
        cases ev
        have fT : F' T = none := st.2.1.free hT
        have h0T : H0 T = none := h0.free (st.1.free fT)
        have s2 : Same (reg H0 F' H' m) (reg H0 (upd F' T (.tup [.int (i : Nat), w])) (upd H' T (.tup [.int (i : Nat), w])) m) := by
          cases m with
          | any => exact same_upd fT
          | new => exact nw_mono (same_upd fT)
          | _ => exact nomatch hm
        refine ⟨upd F' T (.tup [.int (i : Nat), w]), Ext.new st.2.1 hT, reg_res hrd (Dp.tup (xs := [.int ((i : Nat) : Int), w]) (SqT.of ?_) (.cons ?_ (.cons (dp_mono s2 e2) .nil)))⟩
        · cases m with
          | any => exact upd_same
          | new => exact nw_at h0T upd_same
          | _ => exact nomatch hm
        · simp only [Nat.zero_add]
          exact .int _
  · rw [len]
    exact ⟨xs, hs F' H' st, by rw [dpa_len (ha F' H' st)]; exact Nat.le_refl _⟩
theorem pdi_enum {elts : List Expr} {kk : Nat} {tpos p : Pos} (ha : PD X E H0 ks a fa m) (hm : X.mg "enumerate" = none) (hg : Gl X "enumerate" := by rfl) (hs : starEach [a] X.env = [(false, eval a X.env)] := by rfl) (hsh : m.shr = true := by rfl) :
    PDI X E H0 ks (.Tuple elts kk tpos) (.Call (.Name "enumerate" p) [a] [] pos) (iE fa) m true := by
  obtain ⟨ta, pa, qa⟩ := ha.ex
  refine ⟨_, pi_enum hg hm (pa_cons pa pa_nil hs) hs, fun F σ H env R r h => ?_⟩
  show ta σ H fun x H1 => ∃ a xs, [x] = [.ref a] ∧ SqL X.K H1 a xs ∧ R (Ite X.K a) H1
  refine seqI qa r h fun d F1 x H1 A _ e1 r1 _ R1 h1 => ?_
  have hrd : m.rd = true := by cases m <;> first | rfl | exact nomatch hsh
  cases d with
  | list ds =>
    obtain ⟨l, xs, rfl, s, al⟩ := dp_list (reg_of hrd r1 rfl)
    refine ⟨l, xs, rfl, sql_fr (sql_mono (reg_le R1.eF) s), h1 F1 H1 _ (Ext.refl R1.eF) (itok_enum (xs := xs) hsh R1.e0 (fun F' H' st => ?_) fun F' H' st => ?_)⟩
    · have q : Same (reg H0 F1 H1 m) F1 := by
        cases m with
        | any => exact Same.refl _
        | new => exact nw_le
        | _ => exact nomatch hsh
      exact sql_fr (sql_mono (q.trans (st.1.trans st.2.1)) s)
    · have q : Same (reg H0 F1 H1 m) (reg H0 F' H' m) := by
        cases m with
        | any => exact st.1
        | new => exact nw_mono st.1
        | _ => exact nomatch hsh
      exact dpa_mono q al
  | _ => exact h1.elim
/-- l.index(x): the first place of an equal one -/
def firstAt (d : D) : List D → Nat → Option Nat
  | [], _ => none
  | z :: r, n => if PyData.eqv z d then some n else firstAt d r (n + 1)
def oIndex : D → D → Rs D
  | .list ds, d => if shp (.list ds) && shp d then match firstAt d ds 0 with
    | some j => .ok (.int (j : Nat))
    | none => .no else .no
  | _, _ => .no
/-- the receiver's kind is asked before the argument is evaluated -/
def eIndex (fo fa : DE) : DE := fun e => (fo e).bind fun x => match x with
  | .list ds => (fa e).bind (oIndex (.list ds))
  | _ => .no
theorem firstAt_ok {d : D} : ∀ {ds : List D} {n j : Nat}, firstAt d ds n = some j → n ≤ j ∧ ∃ z, ds[j - n]? = some z ∧ PyData.eqv z d = true ∧ ∀ (m : Nat) (z' : D), m < j - n → ds[m]? = some z' → PyData.eqv z' d = false
  | [], _, _, h => nomatch h
  | z :: r, n, j, h => by
    unfold firstAt at h
    by_cases c : PyData.eqv z d = true
    · rw [if_pos c] at h
      cases h
      refine ⟨Nat.le_refl _, z, by rw [Nat.sub_self]; rfl, c, fun m z' hm => by omega⟩
    · rw [if_neg c] at h
      obtain ⟨h1, z2, h2, h3, h4⟩ := firstAt_ok h
      have ej : j - n = (j - (n + 1)) + 1 := by omega
      refine ⟨by omega, z2, by rw [ej]; exact h2, h3, fun m z' hm hz => ?_⟩
      cases m with
      | zero =>
        have q : z = z' := Option.some.inj hz
        rw [← q]
        simpa using c
      | succ m => exact h4 m z' (by omega) (by simpa using hz)
theorem pd_index (hu : X.A.units + 65 < cLine) (ho : PD X E H0 ks o fo mo) (ha : PD X E H0 ks a fa ma)
    (hbase : attributeBase o "index" X.env (eval o X.env) = eval o X.env := by rfl)
    (hfew : ((backTo pos (starEach [a] X.env)).all (fun x => !x.1) && (backToKw pos (keywordEach [] X.env)).all (fun x => x.1.isSome)
      && decide ([a].length + ([] : List Keyword).length + (if ([] : List Keyword).isEmpty then 0 else 1) < 30)) = true := by rfl)
    (hline : (apos.endLine == pos.line) = true := by rfl) (he : starEach [a] X.env = (false, eval a X.env) :: starEach [] X.env := by rfl) (hpl : (backTo pos (starEach [] X.env)).any (·.1) = false := by rfl) :
    PD X E H0 ks (.Call (.Attribute o "index" apos) [a] [] pos) (eIndex fo fa) .new := by
  obtain ⟨to, po, qo⟩ := ho.ex
  obtain ⟨ta, pa, qa⟩ := ha.ex
  refine ⟨_, pe_bm PySem.F.plainAttrs_list PySem.F.slot_list_index PySem.F.type_list_index (mt_indexD hu) po (pa_cons pa pa_nil he) hbase hfew hline he hpl, fun F σ H env Q R h => ?_⟩
  show to σ H fun x H1 => tyV X.K "list" x H1 ∧ ta σ H1 fun y H2 => rIndexD X.K x [y] H2 Q
  refine seq1 qo R h fun dx F1 x H1 A1 _ e1 r1 _ R1 h1 => ?_
  have d1 := r1.dt R1.eF
  cases dx with
  | list ds =>
    obtain ⟨l, xs, rfl, s, al⟩ := dt_list d1
    refine ⟨.inl ⟨rfl, xs, s⟩, ?_⟩
    refine seq1 qa R1 h1 fun dy F2 y H2 A2 _ e2 r2 _ R2 h2 => ?_
    have h2 : Done X.K X.mg E H0 F2 H2 .new (if (shp (.list ds) && shp dy) = true then (match firstAt dy ds 0 with | some j => .ok (.int (j : Nat)) | none => .no) else .no) Q := h2
    by_cases z : (shp (.list ds) && shp dy) = true
    · rw [if_pos z] at h2
      rw [Bool.and_eq_true] at z
      cases q : firstAt dy ds 0 with
      | none => rw [q] at h2; exact h2.elim
      | some j =>
        rw [q] at h2
        obtain ⟨_, z1, z2, z3, z4⟩ := firstAt_ok q
        exact ⟨l, y, dy, ds, j, z1, rfl, rfl, ((r1.mono e2).dt R2.eF).dp rfl, (r2.dt R2.eF).dp (shp_nd z.2), z.1, z.2, z2, z3, z4, Got.flat h2 R2.eF fun _ => .int _⟩
    · rw [if_neg z] at h2; exact h2.elim
  | _ => exact h1.elim
/-- the new list of what asks no heap, that a call hands back, is the caller's own -/
def eCallF (g : List D → Rs D) (es : List DE) : DE := fun e => (eCall g es e).bind fun d => match d with
  | .list ds => if ds.all flat then .ok (.list ds) else .no
  | _ => .no
end
end Tf
namespace Tf
open PySem PySem.Spec PyProof.Rows L2
/-- what a law's call is promised -/
def spL (K : PySem.W.Frag) : Sp := fun vs H Q _ => ∃ (a : Addr) (ns : List Int), vs = [.ref a] ∧ SqL K H a (ns.map V.int) ∧ ns.length ≤ 63 ∧ (∀ z ∈ ns, Builtin.Int.intBits z ≤ 1048576) ∧ ∀ H', Q (.bl true) H'
theorem dpa_ofInts {K : PySem.W.Frag} {H : Hp} : ∀ ns : List Int, DpAll K H (ns.map V.int) (ns.map .int)
  | [] => .nil
  | n :: ns => .cons (.int n) (dpa_ofInts ns)
theorem law_fit {P : Program} {w : World} {K : PySem.W.Frag} {mg : Str → Option Value} {CX : CXT} {k : Nat} {fa : Addr} {C : FuncData → Prop} {D : Heap → Prop} {g : List Tf.D → Rs Tf.D}
    (h : ∀ ns : List Int, ns.length ≤ 63 → (∀ z ∈ ns, Builtin.Int.intBits z ≤ 1048576) → g [.list (ns.map .int)] = .ok (.bool true))
    (O : ∃ fd : FuncData, C fd ∧ ∀ base : Heap, K.In base → D base → FnOk P w K mg base CX k fa fd ["script"] (Pr K mg 1 .new g)) :
    ∃ fd : FuncData, C fd ∧ ∀ base : Heap, K.In base → D base → FnOk P w K mg base CX k fa fd ["script"] (spL K) := by
  obtain ⟨fd, c, O⟩ := O
  refine ⟨fd, c, fun base a b => (O base a b).imp fun vs H Q E q => ?_⟩
  obtain ⟨p, ns, rfl, s, hl, hb, q⟩ := q
  refine ⟨[.list (ns.map .int)], .cons (.inl (.lst s (dpa_ofInts ns))) .nil, rfl, ?_⟩
  rw [h ns hl hb]
  intro F' v H' A s1 s2 r
  obtain ⟨r1, _⟩ := r
  cases r1
  exact q H'
end Tf
namespace Tf
open PySem PySem.Spec PyProof.Rows L2
section
variable {X : Cx} {E : XK} {H0 : Hp} {ks ks' ks1 ks2 : List RM} {e a b c o : Expr} {f fa fb fc ft fi fk : DE} {m ma mb mc mr my mi mk : RM} {ta tb tc : TE} {F H : Hp} {σ : L2.St} {env : En} {Q : VK} {pos p2 apos ipos : Pos} {j : Nat}

/-! ### slices -/
def eO : Option DE → En → Rs (Option Int)
  | none, _ => .ok none
  | some f, e => (f e).bind fun x => match x with
    | .int i => .ok (some i)
    | _ => .no
def RdgO (X : Cx) (E : XK) (H0 : Hp) (ks : List RM) (t : TO) (f : Option DE) : Prop := ∀ (F : Hp) (σ : L2.St) (H : Hp) (env : En) (Q : Option Int → Hp → Prop), Rel X.K H0 ks F σ H env →
  (match eO f env with | .ok o => ∀ F' H', Ext F H F' H' → Q o H' | .ex c => Wish X.mg E H0 c | .no => False) → t σ H Q
structure PDO (X : Cx) (E : XK) (H0 : Hp) (ks : List RM) (e : Option Expr) (f : Option DE) : Prop where
  ex : ∃ t, PO X e t ∧ RdgO X E H0 ks t f
theorem pdo_none : PDO X E H0 ks none none := ⟨_, po_none, fun F σ H env Q R h => h F H (Ext.refl R.eF)⟩
theorem pdo_some (h : PD X E H0 ks e f m) : PDO X E H0 ks (some e) (some f) := by
  obtain ⟨t, p, q⟩ := h.ex
  refine ⟨_, po_some p, fun F σ H env Q R h => ?_⟩
  refine q F σ H env _ R ?_
  have h : (match (f env).bind fun x => match x with | .int i => Rs.ok (some i) | _ => .no with | .ok o => ∀ F' H', Ext F H F' H' → Q o H' | .ex c => Wish X.mg E H0 c | .no => False) := h
  cases hf : f env with
  | ex c => rw [hf] at h; exact h
  | no => rw [hf] at h; exact h
  | ok d =>
    rw [hf] at h
    cases d with
    | int i =>
      intro F1 v H1 A e1 r1 _
      have q1 : v = .int i := dt_int (r1.dt e1.fh)
      exact ⟨i, q1, h F1 H1 e1⟩
    | _ => exact h.elim
def eSl3 (g : D → Option Int → Option Int → Rs D) (a : DE) (lo hi : Option DE) : DE := fun e => (a e).bind fun x => (eO lo e).bind fun l => (eO hi e).bind fun h => g x l h
theorem seqO {t : TO} {lo : Option DE} {k : Option Int → Hp → Prop} {g : Option Int → Rs D} {m : RM} (q : RdgO X E H0 ks t lo) (r : Rel X.K H0 ks F σ H env) (h : Done X.K X.mg E H0 F H m ((eO lo env).bind g) Q)
    (hk : ∀ d F1 H1, Ext F H F1 H1 → Rel X.K H0 ks F1 σ H1 env → Done X.K X.mg E H0 F1 H1 m (g d) Q → k d H1) : t σ H k := by
  refine q F σ H env k r ?_
  cases hf : eO lo env with
  | ok d =>
    rw [hf] at h
    exact fun F1 H1 e1 => hk d F1 H1 e1 (r.ext e1) (Done.mono e1 h)
  | ex c => rw [hf] at h; exact h
  | no => rw [hf] at h; exact h
variable {lo hi : Option Expr} {fl fh : Option DE}
def cutD (xs : List D) (lo hi : Option Int) : List D := (xs.drop (HT.sIx xs.length 0 lo)).take (HT.sIx xs.length xs.length hi - HT.sIx xs.length 0 lo)
theorem dpa_cut {K : PySem.W.Frag} {G : Hp} {xs : List V} {ds : List D} {l h : Option Int} (al : DpAll K G xs ds) : DpAll K G (cutV xs l h) (cutD ds l h) := by
  unfold cutV cutD
  rw [dpa_len al]
  exact dpa_take _ (dpa_drop _ al)
def gSl : D → Option Int → Option Int → Rs D
  | .list xs, l, h => .ok (.list (cutD xs l h))
  | _, _, _ => .no
def gSlF : D → Option Int → Option Int → Rs D
  | .list xs, l, h => if xs.all flat then .ok (.list (cutD xs l h)) else .no
  | _, _, _ => .no
def gSlT : D → Option Int → Option Int → Rs D
  | .tuple xs, l, h => if HT.sIx xs.length 0 l = 0 ∧ HT.sIx xs.length xs.length h = xs.length then .no else .ok (.tuple (cutD xs l h))
  | _, _, _ => .no
def gSlS : D → Option Int → Option Int → Rs D
  | .str z, l, h => if lim z.length then .ok (.str (cutS z l h)) else .no
  | _, _, _ => .no
abbrev eSl := eSl3 gSl
abbrev eSlF := eSl3 gSlF
abbrev eSlT := eSl3 gSlT
abbrev eSlS := eSl3 gSlS
theorem pd_sl3 {g : D → Option Int → Option Int → Rs D} {r : V → Option Int → Option Int → Hp → VK → Prop} (hr : SlR X r) (ha : PD X E H0 ks a fa ma) (hl : PDO X E H0 ks lo fl) (hh : PDO X E H0 ks hi fh)
    (hg : ∀ (F H : Hp) (v : V) (d : D) (A : List Addr) (l h : Option Int) (Q : VK), Same H0 F → Same F H → ResOk X.K H0 F H ma v d A → Done X.K X.mg E H0 F H m (g d l h) Q → r v l h H Q) :
    PD X E H0 ks (.Subscript a (.Slice lo hi none p2) pos) (eSl3 g fa fl fh) m := by
  obtain ⟨ta, pa, qa⟩ := ha.ex
  obtain ⟨tl, pl, ql⟩ := hl.ex
  obtain ⟨th, ph, qh⟩ := hh.ex
  refine ⟨_, pe_slice hr pa pl ph, fun F σ H env Q R h => ?_⟩
  refine seq1 (k := fun x H1 => tl σ H1 fun l H2 => th σ H2 fun u H3 => r x l u H3 Q) qa R h fun d F1 x H1 A _ e1 r1 _ R1 h1 => ?_
  refine seqO ql R1 h1 fun l F2 H2 e2 R2 h2 => seqO qh R2 h2 fun u F3 H3 e3 R3 h3 => ?_
  exact hg F3 H3 x d A l u Q R3.e0 R3.eF ((r1.mono e2).mono e3) h3
theorem pd_sl (ha : PD X E H0 ks a fa .new) (hl : PDO X E H0 ks lo fl) (hh : PDO X E H0 ks hi fh) : PD X E H0 ks (.Subscript a (.Slice lo hi none p2) pos) (eSl fa fl fh) .o1 :=
  pd_sl3 sl_list ha hl hh fun F H v d A l h Q h0 fF r D => by
    cases d with
    | list ds =>
      obtain ⟨p, xs, rfl, s, al⟩ := dp_list r.1
      exact ⟨p, xs, rfl, sql_k (sql_mono (nw_le.trans fF) s), fun q hq => Got.lst D fF hq (dpa_cut al)⟩
    | _ => exact D.elim
theorem pd_slF (ha : PD X E H0 ks a fa ma) (hl : PDO X E H0 ks lo fl) (hh : PDO X E H0 ks hi fh) : PD X E H0 ks (.Subscript a (.Slice lo hi none p2) pos) (eSlF fa fl fh) .o1 :=
  pd_sl3 sl_list ha hl hh fun F H v d A l h Q h0 fF r D => by
    cases d with
    | list ds =>
      have D : Done X.K X.mg E H0 F H .o1 (if ds.all flat = true then .ok (.list (cutD ds l h)) else .no) Q := D
      by_cases z : ds.all flat = true
      · rw [if_pos z] at D
        obtain ⟨p, xs, rfl, s, al⟩ := dt_list (r.dt fF)
        exact ⟨p, xs, rfl, s, fun q hq => Got.lst D fF hq (dpa_cut (dpa_flat z al))⟩
      · rw [if_neg z] at D; exact D.elim
    | _ => exact D.elim
theorem pd_slT (ha : PD X E H0 ks a fa .new) (hl : PDO X E H0 ks lo fl) (hh : PDO X E H0 ks hi fh) : PD X E H0 ks (.Subscript a (.Slice lo hi none p2) pos) (eSlT fa fl fh) .new :=
  pd_sl3 sl_tup ha hl hh fun F H v d A l h Q h0 fF r D => by
    cases d with
    | tuple ds =>
      have D : Done X.K X.mg E H0 F H .new (if HT.sIx ds.length 0 l = 0 ∧ HT.sIx ds.length ds.length h = ds.length then .no else .ok (.tuple (cutD ds l h))) Q := D
      by_cases z : HT.sIx ds.length 0 l = 0 ∧ HT.sIx ds.length ds.length h = ds.length
      · rw [if_pos z] at D; exact D.elim
      · rw [if_neg z] at D
        obtain ⟨p, xs, rfl, s, al⟩ := dt_tup (.inl r.1)
        rw [← dpa_len al] at z
        exact ⟨p, xs, rfl, sqt_k (sqt_mono (nw_le.trans fF) s), z, fun q hq => Got.tup h0 D fF hq (dpa_cut al)⟩
    | _ => exact D.elim
theorem pd_slS (ha : PD X E H0 ks a fa ma) (hl : PDO X E H0 ks lo fl) (hh : PDO X E H0 ks hi fh) : PD X E H0 ks (.Subscript a (.Slice lo hi none p2) pos) (eSlS fa fl fh) .new :=
  pd_sl3 sl_str ha hl hh fun F H v d A l h Q h0 fF r D => by
    cases d with
    | str z =>
      have D : Done X.K X.mg E H0 F H .new (if lim z.length = true then .ok (.str (cutS z l h)) else .no) Q := D
      by_cases zz : lim z.length = true
      · rw [if_pos zz] at D
        exact ⟨z, dt_str (r.dt fF), Nat.le_of_lt (lim_lt zz), Got.flat D fF fun _ => .str _⟩
      · rw [if_neg zz] at D; exact D.elim
    | _ => exact D.elim
end
end Tf
namespace Tf
open PySem PySem.Spec PyProof.Rows L2
section
variable {X : Cx} {E : XK} {H0 : Hp} {ks ks' ks1 ks2 : List RM} {e a b c o : Expr} {f fa fb fc ft fi fk : DE} {m ma mb mc mr my mi mk : RM} {ta tb tc : TE} {F H : Hp} {σ : L2.St} {env : En} {Q : VK} {pos p2 apos ipos : Pos} {j : Nat}

/-! ### what a call has made, as the def's own -/
theorem rs_sub {H : Hp} {A B : List Addr} (h : ∀ a ∈ A, a ∈ B) : Same (rs H A) (rs H B) := fun a o e => by
  unfold rs at e ⊢
  split at e
  · rename_i z
    rw [if_pos (h a z)]; exact e
  · cases e
theorem rd_in {G : Hp} {A : List Addr} {a : Addr} {o : HO} (h : Rd G a o) (ha : a ∈ A) : Rd (rs G A) a o := by
  have e : rs G A a = G a := if_pos ha
  rcases h with h | ⟨x, h⟩
  · exact .inl (e.trans h)
  · exact .inr ⟨x, e.trans h⟩
theorem rd_some {G : Hp} {a : Addr} {o : HO} (h : Rd G a o) : G a ≠ none := by
  rcases h with h | ⟨x, h⟩ <;> (rw [h]; simp)
mutual
theorem dp_sup {G : Hp} : ∀ {v : V} {d : D}, Dp N0 G v d → ∃ A : List Addr, (∀ a ∈ A, G a ≠ none) ∧ Dp N0 (rs G A) v d
  | _, _, .non => ⟨[], (fun _ h => nomatch h), .non⟩
  | _, _, .bl b => ⟨[], (fun _ h => nomatch h), .bl b⟩
  | _, _, .int i => ⟨[], (fun _ h => nomatch h), .int i⟩
  | _, _, .str x => ⟨[], (fun _ h => nomatch h), .str x⟩
  | _, _, .lst (a := a) (xs := xs) h al => by
    obtain ⟨A, h1, h2⟩ := dpa_sup al
    have hr : Rd G a (.lst xs) := by
      rcases h with h | ⟨_, _, _, h, _⟩
      · exact h
      · cases h
    refine ⟨a :: A, fun x hx => ?_, .lst (.inl (rd_in hr (by simp))) (dpa_mono (rs_sub fun x hx => List.mem_cons_of_mem _ hx) h2)⟩
    rcases List.mem_cons.mp hx with z | z
    · subst z; exact rd_some hr
    · exact h1 x z
  | _, _, .tup (a := a) (xs := xs) h al => by
    obtain ⟨A, h1, h2⟩ := dpa_sup al
    have hr : Rd G a (.tup xs) := by
      rcases h with h | ⟨_, _, _, h, _⟩
      · exact h
      · cases h
    refine ⟨a :: A, fun x hx => ?_, .tup (.inl (rd_in hr (by simp))) (dpa_mono (rs_sub fun x hx => List.mem_cons_of_mem _ hx) h2)⟩
    rcases List.mem_cons.mp hx with z | z
    · subst z; exact rd_some hr
    · exact h1 x z
theorem dpa_sup {G : Hp} : ∀ {vs : List V} {ds : List D}, DpAll N0 G vs ds → ∃ A : List Addr, (∀ a ∈ A, G a ≠ none) ∧ DpAll N0 (rs G A) vs ds
  | _, _, .nil => ⟨[], (fun _ h => nomatch h), .nil⟩
  | _, _, .cons h r => by
    obtain ⟨A, h1, h2⟩ := dp_sup h
    obtain ⟨B, h3, h4⟩ := dpa_sup r
    refine ⟨A ++ B, fun x hx => ?_, .cons (dp_mono (rs_sub fun x hx => List.mem_append_left _ hx) h2) (dpa_mono (rs_sub fun x hx => List.mem_append_right _ hx) h4)⟩
    rcases List.mem_append.mp hx with z | z
    · exact h1 x z
    · exact h3 x z
end
/-- the result of a call, in the caller's books: its own -/
theorem ow_of {K : PySem.W.Frag} {H1 Fc H' : Hp} {v : V} {d : D} {A : List Addr} (f : Same F H1) (s1 : Same H1 Fc) (s2 : Same Fc H') (r : ResOk K H1 Fc H' .new v d A) : ∃ B, ResOk K H0 F H' .ow v d B ∧ ∀ a ∈ B, H1 a = none := by
  obtain ⟨r, _⟩ := r
  obtain ⟨B, h1, h2⟩ := dp_sup r
  have old : ∀ a ∈ B, H1 a = none := fun a ha => by
    cases q : nw H1 Fc a with
    | none => exact absurd q (h1 a ha)
    | some o => exact nw_old q
  refine ⟨B, ⟨dp_mono (rs_mono (nw_le.trans s2)) h2, fun a ha => ⟨?_, f.free (old a ha)⟩⟩, old⟩
  cases q : nw H1 Fc a with
  | none => exact absurd q (h1 a ha)
  | some o => exact ⟨o, s2 _ _ (nw_le _ _ q), nw_pl q⟩
theorem pd_callW {x : Str} {ps : List Str} {p : Pos} {k n : Nat} {es : List Expr} {fs : List DE} {g : List D → Rs D} (c : Cal X.prog X.w X.K X.mg X.base x ps k n .new g) (hr : Room k X.A) (hx : Passes (L2.CX X.prog X.w) X E) (ha : PDL X E H0 ks (e :: es) fs .B) (hg : Gl X x := by rfl)
    (hn : fs.length = n := by rfl) (hdb : (x == ("__debug__" : Str)) = false := by decide) (he : starEach (e :: es) X.env = (false, eval e X.env) :: starEach es X.env := by rfl) (hpl : (backTo pos (starEach es X.env)).any (·.1) = false := by rfl) :
    PD X E H0 ks (.Call (.Name x p) (e :: es) [] pos) (eCall g fs) .ow := by
  obtain ⟨fn, fd, hm, hk, hb, G⟩ := c.ex
  obtain ⟨t, pt, q⟩ := ha.ex
  refine ⟨_, pe_call G hr hg hm hk hb .nil hx pt hdb he hpl, fun F σ H env Q R h => ?_⟩
  refine q F σ H env _ R ?_
  have h : Done X.K X.mg E H0 F H .ow ((eL fs env).bind g) Q := h
  cases hl : eL fs env with
  | ex c => rw [hl] at h; exact h
  | no => rw [hl] at h; exact h
  | ok ds =>
    rw [hl] at h
    intro F1 vs H1 e1 l1
    have h : Done X.K X.mg E H0 F H .ow (g ds) Q := h
    have R1 := R.ext e1
    refine ⟨ds, by rw [List.append_nil]; exact l1, (eL_len hl).trans hn, ?_⟩
    cases hgd : g ds with
    | ok d =>
      rw [hgd] at h
      intro F' v H' A s1 s2 r
      obtain ⟨B, r1, n1⟩ := ow_of (H0 := H0) R1.eF s1 s2 r
      exact Got.mono e1 h F1 v H' B (Ext.heap R1.eF (s1.trans s2)) r1 n1
    | ex c =>
      rw [hgd] at h
      exact fun C hC H' s => h C hC H' ((R1.e0.trans R1.eF).trans s)
    | no => rw [hgd] at h; exact h

/-! ### changed, and never asked again -/
theorem resok_out {K : PySem.W.Frag} {H' : Hp} {v : V} {d : D} {A : List Addr} (hB : m ≠ .B) (h : ResOk K H0 F H m v d A) (hH : ∀ a ∈ A, H' a = H a) : ResOk K H0 F H' m v d A := by
  cases m with
  | un => exact h
  | B => exact absurd rfl hB
  | any => exact h
  | new => exact h
  | o1 =>
    obtain ⟨p', xs, ds, rfl, rfl, z1, z2, z3, z4⟩ := h
    exact ⟨p', xs, ds, rfl, rfl, by rw [hH p' (by rw [z4]; simp)]; exact z1, z2, z3, z4⟩
  | o2 =>
    obtain ⟨p', qs, dss, rfl, rfl, z1, z2, z3, z4, z5⟩ := h
    have rows : ∀ {qs : List Addr} {dss : List (List D)}, (∀ a ∈ qs, H' a = H a) → RowsOk N0 (nw H0 F) H qs dss → RowsOk N0 (nw H0 F) H' qs dss := by
      intro qs
      induction qs with
      | nil => intro dss _ w; cases dss <;> exact w
      | cons q qs ih =>
        intro dss n w
        cases dss with
        | nil => exact w
        | cons ds dss =>
          obtain ⟨⟨xs, y1, y2⟩, y3⟩ := w
          exact ⟨⟨xs, by rw [n q (by simp)]; exact y1, y2⟩, ih (fun a ha => n a (List.mem_cons_of_mem _ ha)) y3⟩
    exact ⟨p', qs, dss, rfl, rfl, by rw [hH p' (by rw [z3]; simp)]; exact z1, rows (fun a ha => hH a (by rw [z3]; exact List.mem_cons_of_mem _ ha)) z2, z3, z4, z5⟩
  | dk =>
    rcases h with ⟨p', ns, rfl, rfl, z1, z2, z3⟩ | h
    · exact .inl ⟨p', ns, rfl, rfl, by rw [hH p' (by rw [z3]; simp)]; exact z1, z2, z3⟩
    · exact .inr h
  | dt =>
    obtain ⟨p', ns, rfl, rfl, z1, z2, z3⟩ := h
    exact ⟨p', ns, rfl, rfl, by rw [hH p' (by rw [z3]; simp)]; exact z1, z2, z3⟩
  | ow =>
    have e : rs H' A = rs H A := by
      funext a
      unfold rs
      by_cases ha : a ∈ A
      · rw [if_pos ha, if_pos ha, hH a ha]
      · rw [if_neg ha, if_neg ha]
    exact ⟨by rw [e]; exact h.1, fun a ha => by rw [hH a ha]; exact h.2 a ha⟩
/-- the slot j's own was changed: the slot is empty -/
theorem Rel.junk {K : PySem.W.Frag} {H' : Hp} {As : Nat → List Addr} (R : Rel K H0 ks F σ H env) (nb : noB ks = true) (hj : j < ks.length)
    (h1 : ∀ (i : Nat) (d : D), env[i]? = some (some d) → ∃ v, σ[i]? = some (some v) ∧ ResOk K H0 F H (kAt ks i) v d (As i)) (h2 : ∀ i j a, a ∈ As i → a ∈ As j → i = j) (h3 : ∀ i, ∀ a ∈ As i, H a ≠ none ∧ F a = none)
    (hH : ∀ a, a ∉ As j → H a ≠ none → H' a = H a) : Rel K H0 (ks.set j .un) F σ H' (env.set j none) := by
  have other : ∀ i, i ≠ j → ∀ a ∈ As i, H' a = H a := fun i hi a ha => hH a (fun z => hi (h2 i j a ha z)) (h3 i a ha).1
  refine ⟨R.e0, fun a o e => ?_, by rw [List.length_set]; exact R.len, by rw [List.length_set, List.length_set]; exact R.kl, asSet As j [], fun i d hd => ?_, fun i k a ha hb => ?_, fun i a ha => ?_⟩
  · have e' := R.eF _ _ e
    rw [hH a (fun z => by rw [(h3 j a z).2] at e; cases e) (by rw [e']; simp)]
    exact e'
  · by_cases z : j = i
    · subst z
      rw [List.getElem?_set_self (by rw [← R.kl]; exact hj)] at hd
      cases hd
    · rw [List.getElem?_set_ne z] at hd
      obtain ⟨v, a, b⟩ := h1 i d hd
      refine ⟨v, a, ?_⟩
      rw [asSet_ne z, kAt_set hj, if_neg z]
      exact resok_out (noB_at nb i) b (other i fun q => z q.symm)
  · have sub : ∀ k, a ∈ asSet As j [] k → a ∈ As k := fun k h => by
      by_cases z : j = k
      · subst z; rw [asSet_eq] at h; cases h
      · rw [asSet_ne z] at h; exact h
    exact h2 i k a (sub i ha) (sub k hb)
  · by_cases z : j = i
    · subst z; rw [asSet_eq] at ha; cases ha
    · rw [asSet_ne z] at ha
      rw [other i (fun q => z q.symm) a ha]
      exact h3 i a ha
/-- the root of a list that a call has made -/
theorem ow_list {K : PySem.W.Frag} {v : V} {ds : List D} {A : List Addr} (r : ResOk K H0 F H .ow v (.list ds) A) : ∃ p xs, v = .ref p ∧ p ∈ A ∧ H p = some (.lst xs) ∧ DpAll N0 (rs H A) xs ds := by
  obtain ⟨r, own⟩ := r
  cases r with
  | lst s al =>
    rename_i p xs
    rcases s with s | ⟨_, _, _, s, _⟩
    · have hp : p ∈ A := by
        have := rd_some s
        unfold rs at this
        split at this
        · assumption
        · exact absurd rfl this
      have e : rs H A p = H p := if_pos hp
      rcases s with s | ⟨o, s⟩
      · exact ⟨p, xs, rfl, hp, e.symm.trans s, al⟩
      · obtain ⟨⟨o', h1, h2⟩, _⟩ := own p hp
        rw [e, h1] at s
        injection s with s
        subst s
        cases h2
    · cases s
def sJunk (j : Nat) (es : List DE) : DS := sIf0 j fun e => (eL es e).fl fun ds => match e[j]? with
  | some (some (.list xs)) => if lim xs.length && decide (ds.length = 1) then .nx (e.set j none) else .no
  | _ => .no
theorem pd1_junk {es : List Expr} {fs : List DE} (p : PE X o (tVar j)) (ha : PDL X E H0 ks (e :: es) fs .B) (hk : kAt ks j = .ow := by rfl) (nb : noB ks = true := by decide) (hs : swapsWith (.Call (.Attribute o "append" apos) (e :: es) [] pos) none ipos.line X.env = pure false := by rfl)
    (hbase : attributeBase o "append" X.env (eval o X.env) = eval o X.env := by rfl)
    (hfew : ((backTo pos (starEach (e :: es) X.env)).all (fun x => !x.1) && (backToKw pos (keywordEach [] X.env)).all (fun x => x.1.isSome)
      && decide ((e :: es).length + ([] : List Keyword).length + (if ([] : List Keyword).isEmpty then 0 else 1) < 30)) = true := by rfl)
    (hline : (apos.endLine == pos.line) = true := by rfl) (he : starEach (e :: es) X.env = (false, eval e X.env) :: starEach es X.env := by rfl) (hpl : (backTo pos (starEach es X.env)).any (·.1) = false := by rfl) :
    PD1 X E H0 ks (.Expr (.Call (.Attribute o "append" apos) (e :: es) [] pos) ipos) (sJunk j fs) (ks.set j .un) mr := by
  obtain ⟨t, pt, qt⟩ := ha.ex
  refine ⟨_, ps_expr (pe_bm PySem.F.plainAttrs_list PySem.F.slot_list_append PySem.F.type_list_append mt_append p pt hbase hfew hline he hpl) hs, fun F σ H env D R d => ?_⟩
  obtain ⟨⟨xs0, hx⟩, d⟩ := ite_done d
  have hj : j < ks.length := by rw [R.kl]; exact (List.getElem?_eq_some_iff.mp hx).1
  show tVar j σ H fun x H1 => tyV X.K "list" x H1 ∧ t σ H1 fun vs H2 => rAppend x vs H2 fun _ H3 => D.nx σ H3
  obtain ⟨As0, h10, _, _⟩ := R.sl
  obtain ⟨v, hv, r0⟩ := h10 j _ hx
  rw [hk] at r0
  obtain ⟨p, xs, rfl, hpA, hp, al⟩ := ow_list r0
  refine ⟨.ref p, hv, tyL hp, ?_⟩
  refine qt F σ H env _ R ?_
  have d : DoneF X.K X.mg E H0 F H (ks.set j .un) mr ((eL fs env).fl fun ds => match env[j]? with | some (some (.list xs)) => if lim xs.length && decide (ds.length = 1) then .nx (env.set j none) else .no | _ => .no) D := d
  cases hl : eL fs env with
  | ex k => rw [hl] at d; exact d
  | no => rw [hl] at d; exact d
  | ok ds =>
    rw [hl] at d
    intro F1 vs H1 e1 l1
    have d : DoneF X.K X.mg E H0 F H (ks.set j .un) mr (match env[j]? with | some (some (.list xs)) => if lim xs.length && decide (ds.length = 1) then .nx (env.set j none) else .no | _ => .no) D := d
    rw [hx] at d
    have d : DoneF X.K X.mg E H0 F H (ks.set j .un) mr (if (lim xs0.length && decide (ds.length = 1)) = true then .nx (env.set j none) else .no) D := d
    by_cases z : (lim xs0.length && decide (ds.length = 1)) = true
    · rw [if_pos z] at d
      rw [Bool.and_eq_true, decide_eq_true_eq] at z
      have R1 := R.ext e1
      obtain ⟨As, g1, g2, g3⟩ := R1.sl
      obtain ⟨v', hv', r1⟩ := g1 j _ hx
      rw [hv] at hv'
      cases hv'
      rw [hk] at r1
      obtain ⟨p', xs', ep, hpA', hp', al'⟩ := ow_list r1
      cases ep
      have lv : vs.length = 1 := by rw [dta_len (show DtAll X.K H1 vs ds from l1)]; exact z.2
      obtain ⟨y, rfl⟩ : ∃ y, vs = [y] := by
        match vs, lv with
        | [y], _ => exact ⟨y, rfl⟩
      refine ⟨p, xs', y, rfl, rfl, hp', by rw [dpa_len al']; exact lim_lt z.1, d F1 σ _ e1.ff (R1.junk nb hj g1 g2 g3 fun a ha _ => upd_ne fun q => ha (by rw [q]; exact hpA'))⟩
    · rw [if_neg z] at d; exact d.elim
end
end Tf
namespace Tf
open PySem PySem.Spec PyProof.Rows L2
section
variable {X : Cx} {E : XK} {H0 : Hp} {ks ks' ks1 ks2 : List RM} {e a b c o : Expr} {f fa fb fc ft fi fk : DE} {m ma mb mc mr my mi mk : RM} {ta tb tc : TE} {F H : Hp} {σ : L2.St} {env : En} {Q : VK} {pos p2 apos ipos : Pos} {j : Nat}
/-- x.extend(a list that nobody else holds) -/
def sExt (j : Nat) (a : DE) : DS := sIf0 j fun e => (a e).fl fun d => match e[j]? with
  | some (some (.list xs)) => match d with
    | .list ys => if lim (xs.length + ys.length) then .nx (e.set j (some (.list (xs ++ ys)))) else .no
    | _ => .no
  | _ => .no
theorem pd1_ext (p : PE X o (tVar j)) (ha : PD X E H0 ks a fa .o1) (hk : kAt ks j = .o1 := by rfl) (nb : noB ks = true := by decide) (hs : swapsWith (.Call (.Attribute o "extend" apos) [a] [] pos) none ipos.line X.env = pure false := by rfl)
    (hbase : attributeBase o "extend" X.env (eval o X.env) = eval o X.env := by rfl)
    (hfew : ((backTo pos (starEach [a] X.env)).all (fun x => !x.1) && (backToKw pos (keywordEach [] X.env)).all (fun x => x.1.isSome)
      && decide ([a].length + ([] : List Keyword).length + (if ([] : List Keyword).isEmpty then 0 else 1) < 30)) = true := by rfl)
    (hline : (apos.endLine == pos.line) = true := by rfl) (he : starEach [a] X.env = (false, eval a X.env) :: starEach [] X.env := by rfl) (hpl : (backTo pos (starEach [] X.env)).any (·.1) = false := by rfl) :
    PD1 X E H0 ks (.Expr (.Call (.Attribute o "extend" apos) [a] [] pos) ipos) (sExt j fa) ks mr := by
  obtain ⟨ta, pa, qa⟩ := ha.ex
  refine ⟨_, ps_expr (pe_bm PySem.F.plainAttrs_list PySem.F.slot_list_extend PySem.F.type_list_extend mt_extend p (pa_cons pa pa_nil he) hbase hfew hline he hpl) hs, fun F σ H env D R d => ?_⟩
  obtain ⟨⟨xs0, hx⟩, d⟩ := ite_done d
  show tVar j σ H fun x H1 => tyV X.K "list" x H1 ∧ ta σ H1 fun y H2 => rExtend x [y] H2 fun _ H3 => D.nx σ H3
  obtain ⟨p, xs, hv, hp, _, _⟩ := R.o1 nb hk hx
  refine ⟨.ref p, hv, tyL hp, ?_⟩
  refine seqF qa R d fun dy F1 y H1 A1 _ e1 r1 n1 R1 d1 => ?_
  obtain ⟨q, ys, es, rfl, rfl, hq, al2, _, _⟩ := r1
  have d1 : DoneF X.K X.mg E H0 F1 H1 ks mr (match env[j]? with | some (some (.list xs)) => if lim (xs.length + es.length) then .nx (env.set j (some (.list (xs ++ es)))) else .no | _ => .no) D := d1
  rw [hx] at d1
  have d1 : DoneF X.K X.mg E H0 F1 H1 ks mr (if lim (xs0.length + es.length) = true then .nx (env.set j (some (.list (xs0 ++ es)))) else .no) D := d1
  by_cases z : lim (xs0.length + es.length) = true
  · rw [if_pos z] at d1
    obtain ⟨p', xs', hv', hp', al, ch⟩ := R1.o1 nb hk hx
    rw [hv] at hv'
    cases hv'
    refine ⟨p, q, xs', ys, rfl, rfl, hp', hq, ?_, d1 F1 σ _ (Same.refl _) (ch _ _ (dpa_app al al2))⟩
    rw [dpa_len al, dpa_len al2]
    exact lim_le z
  · rw [if_neg z] at d1; exact d1.elim
end
end Tf
namespace Tf
open PySem PySem.Spec PyProof.Rows L2
section
variable {X : Cx} {E : XK} {H0 : Hp} {ks ks' ks1 ks2 : List RM} {e a b c o : Expr} {f fa fb fc ft fi fk : DE} {m ma mb mc mr my mi mk : RM} {ta tb tc : TE} {F H : Hp} {σ : L2.St} {env : En} {Q : VK} {pos pos2 p2 apos apos2 ipos ipos2 lpos : Pos} {j : Nat}
theorem ow_item {K : PySem.W.Frag} {v : V} {rows : List D} {A : List Addr} {n : Nat} {row : List D} (r : ResOk K H0 F H .ow v (.list rows) A) (h : rows[n]? = some (.list row)) :
    ∃ p xs q ys, v = .ref p ∧ p ∈ A ∧ H p = some (.lst xs) ∧ xs.length = rows.length ∧ xs[n]? = some (.ref q) ∧ q ∈ A ∧ H q = some (.lst ys) ∧ ys.length = row.length := by
  obtain ⟨p, xs, ev, hpA, hp, al⟩ := ow_list r
  obtain ⟨w, hw, dw⟩ := dpa_get al h
  obtain ⟨q, ys, ew, hqA, hq, al2⟩ := ow_list (K := K) (H0 := H0) (F := F) (show ResOk K H0 F H .ow w (.list row) A from ⟨dw, r.2⟩)
  subst ew
  exact ⟨p, xs, q, ys, ev, hpA, hp, dpa_len al, hw, hqA, hq, dpa_len al2⟩
/-- x[i].append(..), and x is never asked again; wide: x.append([]) behind it -/
def sJunkR (j : Nat) (ix : DE) (a : DE) : DS := sIf0 j fun e => (ix e).fl fun i => match e[j]? with
  | some (some (.list rows)) => match rowAt rows i with
    | some (n, row) => (a e).fl fun _ => if lim row.length && lim rows.length then .nx (e.set j none) else .no
    | none => .no
  | _ => .no
theorem big_line : 100001 < sizeLine := by rw [sizeLine_eq]; decide
theorem junk_core {N : Hp → Prop} {ti : TE} (qi : Rdg X E H0 ks ti fi mi) (qa : Rdg X E H0 ks ta fa ma) (hk : kAt ks j = .ow) {D : Ends} (R : Rel X.K H0 ks F σ H env) (d : DoneF X.K X.mg E H0 F H ks' mr (sJunkR j fi fa env) D)
    (k : ∀ (F3 H3 : Hp) (As : Nat → List Addr) (p q : Addr) (xs ys : List V) (x : V), Same F F3 → Rel X.K H0 ks F3 σ H3 env → j < ks.length →
      (∀ (i : Nat) (d : Tf.D), env[i]? = some (some d) → ∃ v, σ[i]? = some (some v) ∧ ResOk X.K H0 F3 H3 (kAt ks i) v d (As i)) → (∀ i j a, a ∈ As i → a ∈ As j → i = j) → (∀ i, ∀ a ∈ As i, H3 a ≠ none ∧ F3 a = none) →
      σ[j]? = some (some (.ref p)) → p ∈ As j → q ∈ As j → H3 p = some (.lst xs) → H3 q = some (.lst ys) → xs.length ≤ 100000 → ys.length ≤ 100000 → DoneF X.K X.mg E H0 F3 H3 ks' mr (.nx (env.set j none)) D → N (upd H3 q (.lst (ys ++ [x])))) :
    tVar j σ H fun w H2 => ti σ H2 fun i H3 => rIx X.K w i H3 fun q H4 => tyV X.K "list" q H4 ∧ ta σ H4 fun x H5 => rAppend q [x] H5 fun _ H6 => N H6 := by
  obtain ⟨⟨rows, hx⟩, d⟩ := ite_done d
  have hj : j < ks.length := by rw [R.kl]; exact (List.getElem?_eq_some_iff.mp hx).1
  obtain ⟨As0, h10, _, _⟩ := R.sl
  obtain ⟨v, hv, _⟩ := h10 j _ hx
  refine ⟨v, hv, ?_⟩
  refine seqF qi R d fun di F2 i H2 A2 _ e2 r2 _ R2 d2 => ?_
  have d2 : DoneF X.K X.mg E H0 F2 H2 ks' mr (match env[j]? with | some (some (.list rows)) => (match rowAt rows di with | some (n, row) => (fa env).fl fun _ => if lim row.length && lim rows.length then .nx (env.set j none) else .no | none => .no) | _ => .no) D := d2
  rw [hx] at d2
  have d2 : DoneF X.K X.mg E H0 F2 H2 ks' mr (match rowAt rows di with | some (n, row) => (fa env).fl fun _ => if lim row.length && lim rows.length then .nx (env.set j none) else .no | none => .no) D := d2
  cases hrow : rowAt rows di with
  | none => rw [hrow] at d2; exact d2.elim
  | some nr =>
    obtain ⟨n, row⟩ := nr
    rw [hrow] at d2
    have d2 : DoneF X.K X.mg E H0 F2 H2 ks' mr ((fa env).fl fun _ => if lim row.length && lim rows.length then .nx (env.set j none) else .no) D := d2
    obtain ⟨kk, hdi, hn, hr⟩ := rowAt_some hrow
    obtain ⟨As, g1, g2, g3⟩ := R2.sl
    obtain ⟨v', hv', r1⟩ := g1 j _ hx
    rw [hv] at hv'
    cases hv'
    rw [hk] at r1
    obtain ⟨p, xs, q, ys, rfl, hpA, hp, lx, hq, hqA, hqH, ly⟩ := ow_item r1 hr
    refine .inl ⟨p, xs, kk, .ref q, rfl, dt_int (hdi ▸ r2.dt R2.eF), SqL.of hp, ?_, tyL hqH, ?_⟩
    · unfold atI
      rw [lx, hn]
      exact hq
    refine seqF qa R2 d2 fun dv F3 x H3 A3 _ e3 r3 _ R3 d3 => ?_
    have d3 : DoneF X.K X.mg E H0 F3 H3 ks' mr (if (lim row.length && lim rows.length) = true then .nx (env.set j none) else .no) D := d3
    by_cases z : (lim row.length && lim rows.length) = true
    · rw [if_pos z] at d3
      rw [Bool.and_eq_true] at z
      obtain ⟨As3, k1, k2, k3⟩ := R3.sl
      obtain ⟨v3, hv3, r4⟩ := k1 j _ hx
      rw [hv] at hv3
      cases hv3
      rw [hk] at r4
      obtain ⟨p3, xs3, q3, ys3, ep, hpA3, hp3, lx3, hq3, hqA3, hqH3, ly3⟩ := ow_item r4 hr
      cases ep
      have w := e3.hh _ _ hp
      rw [hp3] at w
      cases w
      rw [hq] at hq3
      cases hq3
      exact ⟨q, ys3, x, rfl, rfl, hqH3, by rw [ly3]; exact lim_lt z.1, k F3 H3 As3 p q _ ys3 x (e2.ff.trans e3.ff) R3 hj k1 k2 k3 hv hpA3 hqA3 hp3 hqH3 (by first | (rw [lx3]; exact of_decide_eq_true z.2) | (rw [lx]; exact of_decide_eq_true z.2) | exact of_decide_eq_true z.2) (by rw [ly3]; exact of_decide_eq_true z.1) d3⟩
    · rw [if_neg z] at d3; exact d3.elim
theorem pd1_junkR (hv : PE X o (tVar j)) (hi : PD X E H0 ks b fi mi) (ha : PD X E H0 ks a fa ma) (hk : kAt ks j = .ow := by rfl) (nb : noB ks = true := by decide) (hs : PlainIx b := by exact fun _ _ => rfl)
    (hsw : swapsWith (.Call (.Attribute (.Subscript o b ipos) "append" apos) [a] [] pos) none pos.line X.env = pure false := by rfl)
    (hbase : attributeBase (.Subscript o b ipos) "append" X.env (eval (.Subscript o b ipos) X.env) = eval (.Subscript o b ipos) X.env := by rfl)
    (hfew : ((backTo pos (starEach [a] X.env)).all (fun x => !x.1) && (backToKw pos (keywordEach [] X.env)).all (fun x => x.1.isSome)
      && decide ([a].length + ([] : List Keyword).length + (if ([] : List Keyword).isEmpty then 0 else 1) < 30)) = true := by rfl)
    (hline : (apos.endLine == pos.line) = true := by rfl) (he : starEach [a] X.env = (false, eval a X.env) :: starEach [] X.env := by rfl) (hpl : (backTo pos (starEach [] X.env)).any (·.1) = false := by rfl) :
    PD1 X E H0 ks (.Expr (.Call (.Attribute (.Subscript o b ipos) "append" apos) [a] [] pos) pos) (sJunkR j fi fa) (ks.set j .un) mr := by
  obtain ⟨ta, pa, qa⟩ := ha.ex
  obtain ⟨ti, pi, qi⟩ := hi.ex
  refine ⟨_, ps_expr (pe_bm PySem.F.plainAttrs_list PySem.F.slot_list_append PySem.F.type_list_append mt_append (pe_ix ix_seq hv pi hs) (pa_cons pa pa_nil he) hbase hfew hline he hpl) hsw, fun F σ H env D R d => ?_⟩
  exact junk_core (N := fun H6 => D.nx σ H6) qi qa hk R d fun F3 H3 As p q xs ys x s R3 hj g1 g2 g3 _ hpA hqA _ _ _ _ d3 =>
    d3 F3 σ _ (Same.refl _) (R3.junk nb hj g1 g2 g3 fun a ha _ => upd_ne fun z => ha (by rw [z]; exact hqA))
/-- x[i].append(..); x.append([]) -/
theorem pds_junk2 {rest : List Stmt} {g : DS} (hv : PE X o (tVar j)) (hi : PD X E H0 ks b fi mi) (ha : PD X E H0 ks a fa ma) (hrest : PDs X E H0 (ks.set j .un) rest g ks' mr) (hk : kAt ks j = .ow := by rfl) (nb : noB ks = true := by decide) (hs : PlainIx b := by exact fun _ _ => rfl)
    (hsw : swapsWith (.Call (.Attribute (.Subscript o b ipos) "append" apos) [a] [] pos) none pos.line X.env = pure false := by rfl)
    (hbase : attributeBase (.Subscript o b ipos) "append" X.env (eval (.Subscript o b ipos) X.env) = eval (.Subscript o b ipos) X.env := by rfl)
    (hfew : ((backTo pos (starEach [a] X.env)).all (fun x => !x.1) && (backToKw pos (keywordEach [] X.env)).all (fun x => x.1.isSome)
      && decide ([a].length + ([] : List Keyword).length + (if ([] : List Keyword).isEmpty then 0 else 1) < 30)) = true := by rfl)
    (hline : (apos.endLine == pos.line) = true := by rfl) (he : starEach [a] X.env = (false, eval a X.env) :: starEach [] X.env := by rfl) (hpl : (backTo pos (starEach [] X.env)).any (·.1) = false := by rfl)
    (hv2 : PE X c (tVar j)) (hsw2 : swapsWith (.Call (.Attribute c "append" apos2) [.List [] lpos] [] pos2) none ipos2.line X.env = pure false := by rfl)
    (hbase2 : attributeBase c "append" X.env (eval c X.env) = eval c X.env := by rfl)
    (hfew2 : ((backTo pos2 (starEach [.List [] lpos] X.env)).all (fun x => !x.1) && (backToKw pos2 (keywordEach [] X.env)).all (fun x => x.1.isSome)
      && decide (([.List [] lpos] : List Expr).length + ([] : List Keyword).length + (if ([] : List Keyword).isEmpty then 0 else 1) < 30)) = true := by rfl)
    (hline2 : (apos2.endLine == pos2.line) = true := by rfl) (he2 : starEach [.List [] lpos] X.env = (false, eval (.List [] lpos) X.env) :: starEach [] X.env := by rfl) (hpl2 : (backTo pos2 (starEach [] X.env)).any (·.1) = false := by rfl) :
    PDs X E H0 ks (.Expr (.Call (.Attribute (.Subscript o b ipos) "append" apos) [a] [] pos) pos :: .Expr (.Call (.Attribute c "append" apos2) [.List [] lpos] [] pos2) ipos2 :: rest) (sSeq (sJunkR j fi fa) g) ks' mr := by
  obtain ⟨ta, pa, qa⟩ := ha.ex
  obtain ⟨ti, pi, qi⟩ := hi.ex
  obtain ⟨tr, pr, qr⟩ := hrest.ex
  refine ⟨_, pss_cons (ps_expr (pe_bm PySem.F.plainAttrs_list PySem.F.slot_list_append PySem.F.type_list_append mt_append (pe_ix ix_seq hv pi hs) (pa_cons pa pa_nil he) hbase hfew hline he hpl) hsw)
    (pss_cons (ps_expr (pe_bm PySem.F.plainAttrs_list PySem.F.slot_list_append PySem.F.type_list_append mt_append hv2 (pa_cons (pe_lst pa_nil) pa_nil he2) hbase2 hfew2 hline2 he2 hpl2) hsw2) pr), fun F σ H env D R d => ?_⟩
  have d : DoneF X.K X.mg E H0 F H ks' mr (match sJunkR j fi fa env with | .nx e' => g e' | r => r) D := d
  -- what the first leaves
  let D1 : Ends := { D with nx := fun σ' H' => tr D σ' H' }
  have d1 : DoneF X.K X.mg E H0 F H (ks.set j .un) mr (sJunkR j fi fa env) D1 := by
    cases hg : sJunkR j fi fa env with
    | nx env' =>
      rw [hg] at d
      exact fun F' σ' H' s R' => qr F' σ' H' env' D R' (DoneF.mono s d)
    | rt x => rw [hg] at d; exact d
    | ex c => rw [hg] at d; exact d
    | no => rw [hg] at d; exact d
  exact junk_core (D := D1) (N := fun H6 => tVar j σ H6 fun w H7 => tyV X.K "list" w H7 ∧ (tCons (tLst tNil) tNil) σ H7 fun vs H8 => rAppend w vs H8 fun _ H9 => tr D σ H9) qi qa hk R d1 fun F3 H3 As p q xs ys x s R3 hj g1 g2 g3 hvp hpA hqA hp hq lx ly d3 => by
    have hz : ∃ zs : List V, (upd H3 q (.lst (ys ++ [x]))) p = some (.lst zs) ∧ zs.length ≤ 100001 := by
      by_cases z : p = q
      · subst z
        exact ⟨ys ++ [x], upd_same, by rw [List.length_append]; simp; exact ly⟩
      · exact ⟨xs, by rw [upd_ne z]; exact hp, by omega⟩
    obtain ⟨zs, hzp, lz⟩ := hz
    refine ⟨.ref p, hvp, tyL hzp, Nat.zero_le _, fun w nw => ?_⟩
    have npw : p ≠ w := ne_of_none hzp nw
    refine ⟨p, zs, .ref w, rfl, rfl, by rw [upd_ne npw]; exact hzp, Nat.lt_of_le_of_lt lz big_line, ?_⟩
    refine d3 F3 σ _ (Same.refl _) (R3.junk nb hj g1 g2 g3 fun a ha hna => ?_)
    have n1 : a ≠ p := fun z => ha (by rw [z]; exact hpA)
    have n2 : a ≠ q := fun z => ha (by rw [z]; exact hqA)
    have e1 : (upd H3 q (.lst (ys ++ [x]))) a = H3 a := upd_ne n2
    have n3 : a ≠ w := fun z => hna (by rw [← e1, z]; exact nw)
    rw [upd_ne n1, upd_ne n3, e1]
end
end Tf
namespace Tf
open PySem PySem.Spec PyProof.Rows L2
section
variable {X : Cx} {E : XK} {H0 : Hp} {ks ks' ks1 ks2 : List RM} {e a b c o ke ve : Expr} {f fa fb fc ft fi fk : DE} {m ma mb mc mr my mi mk : RM} {ta tb tc tk tv : TE} {F H : Hp} {σ : L2.St} {env : En} {Q : VK} {pos pos2 p2 apos apos2 ipos ipos2 lpos : Pos} {j : Nat}

/-! ### dicts whose keys are tuples of whole numbers -/
/-- {k: v}, k a tuple; the new dict stands empty while the pair is made -/
def tDisp1T (tk tv : TE) : TE := fun σ H Q => ∀ p, H p = none → tk σ (upd H p (.dT [])) fun y H1 => tv σ H1 fun x H2 => H2 p = some (.dT []) ∧ ∃ (k : List Key) (b : Addr), y = .ref b ∧ H2 b = some (.tup (k.map kV)) ∧ Q (.ref p) (upd H2 p (.dT [(k, x)]))
theorem pe_dispT1 (hu : X.A.units + 1 < cLine) (hk : PE X ke tk) (hv : PE X ve tv) : PE X (.Dict [some ke] [ve] pos) (tDisp1T tk tv) := by
  refine ⟨fun pins s σ H Q I q => ?_⟩
  have hn := I.hok.fresh (Nat.le_refl s.heap.objs.size)
  have I1 := I.laid (a := s.heap.objs.size) (o := .dT []) (h' := s.heap.push { cls := .type "dict", data := .dict #[] }) (t' := s.toks) (fun _ _ q => Heap.get?_push_of_some _ q) (Nat.le_refl _) (dt_empty s.heap I.big)
  rw [arm_eval_Dict, zip_pairTrees [some ke] [ve] X.env pos rfl rfl, dictDisplay_pairs (pairTrees [some ke] [ve] X.env pos) (by intro z; cases z) (show 1 < 17 by decide)]
  refine wpAny_bind (wpAny_standAt (wpAny_bind (wpAny_subDictH (knd := tupleKind (mixKind X.prog X.w)) (Q := fun d s' => wpAny (model X.prog X.w) X.A (pure (Value.ref d)) _ X.xe s') (show X.A.units < cLine by omega) (show 1 ≤ 15 by decide) ?_)))
  refine pairTrees_cons_walk (thn (hk.run pins _ σ _ _ I1 (q _ hn)) fun u s1 ⟨y, H1, I1', ry, q1⟩ => thn (hv.run pins s1 σ H1 _ I1' q1) fun w2 s2 ⟨x, H2, I2, rx, q2⟩ => pairTrees_nil_walk ?_)
  obtain ⟨e2, k, b, ey, eb, q3⟩ := q2
  subst ey
  cases (show u = Value.ref b from ry)
  obtain ⟨z, hd, xs, rel, dd⟩ := dt_of I2.hok e2
  cases rel
  refine ⟨[(k, b, w2)], ⟨rfl, rfl, key_of I2.hok eb, trivial⟩, dd, fun h' tk' dd' hs => wpAny_pure ⟨.ref s.heap.objs.size, _, ?_, rfl, q3⟩⟩
  obtain ⟨q, es, ep, hq, h2, h3, h4, _, h5⟩ := dd'
  refine d_write I2 (by rw [e2]; exact True.intro) hs ⟨q, hq⟩ ⟨by rw [sizeLine_eq]; show 1 ≤ 16777216; decide, hd, [(k, b, w2)], .cons ⟨rfl, ?_, rx⟩ .nil, q, es, ep, hq, h2, h3, h4, h5⟩
  rw [upd_ne (ne_of eb e2 (fun z => nomatch z))]
  exact eb
def key1 (k : List Int) : List Key := k.map Sum.inl
theorem key1_kV (k : List Int) : (key1 k).map kV = k.map V.int := by unfold key1; rw [List.map_map]; rfl
theorem key1_inj {k l : List Int} (h : key1 k = key1 l) : k = l := by
  have := congrArg (fun z => z.map fun q : Key => match q with | .inl i => i | .inr _ => 0) h
  simpa [key1, List.map_map, Function.comp_def] using this
/-- a tuple that was made here -/
theorem new_tup {K : PySem.W.Frag} {v : V} {ds : List D} {A : List Addr} {k : List Int} (r : ResOk K H0 F H .new v (.tuple ds) A) (f : Same F H) (hk : asInts ds = some k) : ∃ b, v = .ref b ∧ H b = some (.tup ((key1 k).map kV)) := by
  obtain ⟨r, _⟩ := r
  cases r with
  | tup s al =>
    rename_i b xs
    obtain ⟨ex, _⟩ := dpa_ints hk al
    rcases s with s | ⟨_, _, _, s, _⟩
    · rcases s with s | ⟨o, s⟩
      · exact ⟨b, rfl, by rw [key1_kV, ← ex]; exact f _ _ (nw_le _ _ s)⟩
      · exact nomatch (nw_pl s)
    · cases s
def gDT1 : D → D → Rs D
  | .tuple ds, .bool true => match asInts ds with
    | some k => .ok (.dict (dtD [k]))
    | none => .no
  | _, _ => .no
def eDT1 (fk fv : DE) : DE := e2 gDT1 fk fv
theorem pd_dispT {fv : DE} {mv : RM} (hu : X.A.units + 65 < cLine) (hk : PD X E H0 ks ke fk .new) (hv : PD X E H0 ks ve fv mv) : PD X E H0 ks (.Dict [some ke] [ve] pos) (eDT1 fk fv) .dt := by
  obtain ⟨tk, pk, qk⟩ := hk.ex
  obtain ⟨tv, pv, qv⟩ := hv.ex
  refine ⟨_, pe_dispT1 (by omega) pk pv, fun F σ H env Q R h p hp => ?_⟩
  have h : Done X.K X.mg E H0 F H .dt ((fk env).bind fun x => (fv env).bind fun y => gDT1 x y) Q := h
  have x0 : Ext F H F (upd H p (.dT [])) := Ext.heap R.eF (same_upd hp)
  have R0 := R.ext x0
  refine qk F σ _ env _ R0 ?_
  cases hf : fk env with
  | ex c => rw [hf] at h; exact h
  | no => rw [hf] at h; exact h
  | ok x =>
    rw [hf] at h
    intro F2 y H2 A2 e2 r2 n2
    have R2 := R0.ext e2
    have h : Done X.K X.mg E H0 F H .dt ((fv env).bind fun y => gDT1 x y) Q := h
    refine qv F2 σ H2 env _ R2 ?_
    cases hg : fv env with
    | ex c => rw [hg] at h; exact h
    | no => rw [hg] at h; exact h
    | ok w =>
      rw [hg] at h
      intro F3 z H3 A3 e3 r3 n3
      have R3 := R2.ext e3
      have e23 := e2.trans e3
      have hp3 : H3 p = some (.dT []) := e23.hh _ _ upd_same
      have fp3 : F3 p = none := e23.free (R.eF.free hp) (by rw [upd_same]; simp)
      cases x with
      | tuple ds =>
        cases w with
        | bool bb =>
          cases bb with
          | true =>
            have h : Done X.K X.mg E H0 F H .dt (match asInts ds with | some k => .ok (.dict (dtD [k])) | none => .no) Q := h
            cases hk : asInts ds with
            | none => rw [hk] at h; exact h.elim
            | some k =>
              rw [hk] at h
              have h : Got X.K H0 F H .dt (.dict (dtD [k])) Q := h
              obtain ⟨b, ey, hb⟩ := new_tup (r2.mono e3) R3.eF hk
              have ez : z = .bl true := dt_bl (r3.dt R3.eF)
              subst ez
              refine ⟨hp3, key1 k, b, ey, hb, h F3 (.ref p) _ [p] ⟨e23.ff, fun a o e => ?_, fun a o e => ?_, fun a o e => ?_⟩ ⟨p, [k], rfl, rfl, upd_same, fp3, rfl⟩ fun a ha => ?_⟩
              · have na : a ≠ p := ne_of_none e hp
                rw [upd_ne na]
                exact e23.hh _ _ (by rw [upd_ne na]; exact e)
              · have na : a ≠ p := ne_of_none e fp3
                rw [upd_ne na]
                exact e23.fh _ _ e
              · rcases e23.fr a o e with q | q
                · exact .inl q
                · refine .inr ?_
                  by_cases na : a = p
                  · rw [na]; exact hp
                  · rw [upd_ne na] at q; exact q
              · have na : a = p := by simpa using ha
                rw [na]; exact hp
          | false => exact h.elim
        | _ => exact h.elim
      | _ => exact h.elim
/-- the keys, from the datum -/
def unD0 : List (D × D) → Option (List (List Int))
  | [] => some []
  | (.tuple ds, .bool true) :: r => (asInts ds).bind fun k => (unD0 r).map (k :: ·)
  | _ :: _ => none
def unD : List (D × D) → Option (List (List Int))
  | (.none, .none) :: r => unD0 r
  | _ => none
theorem asInts_map' (xs : List Int) : asInts (xs.map .int) = some xs := by
  induction xs with
  | nil => rfl
  | cons x xs ih => rw [List.map_cons]; unfold asInts; rw [ih]; rfl
theorem unD_dtD (ks : List (List Int)) : unD (dtD ks) = some ks := by
  show unD0 (ks.map fun k => (PyData.tuple (k.map .int), PyData.bool true)) = some ks
  induction ks with
  | nil => rfl
  | cons k ks ih =>
    show ((asInts (k.map .int)).bind fun k => (unD0 (ks.map fun k => (PyData.tuple (k.map .int), PyData.bool true))).map (k :: ·)) = _
    rw [asInts_map', ih]; rfl
theorem dtK_val (ks : List (List Int)) (k : List Int) : (valV (dtK ks) (key1 k)).isSome = decide (k ∈ ks) := by
  rw [← valV_any, Bool.eq_iff_iff, List.any_eq_true, decide_eq_true_eq]
  unfold dtK
  constructor
  · rintro ⟨p, hp, h⟩
    obtain ⟨l, hl, rfl⟩ := List.mem_map.mp hp
    have := key1_inj (of_decide_eq_true h)
    rw [← this]; exact hl
  · intro h
    exact ⟨(key1 k, V.bl true), List.mem_map.mpr ⟨k, h, rfl⟩, decide_eq_true rfl⟩
theorem dtK_put (ks : List (List Int)) (k : List Int) : putK (dtK ks) (key1 k) (V.bl true) = dtK (if k ∈ ks then ks else ks ++ [k]) := by
  unfold putK
  rw [valV_any, dtK_val]
  by_cases h : k ∈ ks
  · rw [decide_eq_true h, if_pos rfl, if_pos h]
    unfold dtK
    rw [List.map_map]
    apply List.map_congr_left
    intro l _
    show (if key1 l = key1 k then (key1 l, V.bl true) else (key1 l, V.bl true)) = _
    split <;> rfl
  · rw [decide_eq_false h, if_neg Bool.false_ne_true, if_neg h]
    unfold dtK
    rw [List.map_append]; rfl
/-- k not in the dict of slot j -/
def gDNi : D → Option (Option D) → Rs D
  | .tuple ds, some (some (.dict l)) => match asInts ds, unD l with
    | some k, some ks => .ok (.bool (!decide (k ∈ ks)))
    | _, _ => .no
  | _, _ => .no
def eDNi (fa : DE) (j : Nat) : DE := fun e => (fa e).bind fun x => gDNi x e[j]?
theorem pdt_dni (hu : X.A.units + 65 < cLine) (ha : PD X E H0 ks a fa .new) (p : PE X o (tVar j)) (hk : kAt ks j = .dt := by rfl) (hm : behindInMarks .NotIn o = false := by first | exact nomark _ | rfl) : PDT X E H0 ks (.Compare a [.NotIn] [o] pos) (eDNi fa j) := by
  obtain ⟨ta, pa, qa⟩ := ha.ex
  refine ⟨_, pt_cmp (pc_dnotin (by omega) pa p) hm, rdgT_B (m := .new) fun F σ H env Q R h => ?_⟩
  show ta σ H fun y H1 => tVar j σ H1 fun x H2 => ∃ a o, x = .ref a ∧ DGet H2 a y o ∧ Q (.bl (!o.isSome)) H2
  refine seq1 qa R (g := fun x => gDNi x env[j]?) h fun dx F1 y H1 A1 _ e1 r1 _ R1 h1 => ?_
  cases dx with
  | tuple ds =>
    cases hx : env[j]? with
    | none => have h1 : Done X.K X.mg E H0 F1 H1 .new (gDNi (.tuple ds) env[j]?) Q := h1; rw [hx] at h1; exact h1.elim
    | some od =>
      cases od with
      | none => have h1 : Done X.K X.mg E H0 F1 H1 .new (gDNi (.tuple ds) env[j]?) Q := h1; rw [hx] at h1; exact h1.elim
      | some d =>
        obtain ⟨As, g1, _, _⟩ := R1.sl
        obtain ⟨v, hv, r⟩ := g1 j d hx
        rw [hk] at r
        obtain ⟨q, kk, rfl, rfl, hq, _, _⟩ := r
        have h1 : Done X.K X.mg E H0 F1 H1 .new (match asInts ds, unD (dtD kk) with | some k, some ks => .ok (.bool (!decide (k ∈ ks))) | _, _ => .no) Q := by
          have h1 : Done X.K X.mg E H0 F1 H1 .new (gDNi (.tuple ds) env[j]?) Q := h1
          rw [hx] at h1; exact h1
        rw [unD_dtD] at h1
        cases hk2 : asInts ds with
        | none => rw [hk2] at h1; exact h1.elim
        | some k =>
          rw [hk2] at h1
          have h1 : Got X.K H0 F1 H1 .new (.bool (!decide (k ∈ kk))) Q := h1
          obtain ⟨b, ey, hb⟩ := new_tup r1 R1.eF hk2
          refine ⟨.ref q, hv, q, _, rfl, by rw [ey]; exact DGet.t hq hb, ?_⟩
          rw [dtK_val]
          exact Got.flat h1 R1.eF fun _ => .bl _
  | _ => exact h1.elim
def isDct (j : Nat) (e : En) : Bool := match e[j]? with
  | some (some (.dict _)) => true
  | _ => false
theorem isDct_ok {j : Nat} {env : En} (h : isDct j env = true) : ∃ l, env[j]? = some (some (.dict l)) := by
  unfold isDct at h
  split at h
  · rename_i l e; exact ⟨l, e⟩
  · cases h
def gPut : D → D → Option (Option D) → Option D
  | .tuple ds, .bool true, some (some (.dict l)) => match asInts ds, unD l with
    | some k, some ks => if lim ks.length then some (.dict (dtD (if k ∈ ks then ks else ks ++ [k]))) else none
    | _, _ => none
  | _, _, _ => none
/-- d[k] = True -/
def sDPutT (j : Nat) (fk fv : DE) : DS := fun e => if isDct j e then (fv e).fl fun y => (fk e).fl fun x => match gPut x y e[j]? with
  | some d => .nx (e.set j (some d))
  | none => .no
  else .no
theorem pd1_dputT {fv : DE} {mv : RM} (hu : X.A.units + 65 < cLine) (p : PE X o (tVar j)) (ha : PD X E H0 ks ke fk .new) (hv : PD X E H0 ks ve fv mv) (hk : kAt ks j = .dt := by rfl) (nb : noB ks = true := by decide)
    (hs : swapsWith ve (some (.Subscript o ke pos2)) pos.line X.env = pure false := by rfl) : PD1 X E H0 ks (.Assign [.Subscript o ke pos2] ve pos) (sDPutT j fk fv) ks mr := by
  obtain ⟨tk, pk, qk⟩ := ha.ex
  obtain ⟨tv, pv, qv⟩ := hv.ex
  refine ⟨_, ps_dput (by omega) p pk pv hs, fun F σ H env D R d => ?_⟩
  unfold sDPutT at d
  by_cases hd : isDct j env = true
  · rw [if_pos hd] at d
    obtain ⟨l, hx⟩ := isDct_ok hd
    show tv σ H fun v H1 => tVar j σ H1 fun x H2 => tk σ H2 fun y H3 => ∃ a H4, x = .ref a ∧ DPut H3 a y v H4 ∧ D.nx σ H4
    refine seqF qv R d fun dv F1 v H1 A1 _ e1 r1 _ R1 d1 => ?_
    obtain ⟨As1, g1, _, _⟩ := R1.sl
    obtain ⟨w, hw, rw1⟩ := g1 j _ hx
    rw [hk] at rw1
    obtain ⟨q, kk, rfl, el, hq, _, _⟩ := rw1
    refine ⟨.ref q, hw, ?_⟩
    refine seqF qk R1 d1 fun dk F2 y H2 A2 _ e2 r2 _ R2 d2 => ?_
    have d2 : DoneF X.K X.mg E H0 F2 H2 ks mr (match gPut dk dv env[j]? with | some d => .nx (env.set j (some d)) | none => .no) D := d2
    rw [hx, el] at d2
    cases dk with
    | tuple ds =>
      cases dv with
      | bool bb =>
        cases bb with
        | false => exact d2.elim
        | true =>
          have ev : v = .bl true := dt_bl (r1.dt R1.eF)
          subst ev
          cases hk2 : asInts ds with
          | none =>
            have : gPut (.tuple ds) (.bool true) (some (some (.dict (dtD kk)))) = none := by unfold gPut; simp only [hk2]
            rw [this] at d2; exact d2.elim
          | some k =>
            by_cases z : lim kk.length = true
            · have : gPut (.tuple ds) (.bool true) (some (some (.dict (dtD kk)))) = some (.dict (dtD (if k ∈ kk then kk else kk ++ [k]))) := by
                unfold gPut; simp only [hk2, unD_dtD, if_pos z]
              rw [this] at d2
              obtain ⟨As, k1, k2, k3⟩ := R2.sl
              obtain ⟨w2, hw2, rw2⟩ := k1 j _ hx
              rw [hw] at hw2
              cases hw2
              rw [hk] at rw2
              obtain ⟨q2, kk2, eq2, el2, hq2, fq2, hA⟩ := rw2
              cases eq2
              have ekk : kk2 = kk := by
                have h1 := unD_dtD kk
                rw [el] at el2
                injection el2 with el2
                rw [el2, unD_dtD] at h1
                exact Option.some.inj h1
              subst ekk
              obtain ⟨b, ey, hb⟩ := new_tup r2 R2.eF hk2
              have hj : j < env.length := (List.getElem?_eq_some_iff.mp hx).1
              refine ⟨q, _, rfl, by rw [ey]; exact DPut.t hq2 hb (by unfold dtK; rw [List.length_map]; exact lim_lt z), ?_⟩
              rw [dtK_put]
              refine d2 F2 σ _ (Same.refl _) (R2.changed nb k1 k2 k3 (by rw [hA]; simp) hw hj (A' := [q]) ?_ fun a ha => .inl (by rw [hA]; exact ha))
              rw [hk]
              exact ⟨q, _, rfl, rfl, upd_same, fq2, rfl⟩
            · have : gPut (.tuple ds) (.bool true) (some (some (.dict (dtD kk)))) = none := by
                unfold gPut; simp only [hk2, unD_dtD, if_neg z]
              rw [this] at d2; exact d2.elim
      | _ => exact d2.elim
    | _ => exact d2.elim
  · rw [if_neg hd] at d; exact d.elim
end
end Tf
namespace Tf
open PySem PySem.Spec PyProof.Rows L2
section
variable {X : Cx} {E : XK} {H0 : Hp} {ks ks' ks1 ks2 : List RM} {e a b c o : Expr} {f fa fb fc ft fi fk : DE} {m ma mb mc mr my mi mk : RM} {ta tb tc : TE} {F H : Hp} {σ : L2.St} {env : En} {Q : VK} {pos pos1 pos2 fpos px p1 apos apos1 apos2 ipos ipos1 ipos2 lpos zpos : Pos} {j k : Nat}
/-- another value in a slot of which nothing is said -/
theorem Rel.slot {K : PySem.W.Frag} {y : Option V} (R : Rel K H0 ks F σ H env) (hk : ∀ d, env[k]? ≠ some (some d)) : Rel K H0 ks F (σ.set k y) H env := by
  obtain ⟨As, h1, h2, h3⟩ := R.sl
  refine ⟨R.e0, R.eF, by rw [List.length_set]; exact R.len, R.kl, As, fun i d hd => ?_, h2, h3⟩
  obtain ⟨v, a, b⟩ := h1 i d hd
  refine ⟨v, ?_, b⟩
  by_cases z : k = i
  · subst z; exact absurd hd (hk d)
  · rw [List.getElem?_set_ne z]; exact a
def okRowJ : D → Bool
  | .list (x :: r) => flat x && lim (x :: r).length
  | _ => false
/-- for p in x: p.append(0), and then x.append([]) -/
def sJunkAll (j : Nat) : DS := fun e => match e[j]? with
  | some (some (.list rows)) => if lim rows.length && rows.all okRowJ then .nx (e.set j none) else .no
  | _ => .no
theorem okRowJ_ok {d : D} (h : okRowJ d = true) : ∃ x r, d = .list (x :: r) ∧ flat x = true ∧ (x :: r).length ≤ 100000 := by
  unfold okRowJ at h
  split at h
  · rename_i x r
    rw [Bool.and_eq_true] at h
    exact ⟨x, r, rfl, h.1, of_decide_eq_true h.2⟩
  · cases h
theorem flat_ref {K : PySem.W.Frag} {G : Hp} {a : Addr} {d : D} (h : Dp K G (.ref a) d) : flat d = false := by
  cases h <;> rfl
theorem pds_junkAll {rest : List Stmt} {g : DS} {x : Str} (hp : PassesOwn (model X.prog X.w) X.A X.env X.xe) (hc : X.calm = true) (hv : PE X o (tVar j)) (hN : X.N.Nodup) (hi : X.N[k]? = some x) (hx : Loc X.env.scope x) (hb : PE X b (tVar k)) (hrest : PDs X E H0 (ks.set j .un) rest g ks' mr)
    (hk : kAt ks j = .ow := by rfl) (hkk : kAt ks k = .un := by rfl) (hkl : k < ks.length := by decide) (hjk : k ≠ j := by decide) (nb : noB ks = true := by decide)
    (hf : X.fn x = true ∨ X.env.scope.names.lookup x = some .local := by first | exact .inl rfl | exact .inr rfl)
    (hs : ∀ x, foldedSetIterable o X.env x = pure x := by intro _; rfl)
    (hsw : swapsWith (.Call (.Attribute b "append" apos) [.Constant (.int 0) 0 zpos] [] pos) none ipos.line X.env = pure false := by rfl)
    (hbase : attributeBase b "append" X.env (eval b X.env) = eval b X.env := by rfl)
    (hfew : ((backTo pos (starEach [.Constant (.int 0) 0 zpos] X.env)).all (fun x => !x.1) && (backToKw pos (keywordEach [] X.env)).all (fun x => x.1.isSome)
      && decide (([.Constant (.int 0) 0 zpos] : List Expr).length + ([] : List Keyword).length + (if ([] : List Keyword).isEmpty then 0 else 1) < 30)) = true := by rfl)
    (hline : (apos.endLine == pos.line) = true := by rfl) (he : starEach [.Constant (.int 0) 0 zpos] X.env = (false, eval (.Constant (.int 0) 0 zpos) X.env) :: starEach [] X.env := by rfl) (hpl : (backTo pos (starEach [] X.env)).any (·.1) = false := by rfl)
    (hv2 : PE X c (tVar j)) (hsw2 : swapsWith (.Call (.Attribute c "append" apos2) [.List [] lpos] [] pos2) none ipos2.line X.env = pure false := by rfl)
    (hbase2 : attributeBase c "append" X.env (eval c X.env) = eval c X.env := by rfl)
    (hfew2 : ((backTo pos2 (starEach [.List [] lpos] X.env)).all (fun x => !x.1) && (backToKw pos2 (keywordEach [] X.env)).all (fun x => x.1.isSome)
      && decide (([.List [] lpos] : List Expr).length + ([] : List Keyword).length + (if ([] : List Keyword).isEmpty then 0 else 1) < 30)) = true := by rfl)
    (hline2 : (apos2.endLine == pos2.line) = true := by rfl) (he2 : starEach [.List [] lpos] X.env = (false, eval (.List [] lpos) X.env) :: starEach [] X.env := by rfl) (hpl2 : (backTo pos2 (starEach [] X.env)).any (·.1) = false := by rfl) :
    PDs X E H0 ks (.For (.Name x px) o [.Expr (.Call (.Attribute b "append" apos) [.Constant (.int 0) 0 zpos] [] pos) ipos] [] fpos :: .Expr (.Call (.Attribute c "append" apos2) [.List [] lpos] [] pos2) ipos2 :: rest) (sSeq (sJunkAll j) g) ks' mr := by
  obtain ⟨tr, pr, qr⟩ := hrest.ex
  refine ⟨_, pss_cons (ps_for hp hc (pi_list hv) (pg_name hN hi hx hf) (pss_one (ps_expr (pe_bm PySem.F.plainAttrs_list PySem.F.slot_list_append PySem.F.type_list_append mt_append hb (pa_cons pe_int pa_nil) hbase hfew hline he hpl) hsw)) hs)
    (pss_cons (ps_expr (pe_bm PySem.F.plainAttrs_list PySem.F.slot_list_append PySem.F.type_list_append mt_append hv2 (pa_cons (pe_lst pa_nil) pa_nil he2) hbase2 hfew2 hline2 he2 hpl2) hsw2) pr), fun F σ H env D R d => ?_⟩
  have d : DoneF X.K X.mg E H0 F H ks' mr (match sJunkAll j env with | .nx e' => g e' | r => r) D := d
  cases hd : env[j]? with
  | none => rw [show sJunkAll j env = .no by unfold sJunkAll; rw [hd]] at d; exact d.elim
  | some od =>
    cases od with
    | none => rw [show sJunkAll j env = .no by unfold sJunkAll; rw [hd]] at d; exact d.elim
    | some dd =>
      cases dd with
      | list rows =>
        by_cases z : (lim rows.length && rows.all okRowJ) = true
        · have ej : sJunkAll j env = .nx (env.set j none) := by
            unfold sJunkAll
            rw [hd]
            simp only
            rw [if_pos z]
          rw [ej] at d
          have d : DoneF X.K X.mg E H0 F H ks' mr (g (env.set j none)) D := d
          rw [Bool.and_eq_true] at z
          have lr : rows.length ≤ 100000 := of_decide_eq_true z.1
          obtain ⟨As, g1, g2, g3⟩ := R.sl
          obtain ⟨v, hvj, r⟩ := g1 j _ hd
          rw [hk] at r
          have r0 := r
          obtain ⟨p, xs, rfl, hpA, hpH, al⟩ := ow_list r
          have lx : xs.length = rows.length := dpa_len al
          have hj : j < ks.length := by rw [R.kl]; exact (List.getElem?_eq_some_iff.mp hd).1
          -- each item: another list of the def's own
          have item : ∀ i, i < rows.length → ∃ q ys, xs[i]? = some (.ref q) ∧ q ∈ As j ∧ q ≠ p ∧ H q = some (.lst ys) ∧ ys.length ≤ 100000 := fun i hi => by
            obtain ⟨x0, r1, er, fx, lrow⟩ := okRowJ_ok (List.all_eq_true.mp z.2 rows[i] (List.getElem_mem hi))
            have hri : rows[i]? = some (.list (x0 :: r1)) := by rw [List.getElem?_eq_getElem hi, er]
            obtain ⟨w, hw, dw⟩ := dpa_get al hri
            obtain ⟨q, ys, ew, hqA, hq, al2⟩ := ow_list (K := X.K) (H0 := H0) (F := F) (show ResOk X.K H0 F H .ow w (.list (x0 :: r1)) (As j) from ⟨dw, r0.2⟩)
            subst ew
            refine ⟨q, ys, hw, hqA, fun eqp => ?_, hq, by rw [dpa_len al2]; exact lrow⟩
            subst eqp
            rw [hpH] at hq
            cases hq
            -- the root's first item is a list, the row's is none
            obtain ⟨x1, r2, er2, _, _⟩ := okRowJ_ok (List.all_eq_true.mp z.2 rows[0] (List.getElem_mem (by omega)))
            obtain ⟨w1, hw1, dw1⟩ := dpa_get al (show rows[0]? = some (.list (x1 :: r2)) by rw [List.getElem?_eq_getElem (by omega), er2])
            obtain ⟨w2, hw2, dw2⟩ := dpa_get al2 (show (x0 :: r1)[0]? = some x0 from rfl)
            rw [hw1] at hw2
            cases hw2
            cases dw1 with
            | lst _ _ => rw [flat_ref dw2] at fx; cases fx
          have hkn : ∀ d, env[k]? ≠ some (some d) := fun d hd2 => by
            obtain ⟨v, _, r⟩ := g1 k d hd2
            rw [hkk] at r; exact r
          have hkσ : k < σ.length := by rw [R.len, ← R.kl]; exact hkl
          refine ⟨.ref p, hvj, p, rfl, ⟨xs, SqL.of hpH⟩, fun i m σ' H' => m = rows.length - i ∧ i ≤ rows.length ∧ (σ' = σ ∨ ∃ y, σ' = σ.set k y) ∧ (∀ a, a ∉ As j → H' a = H a) ∧ H' p = some (.lst xs) ∧ ∀ q ∈ As j, q ≠ p → ∀ ys, H q = some (.lst ys) → ∃ zs, H' q = some (.lst zs) ∧ zs.length ≤ ys.length + i,
            ⟨rows.length, by simp, Nat.zero_le _, .inl rfl, fun a _ => rfl, hpH, fun q _ _ ys h => ⟨ys, h, Nat.le_refl _⟩⟩, ?_⟩
          rintro i m σ' H' ⟨rfl, hile, hσ, hout, hp', hrows⟩
          by_cases hlt : i < rows.length
          · obtain ⟨q, ys, hxi, hqA, hqp, hq, hys⟩ := item i hlt
            obtain ⟨zs, hqz, lz⟩ := hrows q hqA hqp ys hq
            refine .inr ⟨⟨xs, _, SqL.of hp', hxi⟩, fun σ2 H2 => ((∃ y, σ2 = σ.set k y) ∧ (∀ a, a ∉ As j → H2 a = H a) ∧ H2 p = some (.lst xs) ∧ ∀ q ∈ As j, q ≠ p → ∀ ys, H q = some (.lst ys) → ∃ zs, H2 q = some (.lst zs) ∧ zs.length ≤ ys.length + (i + 1)), fun σ2 H2 ⟨h1, h2, h3, h4⟩ => ⟨rows.length - (i + 1), by omega, rfl, hlt, .inr h1, h2, h3, h4⟩, fun y H2 hy => ?_⟩
            obtain ⟨rfl, hy⟩ := hy
            have ey : y = .ref q := by
              have := hy xs (SqL.of hp')
              rw [hxi] at this
              exact (Option.some.inj this).symm
            subst ey
            have hσk : k < σ'.length := by
              rcases hσ with h | ⟨y, h⟩
              · rw [h]; exact hkσ
              · rw [h, List.length_set]; exact hkσ
            refine ⟨.ref q, List.getElem?_set_self hσk, tyL hqz, q, zs, .int 0, rfl, rfl, hqz, Nat.lt_of_le_of_lt (show zs.length ≤ 200000 by omega) (by rw [sizeLine_eq]; decide), ?_, fun a ha => ?_, ?_, fun q2 hq2 hq2p ys2 h2 => ?_⟩
            · rcases hσ with h | ⟨y, h⟩
              · exact ⟨_, by rw [h]⟩
              · exact ⟨some (.ref q), by rw [h, List.set_set]⟩
            · rw [upd_ne fun z => ha (by rw [z]; exact hqA)]
              exact hout a ha
            · rw [upd_ne fun z => hqp z.symm]
              exact hp'
            · obtain ⟨zs2, e2, l2⟩ := hrows q2 hq2 hq2p ys2 h2
              by_cases eq2 : q2 = q
              · subst eq2
                rw [hqz] at e2
                cases e2
                exact ⟨_, upd_same, by rw [List.length_append]; simp; omega⟩
              · exact ⟨zs2, by rw [upd_ne eq2]; exact e2, by omega⟩
          · refine .inl ⟨⟨xs, SqL.of hp', by rw [lx]; omega⟩, ?_⟩
            have hvj' : σ'[j]? = some (some (.ref p)) := by
              rcases hσ with h | ⟨y, h⟩
              · rw [h]; exact hvj
              · rw [h, List.getElem?_set_ne hjk]; exact hvj
            refine ⟨.ref p, hvj', tyL hp', Nat.zero_le _, fun w nw => ?_⟩
            have npw : p ≠ w := ne_of_none hp' nw
            refine ⟨p, xs, .ref w, rfl, rfl, by rw [upd_ne npw]; exact hp', Nat.lt_of_le_of_lt (show xs.length ≤ 100001 by omega) big_line, ?_⟩
            have RJ := R.junk nb hj g1 g2 g3 (H' := upd (upd H' w (.lst [])) p (.lst (xs ++ [.ref w]))) fun a ha hna => by
              have n1 : a ≠ p := fun z => ha (by rw [z]; exact hpA)
              have e1 := hout a ha
              have n3 : a ≠ w := fun z => hna (by rw [← e1, z]; exact nw)
              rw [upd_ne n1, upd_ne n3, e1]
            have RK : Rel X.K H0 (ks.set j .un) F σ' (upd (upd H' w (.lst [])) p (.lst (xs ++ [.ref w]))) (env.set j none) := by
              rcases hσ with h | ⟨y, h⟩
              · rw [h]; exact RJ
              · rw [h]
                refine RJ.slot fun d hd2 => ?_
                rw [List.getElem?_set_ne fun z => hjk z.symm] at hd2
                exact hkn d hd2
            exact qr F σ' _ (env.set j none) D RK d
        · rw [show sJunkAll j env = .no by unfold sJunkAll; rw [hd]; simp only; rw [if_neg z]] at d; exact d.elim
      | _ => rw [show sJunkAll j env = .no by unfold sJunkAll; rw [hd]] at d; exact d.elim
end
end Tf
namespace Tf
open PySem PySem.Spec PyProof.Rows L2
section
variable {X : Cx} {E : XK} {H0 : Hp} {ks ks' ks1 ks2 : List RM} {e a b c o : Expr} {f fa fb fc ft fi fo : DE} {m ma mb mc mr my mi mo : RM} {ta tb tc to : TE} {F H : Hp} {σ : L2.St} {env : En} {Q : VK} {pos apos ipos : Pos} {j : Nat} {tg : Expr}

/-! ### texts: join, split, int(text), sign by sign -/
def asStrs : List D → Option (List Str)
  | [] => some []
  | .str i :: r => (asStrs r).map (i :: ·)
  | _ :: _ => none
theorem dpa_strs {K : PySem.W.Frag} {H : Hp} : ∀ {ds : List D} {vs : List V} {bs : List Str}, asStrs ds = some bs → DpAll K H vs ds → vs = bs.map V.str
  | [], _, ns, e, .nil => by
      have q := Option.some.inj e
      subst q
      rfl
  | .str i :: r, _, ns, e, .cons h t => by
      have e' : (asStrs r).map (i :: ·) = some ns := e
      cases q : asStrs r with
      | none => rw [q] at e'; cases e'
      | some ms =>
        rw [q] at e'
        have z := Option.some.inj e'
        subst z
        have a := dpa_strs q t
        cases h
        rw [a]; rfl
  | .none :: _, _, _, e, _ => nomatch e
  | .int _ :: _, _, _, e, _ => nomatch e
  | .bool _ :: _, _, _, e, _ => nomatch e
  | .list _ :: _, _, _, e, _ => nomatch e
  | .tuple _ :: _, _, _, e, _ => nomatch e
  | .dict _ :: _, _, _, e, _ => nomatch e
theorem dpa_ofStrs {K : PySem.W.Frag} {H : Hp} : ∀ ns : List Str, DpAll K H (ns.map V.str) (ns.map .str)
  | [] => .nil
  | n :: ns => .cons (.str n) (dpa_ofStrs ns)
def joinLim (s : Str) (ys : List Str) : Bool := decide ((ys.map (·.length)).sum + ys.length * s.length ≤ 100000)
def gJoin (s : Str) : D → Rs D
  | .list ds => match asStrs ds with
    | some ys => if joinLim s ys then .ok (.str (Txt.join s ys)) else .no
    | none => .no
  | _ => .no
/-- s.join(xs) -/
def eJoin (fo fa : DE) : DE := fun e => (fo e).bind fun x => match x with
  | .str s => (fa e).bind (gJoin s)
  | _ => .no
theorem pd_join (ho : PD X E H0 ks o fo mo) (ha : PD X E H0 ks a fa ma) (hs : starEach [a] X.env = [(false, eval a X.env)] := by rfl)
    (hbase : attributeBase o "join" X.env (eval o X.env) = eval o X.env := by rfl) (hline : (apos.endLine == pos.line) = true := by rfl) :
    PD X E H0 ks (.Call (.Attribute o "join" apos) [a] [] pos) (eJoin fo fa) .new := by
  obtain ⟨to, po, qo⟩ := ho.ex
  obtain ⟨ta, pa, qa⟩ := ha.ex
  refine ⟨_, pe_join po pa hs hbase hline, fun F σ H env Q R h => ?_⟩
  show to σ H fun x H1 => (∃ a, x = .str a) ∧ ta σ H1 fun y H2 => ∃ a p, ∃ ys : List Str, x = .str a ∧ [y] = [.ref p] ∧ (SqL X.K H2 p (ys.map V.str) ∨ SqT X.K H2 p (ys.map V.str)) ∧ (ys.map (·.length)).sum + ys.length * a.length ≤ 16777216 ∧ Q (.str (Txt.join a ys)) H2
  refine seq1 qo R h fun dx F1 x H1 A1 _ e1 r1 _ R1 h1 => ?_
  have d1 := r1.dt R1.eF
  cases dx with
  | str s =>
    have ex := dt_str d1
    subst ex
    refine ⟨⟨s, rfl⟩, ?_⟩
    refine seq1 qa R1 h1 fun dy F2 y H2 A2 _ e2 r2 _ R2 h2 => ?_
    have d2 := r2.dt R2.eF
    cases dy with
    | list ds =>
      obtain ⟨p, vs, rfl, sq, al⟩ := dt_list d2
      have h2 : Done X.K X.mg E H0 F2 H2 .new (match asStrs ds with | some ys => if joinLim s ys then .ok (.str (Txt.join s ys)) else .no | none => .no) Q := h2
      cases q : asStrs ds with
      | none => rw [q] at h2; exact h2.elim
      | some ys =>
        rw [q] at h2
        rw [dpa_strs q al] at sq
        have h2 : Done X.K X.mg E H0 F2 H2 .new (if joinLim s ys = true then .ok (.str (Txt.join s ys)) else .no) Q := h2
        by_cases z : joinLim s ys = true
        · rw [if_pos z] at h2
          have z : (ys.map (·.length)).sum + ys.length * s.length ≤ 100000 := of_decide_eq_true z
          exact ⟨s, p, ys, rfl, rfl, .inl sq, by omega, Got.flat h2 R2.eF fun _ => .str _⟩
        · rw [if_neg z] at h2; exact h2.elim
    | _ => exact h2.elim
  | _ => exact h1.elim
def gSplit (s : Str) : D → Rs D
  | .str b => if !(b.length == 0) && lim s.length then .ok (.list ((Txt.split s b).map .str)) else .no
  | _ => .no
/-- s.split(b) -/
def eSplit (fo fa : DE) : DE := fun e => (fo e).bind fun x => match x with
  | .str s => (fa e).bind (gSplit s)
  | _ => .no
theorem pd_split (ho : PD X E H0 ks o fo mo) (ha : PD X E H0 ks a fa ma) (hs : starEach [a] X.env = [(false, eval a X.env)] := by rfl)
    (hbase : attributeBase o "split" X.env (eval o X.env) = eval o X.env := by rfl) (hline : (apos.endLine == pos.line) = true := by rfl) :
    PD X E H0 ks (.Call (.Attribute o "split" apos) [a] [] pos) (eSplit fo fa) .o1 := by
  obtain ⟨to, po, qo⟩ := ho.ex
  obtain ⟨ta, pa, qa⟩ := ha.ex
  refine ⟨_, pe_split po pa hs hbase hline, fun F σ H env Q R h => ?_⟩
  show to σ H fun x H1 => (∃ a, x = .str a) ∧ ta σ H1 fun y H2 => ∃ a b, x = .str a ∧ [y] = [.str b] ∧ (b.length == 0) = false ∧ a.length + 2 ≤ sizeLine ∧ rNewStrs (Txt.split a b) H2 Q
  refine seq1 qo R h fun dx F1 x H1 A1 _ e1 r1 _ R1 h1 => ?_
  have d1 := r1.dt R1.eF
  cases dx with
  | str s =>
    have ex := dt_str d1
    subst ex
    refine ⟨⟨s, rfl⟩, ?_⟩
    refine seq1 qa R1 h1 fun dy F2 y H2 A2 _ e2 r2 _ R2 h2 => ?_
    have d2 := r2.dt R2.eF
    cases dy with
    | str t =>
      have h2 : Done X.K X.mg E H0 F2 H2 .o1 (if (!(t.length == 0) && lim s.length) = true then .ok (.list ((Txt.split s t).map .str)) else .no) Q := h2
      by_cases z : (!(t.length == 0) && lim s.length) = true
      · rw [if_pos z] at h2
        rw [Bool.and_eq_true, Bool.not_eq_true'] at z
        have z2 : s.length ≤ 100000 := of_decide_eq_true z.2
        exact ⟨s, t, rfl, by rw [dt_str d2], z.1, by rw [sizeLine_eq]; omega, fun p hp => Got.lst h2 R2.eF hp (dpa_ofStrs _)⟩
      · rw [if_neg z] at h2; exact h2.elim
    | _ => exact h2.elim
  | _ => exact h1.elim
/-- int(a text) -/
def oIntS : D → Rs D
  | .str s => if decide (s.length ≤ 640) then match PySem.intText? s with
    | some n => .ok (.int n)
    | none => .no else .no
  | _ => .no
theorem cd_intS : CallD X (.type "int") oIntS .new := by
  refine ⟨_, call_int_str, fun E H0 F H x dx Q h0 h1 hx h => ?_⟩
  cases dx with
  | str s =>
    have h : Done X.K X.mg E H0 F H .new (if decide (s.length ≤ 640) = true then (match PySem.intText? s with | some n => .ok (.int n) | none => .no) else .no) Q := h
    by_cases z : decide (s.length ≤ 640) = true
    · rw [if_pos z] at h
      cases q : PySem.intText? s with
      | none => rw [q] at h; exact h.elim
      | some n =>
        rw [q] at h
        exact ⟨s, n, by rw [dt_str hx], q, of_decide_eq_true z, Got.flat h h1 fun _ => .int _⟩
    · rw [if_neg z] at h; exact h.elim
  | _ => exact h.elim
/-- for c in s -/
theorem itok_str {K : PySem.W.Frag} {F1 H1 : Hp} {s : Str} : ItOk K H0 F1 H1 true (Its s) .new (s.cps.toList.map fun c => .str ⟨#[c]⟩) := by
  have len : (s.cps.toList.map fun c => PyData.str ⟨#[c]⟩).length = s.cps.size := by rw [List.length_map, Array.length_toList]
  refine ⟨fun i F' H' hi st => by rw [len] at hi; exact hi, fun i F' H' x H'' d hd st y => ?_, fun F' H' st => by rw [len]; exact Nat.le_refl _⟩
  obtain ⟨rfl, c, hc, rfl⟩ := y
  rw [List.getElem?_map, Array.getElem?_toList, hc] at hd
  have ed := Option.some.inj hd
  subst ed
  exact ⟨F', Ext.refl st.2.1, .str _, rfl⟩
theorem pdi_str (ha : PD X E H0 ks a fa ma) : PDI X E H0 ks tg a (iS fa) .new true := by
  obtain ⟨ta, pa, qa⟩ := ha.ex
  refine ⟨_, pi_str pa, fun F σ H env R r h => ?_⟩
  show ta σ H fun v H1 => ∃ x, v = .str x ∧ R (Its x) H1
  refine seqI qa r h fun d F1 x H1 A _ e1 r1 _ R1 h1 => ?_
  cases d with
  | str s => exact ⟨s, dt_str (r1.dt R1.eF), h1 F1 H1 _ (Ext.refl R1.eF) itok_str⟩
  | _ => exact h1.elim
/-! ### x.append(a new list), x a list of own lists -/
def gAppO (j : Nat) (e : En) (d : D) : Fl := match d, e[j]? with
  | .list row, some (some (.list xs)) => if lim xs.length then .nx (e.set j (some (.list (xs ++ [.list row])))) else .no
  | _, _ => .no
def sAppO (j : Nat) (fa : DE) : DS := sIf0 j fun e => (fa e).fl (gAppO j e)
theorem pd1_appO (p : PE X o (tVar j)) (ha : PD X E H0 ks a fa .o1) (hk : kAt ks j = .o2 := by rfl) (nb : noB ks = true := by decide) (hs : swapsWith (.Call (.Attribute o "append" apos) [a] [] pos) none ipos.line X.env = pure false := by rfl)
    (hbase : attributeBase o "append" X.env (eval o X.env) = eval o X.env := by rfl)
    (hfew : ((backTo pos (starEach [a] X.env)).all (fun x => !x.1) && (backToKw pos (keywordEach [] X.env)).all (fun x => x.1.isSome)
      && decide ([a].length + ([] : List Keyword).length + (if ([] : List Keyword).isEmpty then 0 else 1) < 30)) = true := by rfl)
    (hline : (apos.endLine == pos.line) = true := by rfl) (he : starEach [a] X.env = (false, eval a X.env) :: starEach [] X.env := by rfl) (hpl : (backTo pos (starEach [] X.env)).any (·.1) = false := by rfl) :
    PD1 X E H0 ks (.Expr (.Call (.Attribute o "append" apos) [a] [] pos) ipos) (sAppO j fa) ks mr := by
  obtain ⟨ta, pa, qa⟩ := ha.ex
  refine ⟨_, ps_expr (pe_bm PySem.F.plainAttrs_list PySem.F.slot_list_append PySem.F.type_list_append mt_append p (pa_cons pa pa_nil he) hbase hfew hline he hpl) hs, fun F σ H env D R d => ?_⟩
  obtain ⟨⟨xs0, hx⟩, d⟩ := ite_done d
  obtain ⟨q, qs, dss, e0, hv, hq, _, _⟩ := R.o2 nb hk hx
  refine ⟨.ref q, hv, .inl ⟨rfl, _, SqL.of hq⟩, ?_⟩
  refine seqF qa R d fun dx F1 x H1 A1 _ e1 r1 n1 R1 d1 => ?_
  cases dx with
  | list row =>
    have d1 : DoneF X.K X.mg E H0 F1 H1 ks mr (match (PyData.list row), env[j]? with | .list row, some (some (.list xs)) => if lim xs.length then .nx (env.set j (some (.list (xs ++ [.list row])))) else .no | _, _ => .no) D := d1
    rw [hx] at d1
    have d1 : DoneF X.K X.mg E H0 F1 H1 ks mr (if lim xs0.length = true then .nx (env.set j (some (.list (xs0 ++ [.list row])))) else .no) D := d1
    by_cases z : lim xs0.length = true
    · rw [if_pos z] at d1
      obtain ⟨q', vs, hv', hq', hl, R2⟩ := R.o2app e1 nb hk hx r1 n1
      rw [hv] at hv'
      cases hv'
      exact ⟨q, vs, x, rfl, rfl, hq', by rw [hl]; exact lim_lt z, d1 F1 σ _ (Same.refl _) R2⟩
    · rw [if_neg z] at d1; exact d1.elim
  | _ => exact d1.elim
end
end Tf
namespace Tf
open PySem PySem.Spec PyProof.Rows L2
section
variable {X : Cx} {E : XK} {H0 : Hp} {ks ks' ks1 ks2 : List RM} {e a b c o : Expr} {f fa fb fc ft fi fo : DE} {m ma mb mc mr my mi mo : RM} {ta tb tc to : TE} {F H : Hp} {σ : L2.St} {env : En} {Q : VK} {pos apos ipos : Pos} {j : Nat} {tg : Expr}

/-! ### l.count(a truth value) -/
theorem vals_bools : ∀ {bs : List Bool} {us : List Value}, Vals (bs.map V.bl) us → us = bs.map Value.bool
  | [], _, .nil => rfl
  | b :: bs, _, .cons r t => by
    cases (show _ = Value.bool b from r)
    rw [vals_bools t]; rfl
theorem countP_bools (k : Bool) : ∀ bs : List Bool, (bs.map Value.bool).countP (isBoolOf k) = bs.count k
  | [] => rfl
  | b :: bs => by
    rw [List.map_cons, List.countP_cons, List.count_cons, countP_bools k bs]; rfl
def rCntB (K : PySem.W.Frag) : V → List V → Hp → VK → Prop := fun x xs H Q => ∃ (q : Addr) (bs : List Bool) (k : Bool), x = .ref q ∧ xs = [.bl k] ∧ SqL K H q (bs.map V.bl) ∧ Q (.int (bs.count k : Nat)) H
theorem mt_bcount : MtR X "list.count" (rCntB X.K) := by
  intro pins s σ H x xs v us Q I rx rxs h
  obtain ⟨q, bs, k, rfl, rfl, hs, hq⟩ := h
  cases rx
  obtain ⟨u, rfl, ru⟩ := rxs.one
  cases (show u = Value.bool k from ru)
  obtain ⟨its, rv, ⟨⟨cls, dd, data, sl⟩, n, ho, hc, hdn, hd⟩, hlen⟩ := I.list hs
  simp only at hc hd
  subst hc hd
  have ei := vals_bools rv
  subst ei
  refine call_meets PySem.F.slot_list_count ⟨_, ho, rfl⟩ PySem.F.entry_list_count (PySem.F.args_list_count_2 _ _) (SeqAt.list_countAt q _ n dd sl (.bool k) (isBoolOf k)) ⟨ho, fun y hy => ?_, ?_⟩
  · have hy : y ∈ bs.map Value.bool := by simpa using hy
    obtain ⟨b, _, rfl⟩ := List.mem_map.mp hy
    exact SeqAt.EqAt.bool_bool b k
  · refine ⟨.int (bs.count k : Nat), H, I.tok _, ⟨s.toks, ?_⟩, hq⟩
    have := countP_bools k bs
    show Value.int (((bs.map Value.bool).countP (isBoolOf k) : Nat) : Int) s.toks = Value.int ((bs.count k : Nat) : Int) s.toks
    rw [this]
def oCountB : D → D → Rs D
  | .list ds, .bool k => match asBools ds with
    | some bs => .ok (.int (bs.count k : Nat))
    | none => .no
  | _, _ => .no
def eCountB (fo fa : DE) : DE := fun e => (fo e).bind fun x => match x with
  | .list ds => (fa e).bind (oCountB (.list ds))
  | _ => .no
theorem pd_countB (ho : PD X E H0 ks o fo mo) (ha : PD X E H0 ks a fa ma)
    (hbase : attributeBase o "count" X.env (eval o X.env) = eval o X.env := by rfl)
    (hfew : ((backTo pos (starEach [a] X.env)).all (fun x => !x.1) && (backToKw pos (keywordEach [] X.env)).all (fun x => x.1.isSome)
      && decide ([a].length + ([] : List Keyword).length + (if ([] : List Keyword).isEmpty then 0 else 1) < 30)) = true := by rfl)
    (hline : (apos.endLine == pos.line) = true := by rfl) (he : starEach [a] X.env = (false, eval a X.env) :: starEach [] X.env := by rfl) (hpl : (backTo pos (starEach [] X.env)).any (·.1) = false := by rfl) :
    PD X E H0 ks (.Call (.Attribute o "count" apos) [a] [] pos) (eCountB fo fa) .new := by
  obtain ⟨to, po, qo⟩ := ho.ex
  obtain ⟨ta, pa, qa⟩ := ha.ex
  refine ⟨_, pe_bm PySem.F.plainAttrs_list PySem.F.slot_list_count PySem.F.type_list_count mt_bcount po (pa_cons pa pa_nil he) hbase hfew hline he hpl, fun F σ H env Q R h => ?_⟩
  show to σ H fun x H1 => tyV X.K "list" x H1 ∧ ta σ H1 fun y H2 => rCntB X.K x [y] H2 Q
  refine seq1 qo R h fun dx F1 x H1 A1 _ e1 r1 _ R1 h1 => ?_
  have d1 := r1.dt R1.eF
  cases dx with
  | list ds =>
    obtain ⟨l, xs, rfl, s, al⟩ := dt_list d1
    refine ⟨.inl ⟨rfl, xs, s⟩, ?_⟩
    refine seq1 qa R1 h1 fun dy F2 y H2 A2 _ e2 r2 _ R2 h2 => ?_
    obtain ⟨l2, xs2, el, s2, al2⟩ := dt_list ((r1.mono e2).dt R2.eF)
    cases el
    cases dy with
    | bool k =>
      have h2 : Done X.K X.mg E H0 F2 H2 .new (match asBools ds with | some bs => .ok (.int (bs.count k : Nat)) | none => .no) Q := h2
      cases q : asBools ds with
      | none => rw [q] at h2; exact h2.elim
      | some bs =>
        rw [q] at h2
        rw [dpa_bools q al2] at s2
        exact ⟨l, bs, k, rfl, by rw [dt_bl (r2.dt R2.eF)], s2, Got.flat h2 R2.eF fun _ => .int _⟩
    | _ => exact h2.elim
  | _ => exact h1.elim

/-! ### isinstance of an exception that stands by -/
theorem call_isP {p : Addr} {oe : Obj} {C : Addr} (hp : (p, oe) ∈ X.pn) (hC : ExcC X.K C) (hz : Zc (.ref C) none oe) (hv : ∃ vs, oe.data = .fields vs) : CallR X (.builtin "isinstance") (rIsE X.K C p) := by
  intro pins s σ H xs us Q I r h
  obtain ⟨c, cv, b, rfl, hcv, eb, q⟩ := h
  obtain ⟨u1, u2, rfl, r1, r2⟩ := vals2 r
  cases (show u1 = Value.ref p from r1)
  have e2 := hcv _ r2
  subst e2
  have J : PySem.W.InstAt s.heap p oe C none := by
    obtain ⟨vs, hv⟩ := hv
    obtain ⟨oc, od, oda, osl⟩ := oe
    obtain ⟨z1, z2⟩ := hz
    simp only at z1 z2 hv
    subst z1 z2 hv
    exact ⟨(I.pin _ (List.mem_append_left _ hp)).1, rfl, rfl, trivial⟩
  have KX := PySem.W.handS_kitx_exc (x := p) (ox := oe) hC.hg hC.hk hC.hs hC.hd hC.ha hC.hn hC.ht hC.hm
  exact PySem.W.kia_one KX I.kIn J eb (fun z => nomatch z) fun tk => ⟨.bl b, H, I.tok tk, rfl, q⟩
def gIsE (p : Addr) (k : Bool) : D → Rs D
  | .dict [(.int n, .none)] => if n = (p : Int) then .ok (.bool k) else .no
  | _ => .no
theorem gIsE_ok {p : Addr} {k : Bool} {d : D} : gIsE p k d = .no ∨ (d = exD p ∧ gIsE p k d = .ok (.bool k)) := by
  unfold gIsE
  split
  · rename_i n
    by_cases z : n = (p : Int)
    · subst z
      exact .inr ⟨rfl, if_pos rfl⟩
    · exact .inl (if_neg z)
  · exact .inl rfl
def eIsE (p : Addr) (k : Bool) (fo : DE) : DE := fun e => (fo e).bind (gIsE p k)
theorem dt_ex {K : PySem.W.Frag} {v : V} {n : Int} (h : Dt K H v (.dict [(.int n, .none)])) : ∃ p : Addr, v = .ref p ∧ n = (p : Int) := by
  rcases h with h | ⟨p, ns, _, e, _⟩ | ⟨p, kk, _, e, _⟩ | ⟨p, rfl, e⟩
  · cases h
  · cases ns with
    | nil => injection e with e; cases e
    | cons x r => injection e with e; injection e with e _; injection e with _ e; cases e
  · injection e with e; injection e with e _; injection e with e _; cases e
  · injection e with e; injection e with e _; injection e with e _; injection e with e
    exact ⟨p, rfl, e⟩
theorem pd_isE {p : Addr} {oe : Obj} {C : Addr} {k : Bool} {cv : V} {cu : Value} {ipos2 : Pos} (hp : (p, oe) ∈ X.pn) (hC : ExcC X.K C) (hz : Zc (.ref C) none oe) (hv : ∃ vs, oe.data = .fields vs) (ho : PD X E H0 ks o fo mo) (hc : PE X c (tC cv)) (hcv : ∀ u, RelV cv u → u = cu)
    (hk : PySem.W.kitOne X.K (.ref C) cu = some k) (hmi : X.mg "isinstance" = none) (hgi : Gl X "isinstance" := by rfl)
    (h1 : starEach [o, c] X.env = (false, eval o X.env) :: starEach [c] X.env := by rfl) (h2 : starEach [c] X.env = (false, eval c X.env) :: starEach [] X.env := by rfl) (h3 : (backTo pos (starEach [c] X.env)).any (·.1) = false := by rfl) :
    PD X E H0 ks (.Call (.Name "isinstance" ipos2) [o, c] [] pos) (eIsE p k fo) .new := by
  obtain ⟨to, po, qo⟩ := ho.ex
  refine ⟨_, pe_callB (call_isP hp hC hz hv) hgi hmi (by decide +kernel) (pa_cons po (pa_cons hc pa_nil h2) h1) (by decide) (by decide) h1 h3, fun F σ H env Q R h => ?_⟩
  refine seq1 (k := fun x H1 => rIsE X.K C p [x, cv] H1 Q) qo R h fun dx F1 x H1 A1 _ e1 r1 _ R1 h1 => ?_
  have h1 : Done X.K X.mg E H0 F1 H1 .new (gIsE p k dx) Q := h1
  rcases gIsE_ok (p := p) (k := k) (d := dx) with z | ⟨ed, z⟩
  · rw [z] at h1; exact h1.elim
  · have h5 : Done X.K X.mg E H0 F1 H1 .new (.ok (.bool k)) Q := by rw [z] at h1; exact h1
    subst ed
    obtain ⟨q, rfl, en⟩ := dt_ex (n := (p : Int)) (r1.dt R1.eF)
    have : q = p := (Int.ofNat_inj.mp en).symm
    subst this
    exact ⟨cv, cu, k, rfl, hcv, hk, Got.flat h5 R1.eF fun _ => .bl _⟩
end

/-! ### what is known of the own exceptions -/
def ecA (c1 c2 c3 c4 c5 c6 c7 : Addr) : EC → Addr
  | .NoTable => c1 | .NoFolk => c2 | .NoElement => c3 | .NoPart => c4
  | .NotLoose => c5 | .TooLarge => c6 | .NoNote => c7
structure ExK (K : PySem.W.Frag) (CF : Addr) (Cs : EC → Addr) : Prop where
  x : ∀ c, ExcC K (Cs c)
  ty : ∀ c, PySem.W.typeIn K (.ref (Cs c)) = some (.type "type")
  su : ∀ c k, PySem.W.subIn K (.ref (Cs c)) (.ref (Cs k)) = some (decide (c = k))
  sv : ∀ c, PySem.W.subIn K (.ref (Cs c)) (.type "ValueError") = some true
  sf : ∀ c, PySem.W.subIn K (.ref (Cs c)) (.ref CF) = some true
  bf : PySem.W.subIn K (.ref CF) (.type "BaseException") = some true
  df : PySem.W.hasDictIn K CF = true
  tf : PySem.W.typeIn K (.ref CF) = some (.type "type")
theorem ExK.one {K : PySem.W.Frag} {CF : Addr} {Cs : EC → Addr} (h : ExK K CF Cs) (c k : EC) : PySem.W.kitOne K (.ref (Cs c)) (.ref (Cs k)) = some (decide (c = k)) := by
  unfold PySem.W.kitOne
  by_cases z : (Value.ref (Cs c) == Value.ref (Cs k)) = true
  · rw [if_pos z]
    have e : Cs c = Cs k := Value.ref.inj (beq_iff_eq.mp z)
    have h1 := h.su c k
    have h2 := h.su c c
    rw [← e] at h1
    rw [← h1, h2, decide_eq_true rfl]
  · rw [if_neg z]
    obtain ⟨cd, hc, _⟩ := PySem.W.any_some (h.x k).hd
    unfold PySem.W.kitCls
    simp only
    rw [if_pos (by rw [hc, h.ty k]; rfl)]
    exact h.su c k
theorem ExK.val {K : PySem.W.Frag} {CF : Addr} {Cs : EC → Addr} (h : ExK K CF Cs) (c : EC) : PySem.W.kitOne K (.ref (Cs c)) (.type "ValueError") = some true := by
  unfold PySem.W.kitOne
  rw [if_neg (fun z => by cases beq_iff_eq.mp z)]
  unfold PySem.W.kitCls
  simp only
  rw [if_pos (by decide +kernel)]
  exact h.sv c
theorem ExK.exm {K : PySem.W.Frag} {CF : Addr} {Cs : EC → Addr} (h : ExK K CF Cs) (c : EC) : PySem.W.exmOne K (.ref (Cs c)) (.ref CF) = some true := PySem.W.exm_ref h.bf h.df h.tf (h.sf c)
end Tf
namespace Tf
open PySem PySem.Spec PyProof.Rows L2
def wordS : EC → Str
  | .NoTable => "table" | .NoFolk => "folk" | .NoElement => "element" | .NoPart => "part"
  | .NotLoose => "loose" | .TooLarge => "large" | .NoNote => "note"
/-! ### a def that is handed a caught exception -/
structure WordOk (P : Program) (w : World) (K : PySem.W.Frag) (mg : Str → Option Value) (base : Heap) (k : Nat) (fn : Addr) (fd : FuncData) (Cs : EC → Addr) : Prop where
  run : ∀ (A : Around) (outer : List Env) (s : Shared) (H : Hp) (args : Args) (Q : VK) (E : XK) (p : Addr × Obj) (c : EC),
    L2H.RoomH k A → L2H.PinOk outer H s p → Env0 P w K mg base A outer s H → BindsTo s fd args [("e", .ref p.1)] → Zc (.ref (Cs c)) none p.2 → (∃ vs, p.2.data = .fields vs) →
    (∀ H', Same H H' → Q (.str (wordS c)) H') → codeAny (model P w) A (.call (.ref fn) args) (CR (L2.CX P w) outer P w H s Q E) s
section
variable {P : Program} {w : World} {K : PySem.W.Frag} {mg : Str → Option Value} {base : Heap}
theorem rel_word {H : Hp} {N : List Str} (a : Addr) : Rel K H (start0 1 N.length) H (L2.start N [.ref a]) H (some (exD a) :: List.replicate (N.length - 1) none) :=
  rel_start (N := N) (vs := [.ref a]) (ds := [exD a]) (.cons (.inr (.inr (.inr ⟨a, rfl, rfl⟩))) .nil)
theorem word_fn {x qual : Str} {st : Stmt} {fn : Addr} {fd : FuncData} {N : List Str} {k : Nat} {g : EC → Addr → DS} {Cs : EC → Addr} (FF : Fun K x qual st fn fd) (S : FnScope N ["e"] (defScope st))
    (hb : ∀ (cdv : Value) (A : Around) (outer : List Env) (s : Shared) (H : Hp) (E : XK) (p : Addr × Obj) (c : EC), L2H.RoomH k (A.deeper (envOfC qual (defScope st) s.heap.objs.size fn cdv)) → Zc (.ref (Cs c)) none p.2 → (∃ vs, p.2.data = .fields vs) →
      ∃ ks', PDs (L2H.cxH (L2.CX P w) P w K mg base N qual (defScope st) fn cdv A outer s H E p) E H (start0 1 N.length) (defBody st) (g c p.1) ks' .new)
    (hg : ∀ c a, g c a (some (exD a) :: List.replicate (N.length - 1) none) = .rt (.str (wordS c))) : WordOk P w K mg base (k + 1) fn fd Cs := by
  obtain ⟨_, _, _, _, _, _, cdv, _, _, rfl, look, code⟩ := FF.ex
  constructor
  intro A outer s H args Q E p c room pin e0 bind hz hv hQ
  have keep : ∀ b o, base.get? b = some o → s.heap.get? b = some o := fun b o h => (e0.bs b o h).1
  have kin := e0.mod.kin.keeps keep
  have nol := e0.mod.nolimit.keeps keep
  have lk : ∀ y ∈ ([("e" : Str)]).zip [Value.ref p.1], (defScope st).names.lookup y.1 = some .local ∨
      ((defScope st).names.lookup y.1 = some .cell ∧ ((cellsFrom (s.heap.objs.size + 1) (defScope st).names []).lookup y.1).isSome = true) := fun y hy => by
    have e : y = (("e" : Str), Value.ref p.1) := by simpa using hy
    rw [e]
    rcases S.par "e" (by simp) with q | q
    · exact .inl q
    · exact .inr ⟨q, PySem.W.cellsFrom_some _ _ _ (.inl q)⟩
  refine codeAny_call_function room.depth (kin _ _ look) rfl S.co S.gen rfl (PySem.W.codeRec_of kin code) (bind _ _ _ _ ?_)
  refine wpAny_newFunctionEnv_cells S.kind lk ?_
  intro env he s1 x
  subst he
  constructor
  · exact nol.keeps x.toInCall.keep
  apply codeAny_func
  obtain ⟨ks', hp⟩ := hb cdv A outer s H E p c (room.deeper _) hz hv
  obtain ⟨t, ht, hq⟩ := hp.ex
  have start := L2H.inv_startH (CX := L2.CX P w) (E := E) S pin e0 rfl (.cons (show RelV (.ref p.1) (.ref p.1) from rfl) .nil : Vals [V.ref p.1] [Value.ref p.1]) x
  have done : DoneF K mg E H H H ks' .new (g c p.1 (some (exD p.1) :: List.replicate (N.length - 1) none)) { nx := fun _ H' => Q .non H', rt := Q } := by
    rw [hg]
    intro F' v H' A' s1 s2 r
    obtain ⟨r, _⟩ := r
    cases r
    exact hQ H' (s1.trans s2)
  have run := ht.run [] s1 _ H _ start (hq H _ H _ _ (rel_word p.1) done)
  refine wpAny_mono run (fun fl s' hs => ?_) (fun _ _ z => z)
  match fl, hs with
  | .ret u, ⟨v, σ', H', J, rv, q⟩ => exact ⟨v, H', J.os, J.bare, J.base, J.hok, rv, q⟩
  | .next, ⟨σ', H', J, q⟩ => exact ⟨.non, H', J.os, J.bare, J.base, J.hok, rfl, q⟩
  | .brk, ⟨_, _, _, q⟩ => exact q.elim
  | .cont, ⟨_, _, _, q⟩ => exact q.elim
end
section
variable {X : Cx} {E : XK} {H0 : Hp} {ks ks' ks1 : List RM} {mr : RM} {Cs : EC → Addr} {CF : Addr} {k i : Nat}
/-- what the suite 'return word(e)' comes to -/
def tWord (i : Nat) (Cs : EC → Addr) (a : Addr) (cls : Value) (d : Option Addr) : TE := fun σ H Q => ∃ c, cls = .ref (Cs c) ∧ d = none ∧ σ[i]? = some (some (.ref a)) ∧ ∀ H', Same H H' → Q (.str (wordS c)) H'
/-- what a def knows of word -/
structure CalW (P : Program) (w : World) (K : PySem.W.Frag) (mg : Str → Option Value) (base : Heap) (x : Str) (k : Nat) (Cs : EC → Addr) : Prop where
  ex : ∃ (fn : Addr) (fd : FuncData), mg x = some (.ref fn) ∧ PySem.W.keepIn K (.ref fn) = true ∧ Binds K fd ["e"] [] ∧ WordOk P w K mg base k fn fd Cs
theorem pe_word {x n : Str} {a : Addr} {oe : Obj} {cls : Value} {d : Option Addr} {pn : List (Addr × Obj)} {p1 p2 p3 : Pos} (cw : CalW X.prog X.w X.K X.mg X.base x k Cs) (hr : Room k X.A) (hz : Zc cls d oe) (hv : ∃ vs, oe.data = .fields vs) (hi : X.N[i]? = some n) (hvis : Vis X.env.scope n) (hg : Gl X x)
    (hdb : (x == ("__debug__" : Str)) = false) (hd1 : (n == ("__debug__" : Str)) = false) (hd2 : (n == ("__classdict__" : Str)) = false) : PE (X.suite a ((a, oe) :: pn)) (.Call (.Name x p1) [.Name n p2] [] p3) (tWord i Cs a cls d) := by
  obtain ⟨fn, fd, h1, h2, h3, h4⟩ := cw.ex
  constructor
  intro pins s σ H Q I h
  obtain ⟨c, rfl, rfl, hσ, hq⟩ := h
  have args : PA (X.suite a ((a, oe) :: pn)) [.Name n p2] (tCons (tVar i) tNil) := pa_cons (pe_var hi hvis hd1 hd2) pa_nil
  refine wpAny_Call_Name_kw (ld_glob I hg h1 ?_ hdb)
  have ev := args.run p3 pins s σ H (fun vs H1 => vs = [V.ref a] ∧ H1 = H) I ⟨.ref a, hσ, rfl, rfl⟩
  refine PySem.W.callWith_K (h₀ := X.base) I.ok.mod.kin h2 (thn ev fun us s1 q => ?_)
  obtain ⟨vs, H1, I1, r, ev, eH⟩ := q
  subst ev eH
  cases r with
  | cons r1 r2 =>
    cases r2
    cases (show _ = Value.ref a from r1)
    refine ⟨I1.kIn, ?_⟩
    have mem : (a, oe) ∈ (X.suite a ((a, oe) :: pn)).pn := by simp
    obtain ⟨g1, g2, g3, g4, g5⟩ := I1.pin (a, oe) (List.mem_append_left _ mem)
    have pin : L2H.PinOk (X.suite a ((a, oe) :: pn)).stack H1 s1 (a, oe) := ⟨g1, g2, fun z => by
      rcases List.mem_cons.mp (I1.stkSub a z) with q | q
      · exact g3 q
      · exact g4 q, g5⟩
    have b := h3 s1 [.ref a] I1.kIn rfl
    have fin := h4.run _ _ s1 H1 ⟨[.ref a], []⟩ Q (fun _ _ _ => False) (a, oe) c (L2H.roomH_of hr |> fun r => ⟨r.dp, r.un⟩) pin I1.env0 b hz hv hq
    refine wpAny_call (codeAny_mono fin fun r s' hq => ?_)
    match r, hq with
    | .error e, ⟨_, _, _, _, _, _, _, _, _, _, _, _, z⟩ => exact z.elim
    | .ok (.ret u), hq => exact I1.after hq
    | .ok .next, hq => exact hq.elim
    | .ok .brk, hq => exact hq.elim
    | .ok .cont, hq => exact hq.elim
/-- a block at a def's entry -/
structure PDs0 (X : Cx) (E : XK) (H0 : Hp) (ks : List RM) (st : List Stmt) (f : DS) (ks' : List RM) (mr : RM) : Prop where
  ex : ∃ t, PSs X st t ∧ ∀ (σ : L2.St) (env : En) (D : Ends), Rel X.K H0 ks H0 σ H0 env → DoneF X.K X.mg E H0 H0 H0 ks' mr (f env) D → t D σ H0
/-- try: g except FolkError as e: return word(e), and then r -/
def sTryW (g r : DS) : DS := fun e => match g e with
  | .nx e' => r e'
  | .ex c => .rt (.str (wordS c))
  | o => o
/-- the wish of the try's body, whatever its slots are -/
def wAll (N : List Str) (W : WX) : XK := fun cls d H => ∀ σ : L2.St, σ.length = N.length → W cls d σ H
theorem takes_all {pn : List (Addr × Obj)} {xe : Value → Shared → Prop} {W : WX} (h : Takes (X.tr pn xe) W) : Passes (L2.CX X.prog X.w) (X.tr pn xe) (wAll X.N W) := fun pins σ H s e s' I c =>
  h e s' (XE.of_call I (fun cls d H' q => q σ I.len) c)
theorem pss_imp {st : List Stmt} {t t' : TS} (p : PSs X st t) (h : ∀ D σ H, t' D σ H → t D σ H) : PSs X st t' := ⟨fun pins s σ H D I q => p.run pins s σ H D I (h D σ H q)⟩
theorem pds0_try {x n wn : Str} {body rest : List Stmt} {g r : DS} {p1 p2 p3 p4 p5 p6 p7 : Pos} (cw : CalW X.prog X.w X.K X.mg X.base wn k Cs) (hr : Room k X.A) (ek : ExK X.K CF Cs) (eg : ∀ c : EC, X.mg c.nm = some (.ref (Cs c))) (hs : X.stack = X.env :: X.outer) (hf : X.env.frame = some X.env.locals)
    (tk : Takes X fun cls d _ H => E cls d H) (hmr : mr = .new ∨ mr = .any) (hgx : X.mg x = some (.ref CF))
    (hb : ∀ (pn : List (Addr × Obj)) (xe : Value → Shared → Prop) (E' : XK), Passes (L2.CX X.prog X.w) (X.tr pn xe) E' → PDs (X.tr pn xe) E' H0 ks body g ks1 mr) (hrest : PDs X E H0 ks1 rest r ks' mr)
    (hN : X.N.Nodup) (hi : X.N[i]? = some n) (hln : X.env.kindOf n = some .local) (hvis : Vis X.env.scope n) (hg : Gl X wn) (hx : Gl X x)
    (d1 : (wn == ("__debug__" : Str)) = false := by decide) (d2 : (n == ("__debug__" : Str)) = false := by decide) (d3 : (n == ("__classdict__" : Str)) = false := by decide) (d4 : (x == ("__debug__" : Str)) = false := by decide) :
    PDs0 X E H0 ks (.Try body [.ExceptHandler (some (.Name x p1)) (some n) [.Return (some (.Call (.Name wn p2) [.Name n p3] [] p4)) p5] p6] [] [] p7 :: rest) (sTryW g r) ks' mr := by
  obtain ⟨t', pr, qr⟩ := hrest.ex
  let tb : WX → TS := fun W D σ H => ∀ (pn : List (Addr × Obj)) (xe : Value → Shared → Prop) (h : Takes (X.tr pn xe) W), Classical.choose (hb pn xe (wAll X.N W) (takes_all h)).ex D σ H
  have hbody : ∀ (W : WX) (pn : List (Addr × Obj)) (xe : Value → Shared → Prop), Takes (X.tr pn xe) W → PassesOwn (model X.prog X.w) X.A X.env xe → PSs (X.tr pn xe) body (tb W) := fun W pn xe h _ =>
    pss_imp (Classical.choose_spec (hb pn xe (wAll X.N W) (takes_all h)).ex).1 fun D σ H q => q pn xe h
  have hsuite : ∀ (a : Addr) (oe : Obj) (cls : Value) (d : Option Addr) (pn : List (Addr × Obj)), Zc cls d oe → (∃ vs, oe.data = .fields vs) →
      PSs (X.suite a ((a, oe) :: pn)) [.Return (some (.Call (.Name wn p2) [.Name n p3] [] p4)) p5] (fun D σ H => tWord i Cs a cls d σ H D.rt) := fun a oe cls d pn hz hv =>
    pss_one (ps_ret (pe_word cw hr hz hv hi hvis hg d1 d2 d3))
  refine ⟨_, pss_cons (ps_try_as hs hf hN hi hln ⟨hx, d4, .inl hgx⟩ tk hbody hsuite) pr, fun σ env D R dn => ?_⟩
  intro pn xe h
  have spec := (Classical.choose_spec (hb pn xe (wAll X.N _) (takes_all h)).ex).2
  refine spec H0 σ H0 env { D with nx := t' D } R ?_
  have dn : DoneF X.K X.mg E H0 H0 H0 ks' mr (match g env with | .nx e' => r e' | .ex c => .rt (.str (wordS c)) | o => o) D := dn
  show DoneF X.K X.mg _ H0 H0 H0 ks1 mr (g env) _
  cases hge : g env with
  | nx env' =>
    rw [hge] at dn
    exact fun F' σ' H' s R' => qr F' σ' H' env' D R' (DoneF.mono s dn)
  | rt d => rw [hge] at dn; exact dn
  | no => rw [hge] at dn; exact dn.elim
  | ex c =>
    rw [hge] at dn
    have dn : ∀ F' v H' A, Same H0 F' → Same F' H' → ResOk X.K H0 F' H' mr v (.str (wordS c)) A → D.rt v H' := dn
    intro C hC H' s0 σ' hl
    have eC : C = Cs c := by
      have := (eg c).symm.trans hC
      injection this with this
      injection this with this
      exact this.symm
    subst eC
    refine ⟨true, ek.exm c, fun _ a ha => ⟨c, rfl, rfl, ?_, fun H2 s2 => ?_⟩, fun z => Bool.noConfusion z⟩
    · have hlt : i < σ'.length := by
        rw [hl]
        exact (List.getElem?_eq_some_iff.mp hi).1
      exact List.getElem?_set_self hlt
    · refine dn H0 (.str (wordS c)) H2 [] (Same.refl _) (s0.trans s2) ?_
      rcases hmr with z | z
      · subst z; exact ⟨.str _, rfl⟩
      · subst z; exact ⟨.inl (.str _), rfl⟩
section
variable {P : Program} {w : World} {K : PySem.W.Frag} {mg : Str → Option Value} {base : Heap}
theorem fn_pdTry {x qual : Str} {st : Stmt} {fn : Addr} {fd : FuncData} {N ps : List Str} {k n : Nat} {g : DS} (FF : Fun K x qual st fn fd) (S : FnScope N ps (defScope st)) (hn : ps.length = n)
    (hb : ∀ (cdv : Value) (A : Around) (outer : List Env) (s : Shared) (H : Hp) (E : XK), Room k (A.deeper (envOfC qual (defScope st) s.heap.objs.size fn cdv)) →
      ∃ ks', PDs0 (cxOf (L2.CX P w) P w K mg base N qual (defScope st) fn cdv A outer s H E) E H (start0 n N.length) (defBody st) g ks' mr) : FnOk P w K mg base (L2.CX P w) (k + 1) fn fd ps (Pr K mg n mr (runN N.length g)) := by
  refine FF.okX S (fun vs H Q E h => (Pr.len vs H Q E h).trans hn.symm) ?_
  intro cdv A outer s H vs Q E hr h
  obtain ⟨ds, hd, rfl, h⟩ := h
  obtain ⟨ks', hp⟩ := hb cdv A outer s H E hr
  obtain ⟨t, p, q⟩ := hp.ex
  refine ⟨t, p, q (L2.start N vs) _ _ (rel_start hd) ?_⟩
  unfold runN at h
  revert h
  cases g (ds.map some ++ List.replicate (N.length - ds.length) none) with
  | nx env' => exact fun h => h.elim
  | rt d => exact fun h F' v H' A a b r => h F' v H' A a b r
  | ex c => exact fun h => h
  | no => exact fun h => h
end
end
end Tf
namespace Tf
open PySem PySem.Spec PyProof.Rows L2
section
variable {X : Cx} {E : XK} {H0 : Hp} {ks ks' ks1 ks2 : List RM} {e a b c o ke ve : Expr} {f fa fb fc ft fi fk : DE} {m ma mb mc mr my mi mk : RM} {ta tb tc tk tv : TE} {F H : Hp} {σ : L2.St} {env : En} {Q : VK} {pos pos2 p2 apos apos2 ipos ipos2 lpos : Pos} {j : Nat}

/-! ### dicts of whole numbers -/
abbrev Ass := List (Int × Int)
def asGet (ns : Ass) (k : Int) : Option Int := (ns.find? fun p => decide (p.1 = k)).map (·.2)
def asPut (ns : Ass) (k v : Int) : Ass := if (asGet ns k).isSome then ns.map fun p => if p.1 = k then (p.1, v) else p else ns ++ [(k, v)]
def unK : List (D × D) → Option Ass
  | [] => some []
  | (.int k, .int v) :: r => (unK r).map ((k, v) :: ·)
  | _ :: _ => none
theorem unK_dkD (ns : Ass) : unK (dkD ns) = some ns := by
  induction ns with
  | nil => rfl
  | cons p ns ih =>
    show (unK (dkD ns)).map (p :: ·) = _
    rw [ih]; rfl
theorem dkK_val : ∀ (ns : Ass) (k : Int), valV (dkK ns) (Sum.inl k) = (asGet ns k).map V.int
  | [], _ => rfl
  | p :: ns, k => by
    have ih := dkK_val ns k
    unfold asGet at ih ⊢
    by_cases z : p.1 = k
    · rw [show dkK (p :: ns) = (Sum.inl p.1, V.int p.2) :: dkK ns from rfl, valV_pos (by rw [z]), List.find?_cons_of_pos (by simpa using z)]; rfl
    · rw [show dkK (p :: ns) = (Sum.inl p.1, V.int p.2) :: dkK ns from rfl, valV_neg (fun q => z (Sum.inl.inj q)), List.find?_cons_of_neg (by simpa using z)]
      exact ih
theorem dkK_put (ns : Ass) (k v : Int) : putK (dkK ns) (Sum.inl k) (V.int v) = dkK (asPut ns k v) := by
  unfold putK asPut
  rw [valV_any, dkK_val, Option.isSome_map]
  by_cases h : (asGet ns k).isSome = true
  · rw [if_pos h, if_pos h]
    unfold dkK
    rw [List.map_map, List.map_map]
    apply List.map_congr_left
    intro p _
    simp only [Function.comp]
    by_cases z : p.1 = k
    · rw [if_pos z, if_pos (by rw [z])]
    · rw [if_neg z, if_neg (fun q => z (Sum.inl.inj q))]
  · rw [if_neg h, if_neg h]
    unfold dkK
    rw [List.map_append]; rfl
theorem asGet_put (ns : Ass) (k v i : Int) : asGet (asPut ns k v) i = if i = k then some v else asGet ns i := by
  have app : ∀ ms : Ass, asGet (ms ++ [(k, v)]) i = (asGet ms i).orElse fun _ => if i = k then some v else none := fun ms => by
    unfold asGet
    rw [List.find?_append]
    cases ms.find? fun p => decide (p.1 = i) with
    | some p => rfl
    | none =>
      by_cases z : i = k
      · subst z; simp
      · have : ¬ k = i := fun q => z q.symm
        simp [z, this]
  have mp : ∀ ms : Ass, asGet (ms.map fun p => if p.1 = k then (p.1, v) else p) i = (asGet ms i).map fun x => if i = k then v else x := fun ms => by
    induction ms with
    | nil => rfl
    | cons p ms ih =>
      unfold asGet at ih ⊢
      rw [List.map_cons]
      by_cases z : p.1 = i
      · rw [List.find?_cons_of_pos (by
          by_cases q : p.1 = k
          · rw [if_pos q]; simpa using z
          · rw [if_neg q]; simpa using z), List.find?_cons_of_pos (by simpa using z)]
        by_cases q : p.1 = k
        · simp [q, show i = k from z.symm.trans q]
        · simp [q, show ¬ i = k from fun w => q (z.trans w)]
      · rw [List.find?_cons_of_neg (by
          by_cases q : p.1 = k
          · rw [if_pos q]; simpa using z
          · rw [if_neg q]; simpa using z), List.find?_cons_of_neg (by simpa using z)]
        exact ih
  unfold asPut
  by_cases h : (asGet ns k).isSome = true
  · rw [if_pos h, mp]
    by_cases z : i = k
    · subst z
      obtain ⟨x, hx⟩ := Option.isSome_iff_exists.mp h
      rw [hx, if_pos rfl]
      simp
    · rw [if_neg z]
      cases asGet ns i <;> simp [z]
  · rw [if_neg h, app]
    by_cases z : i = k
    · subst z
      have : asGet ns i = none := by simpa using h
      rw [this, if_pos rfl]; simp
    · rw [if_neg z]
      cases asGet ns i <;> simp [z]
/-- {} -/
def eD0 : DE := fun _ => .ok (.dict [])
theorem pd_dnew : PD X E H0 ks (.Dict [] [] pos) eD0 .dk := by
  refine ⟨_, pe_dnewK, fun F σ H env Q R h q hq => ?_⟩
  have h : Got X.K H0 F H .dk (.dict []) Q := h
  exact h F (.ref q) (upd H q (.dK [])) [q] (Ext.heap R.eF (same_upd hq)) (.inl ⟨q, [], rfl, rfl, upd_same, R.eF.free hq, rfl⟩) fun a ha => by
    have : a = q := by simpa using ha
    rw [this]; exact hq
/-- the dict of slot j -/
theorem Rel.dkAt {K : PySem.W.Frag} {l : List (D × D)} (R : Rel K H0 ks F σ H env) (hk : kAt ks j = .dk) (hx : env[j]? = some (some (.dict l))) :
    ∃ q ns, l = dkD ns ∧ σ[j]? = some (some (.ref q)) ∧ H q = some (.dK (dkK ns)) ∧ F q = none := by
  obtain ⟨As, g1, _, _⟩ := R.sl
  obtain ⟨v, hv, r⟩ := g1 j _ hx
  rw [hk] at r
  rcases r with ⟨q, ns, rfl, el, hq, fq, _⟩ | ⟨_, el, _⟩
  case inr => cases el
  injection el with el
  exact ⟨q, ns, el, hv, hq, fq⟩
/-- what is asked of the dict of slot j -/
def dkOf (od : Option (Option D)) : Option Ass := match od with
  | some (some (.dict l)) => unK l
  | _ => none
theorem dkOf_some {od : Option (Option D)} {ns : Ass} (h : dkOf od = some ns) : ∃ l, od = some (some (.dict l)) ∧ unK l = some ns := by
  unfold dkOf at h
  split at h
  · rename_i l; exact ⟨l, rfl, h⟩
  · cases h
def gDGet (ns : Ass) : D → Rs D
  | .int k => match asGet ns k with
    | some v => .ok (.int v)
    | none => .no
  | _ => .no
/-- d[k], d in slot j -/
def eDGet (j : Nat) (fk : DE) : DE := fun e => match dkOf e[j]? with
  | some ns => (fk e).bind (gDGet ns)
  | none => .no
theorem pd_dget (hu : X.A.units + 65 < cLine) (p : PE X o (tVar j)) (ha : PD X E H0 ks a fa ma) (hk : kAt ks j = .dk := by rfl) (hs : NoSl a := by exact fun _ _ => rfl) : PD X E H0 ks (.Subscript o a pos) (eDGet j fa) .new := by
  obtain ⟨ta, pa, qa⟩ := ha.ex
  refine ⟨_, pe_dget (by omega) p pa hs, fun F σ H env Q R h => ?_⟩
  have h : Done X.K X.mg E H0 F H .new (match dkOf env[j]? with | some ns => (fa env).bind (gDGet ns) | none => .no) Q := h
  cases hns : dkOf env[j]? with
  | none => rw [hns] at h; exact h.elim
  | some ns =>
    rw [hns] at h
    obtain ⟨l, hx, hl⟩ := dkOf_some hns
    obtain ⟨q, ns', el, hv, hq, _⟩ := R.dkAt hk hx
    rw [el, unK_dkD] at hl
    cases hl
    refine ⟨.ref q, hv, ?_⟩
    refine seq1 qa R (g := gDGet ns) h fun dx F1 y H1 A1 _ e1 r1 _ R1 h1 => ?_
    cases dx with
    | int k =>
      have h1 : Done X.K X.mg E H0 F1 H1 .new (match asGet ns k with | some v => .ok (.int v) | none => .no) Q := h1
      cases hg : asGet ns k with
      | none => rw [hg] at h1; exact h1.elim
      | some v =>
        rw [hg] at h1
        have ey := dt_int (r1.dt R1.eF)
        subst ey
        have g : DGet H1 q (V.int k) (valV (dkK ns) (Sum.inl k)) := DGet.k (k := Sum.inl k) (e1.hh _ _ hq)
        rw [dkK_val, hg] at g
        exact ⟨q, .int v, rfl, g, Got.flat h1 R1.eF fun _ => .int _⟩
    | _ => exact h1.elim
/-- k not in d -/
def gDNiK (ns : Ass) : D → Rs D
  | .int k => .ok (.bool (!(asGet ns k).isSome))
  | _ => .no
def eDNiK (fa : DE) (j : Nat) : DE := fun e => (fa e).bind fun x => match dkOf e[j]? with
  | some ns => gDNiK ns x
  | none => .no
theorem pdt_dniK (hu : X.A.units + 65 < cLine) (ha : PD X E H0 ks a fa ma) (p : PE X o (tVar j)) (hk : kAt ks j = .dk := by rfl) (hm : behindInMarks .NotIn o = false := by first | exact nomark _ | rfl) : PDT X E H0 ks (.Compare a [.NotIn] [o] pos) (eDNiK fa j) := by
  obtain ⟨ta, pa, qa⟩ := ha.ex
  refine ⟨_, pt_cmp (pc_dnotin (by omega) pa p) hm, rdgT_B (m := .new) fun F σ H env Q R h => ?_⟩
  show ta σ H fun y H1 => tVar j σ H1 fun x H2 => ∃ a o, x = .ref a ∧ DGet H2 a y o ∧ Q (.bl (!o.isSome)) H2
  refine seq1 qa R (g := fun x => match dkOf env[j]? with | some ns => gDNiK ns x | none => .no) h fun dx F1 y H1 A1 _ e1 r1 _ R1 h1 => ?_
  have h1 : Done X.K X.mg E H0 F1 H1 .new (match dkOf env[j]? with | some ns => gDNiK ns dx | none => .no) Q := h1
  cases hns : dkOf env[j]? with
  | none => rw [hns] at h1; exact h1.elim
  | some ns =>
    rw [hns] at h1
    have h1 : Done X.K X.mg E H0 F1 H1 .new (gDNiK ns dx) Q := h1
    obtain ⟨l, hx, hl⟩ := dkOf_some hns
    obtain ⟨q, ns', el, hv, hq, _⟩ := R1.dkAt hk hx
    rw [el, unK_dkD] at hl
    cases hl
    cases dx with
    | int k =>
      have ey := dt_int (r1.dt R1.eF)
      subst ey
      have g : DGet H1 q (V.int k) (valV (dkK ns) (Sum.inl k)) := DGet.k (k := Sum.inl k) hq
      rw [dkK_val] at g
      refine ⟨.ref q, hv, q, _, rfl, g, ?_⟩
      rw [Option.isSome_map]
      exact Got.flat h1 R1.eF fun _ => .bl _
    | _ => exact h1.elim
/-- d[k] = v -/
def gPutK (ns : Ass) : D → D → Option D
  | .int k, .int v => if lim ns.length then some (.dict (dkD (asPut ns k v))) else none
  | _, _ => none
def hPutK (e : En) (j : Nat) : Option D → Fl
  | some d => .nx (e.set j (some d))
  | none => .no
def sDPutK (j : Nat) (fk fv : DE) : DS := fun e => match dkOf e[j]? with
  | some ns => (fv e).fl fun y => (fk e).fl fun x => hPutK e j (gPutK ns x y)
  | none => .no
theorem pd1_dputK {fv : DE} {mv : RM} (hu : X.A.units + 65 < cLine) (p : PE X o (tVar j)) (ha : PD X E H0 ks ke fk mk) (hv : PD X E H0 ks ve fv mv) (hk : kAt ks j = .dk := by rfl) (nb : noB ks = true := by decide)
    (hs : swapsWith ve (some (.Subscript o ke pos2)) pos.line X.env = pure false := by rfl) : PD1 X E H0 ks (.Assign [.Subscript o ke pos2] ve pos) (sDPutK j fk fv) ks mr := by
  obtain ⟨tk, pk, qk⟩ := ha.ex
  obtain ⟨tv, pv, qv⟩ := hv.ex
  refine ⟨_, ps_dput (by omega) p pk pv hs, fun F σ H env D R d => ?_⟩
  have d : DoneF X.K X.mg E H0 F H ks mr (match dkOf env[j]? with | some ns => (fv env).fl fun y => (fk env).fl fun x => hPutK env j (gPutK ns x y) | none => .no) D := d
  cases hns : dkOf env[j]? with
  | none => rw [hns] at d; exact d.elim
  | some ns =>
    rw [hns] at d
    obtain ⟨l, hx, hl⟩ := dkOf_some hns
    obtain ⟨q, ns', el, hw, hq, _⟩ := R.dkAt hk hx
    rw [el, unK_dkD] at hl
    cases hl
    show tv σ H fun v H1 => tVar j σ H1 fun x H2 => tk σ H2 fun y H3 => ∃ a H4, x = .ref a ∧ DPut H3 a y v H4 ∧ D.nx σ H4
    refine seqF qv R d fun dv F1 v H1 A1 _ e1 r1 _ R1 d1 => ?_
    refine ⟨.ref q, hw, ?_⟩
    refine seqF qk R1 d1 fun dk F2 y H2 A2 _ e2 r2 _ R2 d2 => ?_
    have d2 : DoneF X.K X.mg E H0 F2 H2 ks mr (hPutK env j (gPutK ns dk dv)) D := d2
    have dvv := (r1.mono e2).dt R2.eF
    have dkk := r2.dt R2.eF
    cases hp : gPutK ns dk dv with
    | none => rw [hp] at d2; exact d2.elim
    | some dd =>
      rw [hp] at d2
      have key : ∃ k1 v1 : Int, dk = .int k1 ∧ dv = .int v1 ∧ lim ns.length = true ∧ dd = .dict (dkD (asPut ns k1 v1)) := by
        cases dk with
        | int k1 =>
          cases dv with
          | int v1 =>
            have hp : (if lim ns.length = true then some (PyData.dict (dkD (asPut ns k1 v1))) else none) = some dd := hp
            by_cases z : lim ns.length = true
            · rw [if_pos z] at hp
              exact ⟨k1, v1, rfl, rfl, z, (Option.some.inj hp).symm⟩
            · rw [if_neg z] at hp; cases hp
          | _ => cases hp
        | _ => cases dv <;> cases hp
      obtain ⟨k, v', rfl, rfl, z, rfl⟩ := key
      have ey := dt_int dkk
      have ev := dt_int dvv
      subst ey ev
      obtain ⟨As, k1, k2, k3⟩ := R2.sl
      obtain ⟨w2, hw2, rw2⟩ := k1 j _ hx
      rw [hw] at hw2
      cases hw2
      rw [hk] at rw2
      rcases rw2 with ⟨q2, ns2, eq2, el2, hq2, fq2, hA⟩ | ⟨_, el2, _⟩
      case inr => cases el2
      cases eq2
      have ens : ns2 = ns := by
        injection el2 with el2
        rw [el] at el2
        have h1 := unK_dkD ns
        rw [el2, unK_dkD] at h1
        exact Option.some.inj h1
      subst ens
      have hj : j < env.length := (List.getElem?_eq_some_iff.mp hx).1
      refine ⟨q, _, rfl, DPut.k (k := Sum.inl k) hq2 (by unfold dkK; rw [List.length_map]; exact lim_lt z), ?_⟩
      rw [dkK_put]
      refine d2 F2 σ _ (Same.refl _) (R2.changed nb k1 k2 k3 (by rw [hA]; simp) hw hj (A' := [q]) ?_ fun a ha => .inl (by rw [hA]; exact ha))
      rw [hk]
      exact .inl ⟨q, _, rfl, rfl, upd_same, fq2, rfl⟩
/-! ### x[i] = v, x a list of the def's own -/
def gSetL (e : En) (j : Nat) (v i : D) : Fl := match e[j]? with
  | some (some (.list xs)) => (oSetL xs i v).fl fun ys => .nx (e.set j (some (.list ys)))
  | _ => .no
def sSetL (j : Nat) (fi fv : DE) : DS := sIf0 j fun e => (fv e).fl fun v => (fi e).fl fun i => gSetL e j v i
theorem pd1_setL {fv : DE} (p : PE X o (tVar j)) (ha : PD X E H0 ks ke fi mi) (hv : PD X E H0 ks ve fv .new) (hk : kAt ks j = .o1 := by rfl) (nb : noB ks = true := by decide)
    (hsub : ∀ v, assign (.Subscript o ke pos2) X.env v = (do let ov ← holding [v] (eval o X.env); let iv ← holding [v, ov] (eval ke X.env); standAt pos2; holding [v, ov, iv] (setItem ov iv v); release [v, ov, iv] []) := by intro _; rfl)
    (hs : swapsWith ve (some (.Subscript o ke pos2)) pos.line X.env = pure false := by rfl) : PD1 X E H0 ks (.Assign [.Subscript o ke pos2] ve pos) (sSetL j fi fv) ks mr := by
  obtain ⟨ti, pi, qi⟩ := ha.ex
  obtain ⟨tv, pv, qv⟩ := hv.ex
  refine ⟨_, ps_asg pv (pg_sub p pi set_list hsub) hs, fun F σ H env D R d => ?_⟩
  obtain ⟨⟨xs, hx⟩, d⟩ := ite_done d
  have d : DoneF X.K X.mg E H0 F H ks mr ((fv env).fl fun v => (fi env).fl fun i => gSetL env j v i) D := d
  refine seqF qv R d fun dv F1 v H1 A1 _ e1 r1 _ R1 d1 => ?_
  obtain ⟨p1, xs1, hw, hp1, _, _⟩ := R1.o1 nb hk hx
  refine ⟨.ref p1, hw, ?_⟩
  refine seqF qi R1 d1 fun di F2 i H2 A2 _ e2 r2 _ R2 d2 => ?_
  have d2 : DoneF X.K X.mg E H0 F2 H2 ks mr (match env[j]? with | some (some (.list xs)) => (oSetL xs di dv).fl fun ys => .nx (env.set j (some (.list ys))) | _ => .no) D := d2
  rw [hx] at d2
  have d2 : DoneF X.K X.mg E H0 F2 H2 ks mr ((oSetL xs di dv).fl fun ys => .nx (env.set j (some (.list ys)))) D := d2
  obtain ⟨p2, xs2, hw2, hp2, al, ch⟩ := R2.o1 nb hk hx
  rw [hw] at hw2
  cases hw2
  cases di with
  | int n =>
    have d2 : DoneF X.K X.mg E H0 F2 H2 ks mr ((match ixN xs.length n with | some n => Rs.ok (xs.set n dv) | none => .no).fl fun ys => .nx (env.set j (some (.list ys)))) D := d2
    cases hn : ixN xs.length n with
    | none => rw [hn] at d2; exact d2.elim
    | some k =>
      rw [hn] at d2
      have ei := dt_int (r2.dt R2.eF)
      subst ei
      have al' : DpAll N0 (nw H0 F2) (xs2.set k v) (xs.set k dv) := dpa_set (dp_mono (nw_mono e2.ff) r1.1) k al
      exact ⟨p1, xs2, n, k, rfl, rfl, hp2, by rw [dpa_len al]; exact hn, d2 F2 σ _ (Same.refl _) (ch _ _ al')⟩
  | _ => exact d2.elim
end
end Tf
namespace Tf
open PySem PySem.Spec PyProof.Rows L2
theorem un64h {k : Nat} {A : Around} (h : L2H.RoomH k A) : A.units + 64 < cLine := by have := h.un; omega
theorem un65h {k : Nat} {A : Around} (h : L2H.RoomH k A) : A.units + 65 < cLine := by have := h.un; omega
theorem pd_lstS {X : Cx} {E : XK} {H0 : Hp} {ks : List RM} {es : List Expr} {fs : List DE} {pos : Pos} (h : PDL X E H0 ks es fs .new) (hz : fs.length ≤ 1000 := by simp) : PD X E H0 ks (.List es pos) (eLst fs) .o1 := pd_lst h hz
/-- the law's own def _law_word_of, at an exception of the class c -/
def b_word (c : EC) (a : Addr) : DS := sSeq (sAsg (gN 1) (eLst [eIsE a (decide (c = .NoTable)) (eV 0), eIsE a (decide (c = .NoFolk)) (eV 0), eIsE a (decide (c = .NoElement)) (eV 0)]))
  (sSeq (sAsg (gN 1) (e2 oCat (eV 1) (eLst [eIsE a (decide (c = .NoPart)) (eV 0), eIsE a (decide (c = .NotLoose)) (eV 0), eIsE a (decide (c = .TooLarge)) (eV 0)])))
  (sSeq (sAsg (gN 1) (e2 oCat (eV 1) (eLst [eIsE a (decide (c = .NoNote)) (eV 0)])))
  (sSeq (sIf (eOr (e2 oNe (eCountB (eV 1) (eK (.bool true))) (eK (.int 1))) (e1 oNot (eIsE a true (eV 0)))) (sRet (eK (.str "other"))) sSkip)
  (sRet (e2 oIx (eLst [eK (.str "table"), eK (.str "folk"), eK (.str "element"), eK (.str "part"), eK (.str "loose"), eK (.str "large"), eK (.str "note")]) (eIndex (eV 1) (eK (.bool true))))))))
theorem gIsE_at (a : Addr) (k : Bool) : gIsE a k (exD a) = .ok (.bool k) := by
  show (if ((a : Nat) : Int) = ((a : Nat) : Int) then Rs.ok (PyData.bool k) else .no) = _
  rw [if_pos rfl]
theorem eIsE_at (a : Addr) (k : Bool) (e : En) : eIsE a k (eV 0) (some (exD a) :: e) = .ok (.bool k) := by
  show gIsE a k (exD a) = _
  exact gIsE_at a k
theorem b_word_ok (c : EC) (a : Addr) : b_word c a [some (exD a), none] = .rt (.str (wordS c)) := by
  have l1 : ∀ (k1 k2 k3 : Bool) (x : Option D), eLst [eIsE a k1 (eV 0), eIsE a k2 (eV 0), eIsE a k3 (eV 0)] [some (exD a), x] = .ok (.list [.bool k1, .bool k2, .bool k3]) := fun k1 k2 k3 x => by
    unfold eLst eL eL eL eL
    simp only [eIsE_at]; rfl
  have l2 : ∀ (k1 : Bool) (x : Option D), eLst [eIsE a k1 (eV 0)] [some (exD a), x] = .ok (.list [.bool k1]) := fun k1 x => by
    unfold eLst eL eL
    simp only [eIsE_at]; rfl
  have s1 : ∀ (k1 k2 k3 : Bool), sAsg (gN 1) (eLst [eIsE a k1 (eV 0), eIsE a k2 (eV 0), eIsE a k3 (eV 0)]) [some (exD a), none] = .nx [some (exD a), some (.list [.bool k1, .bool k2, .bool k3])] := fun k1 k2 k3 => by
    unfold sAsg
    rw [l1]; rfl
  have s2 : ∀ (k1 k2 k3 : Bool) (xs : List D), xs.length ≤ 10 → sAsg (gN 1) (e2 oCat (eV 1) (eLst [eIsE a k1 (eV 0), eIsE a k2 (eV 0), eIsE a k3 (eV 0)])) [some (exD a), some (.list xs)] = .nx [some (exD a), some (.list (xs ++ [.bool k1, .bool k2, .bool k3]))] := fun k1 k2 k3 xs hx => by
    unfold sAsg e2
    rw [l1]
    show ((if lim (xs.length + 3) then Rs.ok (PyData.list (xs ++ [.bool k1, .bool k2, .bool k3])) else .no).fl _) = _
    rw [if_pos (show lim (xs.length + 3) = true from decide_eq_true (by omega))]; rfl
  have s3 : ∀ (k1 : Bool) (xs : List D), xs.length ≤ 10 → sAsg (gN 1) (e2 oCat (eV 1) (eLst [eIsE a k1 (eV 0)])) [some (exD a), some (.list xs)] = .nx [some (exD a), some (.list (xs ++ [.bool k1]))] := fun k1 xs hx => by
    unfold sAsg e2
    rw [l2]
    show ((if lim (xs.length + 1) then Rs.ok (PyData.list (xs ++ [.bool k1])) else .no).fl _) = _
    rw [if_pos (show lim (xs.length + 1) = true from decide_eq_true (by omega))]; rfl
  have s4 : ∀ (xs : List D), eCountB (eV 1) (eK (.bool true)) [some (exD a), some (.list xs)] = .ok (.int 1) → sIf (eOr (e2 oNe (eCountB (eV 1) (eK (.bool true))) (eK (.int 1))) (e1 oNot (eIsE a true (eV 0)))) (sRet (eK (.str "other"))) sSkip [some (exD a), some (.list xs)] = .nx [some (exD a), some (.list xs)] := fun xs h => by
    have t : eOr (e2 oNe (eCountB (eV 1) (eK (.bool true))) (eK (.int 1))) (e1 oNot (eIsE a true (eV 0))) [some (exD a), some (.list xs)] = .ok (.bool false) := by
      have h1 : e2 oNe (eCountB (eV 1) (eK (.bool true))) (eK (.int 1)) [some (exD a), some (.list xs)] = .ok (.bool false) := by
        unfold e2
        rw [h]; rfl
      have h2 : e1 oNot (eIsE a true (eV 0)) [some (exD a), some (.list xs)] = .ok (.bool false) := by
        unfold e1
        rw [eIsE_at]; rfl
      unfold eOr
      rw [h1]
      exact h2
    unfold sIf
    rw [t]; rfl
  have sq : ∀ {s t : DS} {e e' : En}, s e = .nx e' → sSeq s t e = t e' := fun h => by unfold sSeq; rw [h]
  unfold b_word
  cases c <;> exact (sq (s1 _ _ _)).trans ((sq (s2 _ _ _ _ (by decide))).trans ((sq (s3 _ _ (by decide))).trans ((sq (s4 _ rfl)).trans rfl)))
end Tf
namespace Tf
open PySem PySem.Spec PyProof.Rows L2
section
variable {X : Cx} {E : XK} {H0 : Hp} {ks ks' ks1 ks2 : List RM} {e a b c o tg : Expr} {f fa fb fc ft fi fk : DE} {g : DG} {m ma mb mc mr my mi mk : RM} {ta tb tc tk tv : TE} {F H : Hp} {σ : L2.St} {env : En} {Q : VK} {pos pos2 p2 apos apos2 ipos ipos2 lpos p : Pos} {j i : Nat} {js : List Nat}

/-! ### dict(d), list(d), len(d), list(d.values()), len(set(xs)) -/
theorem pd_nonK {k pos} : PD X E H0 ks (.Constant .none k pos) (eK .none) .dk := by
  refine ⟨_, pe_non, fun F σ H env Q R h => ?_⟩
  have h : Got X.K H0 F H .dk .none Q := h
  exact h F .non H [] (Ext.refl R.eF) (.inr ⟨rfl, rfl, rfl⟩) fun a ha => nomatch ha
/-- a dict of whole numbers, by its datum -/
theorem unK_eq : ∀ {l : List (D × D)} {ns : Ass}, unK l = some ns → l = dkD ns
  | [], ns, h => by cases h; rfl
  | (.int k, .int v) :: r, ns, h => by
    have h : (unK r).map ((k, v) :: ·) = some ns := h
    cases q : unK r with
    | none => rw [q] at h; cases h
    | some ms =>
      rw [q] at h
      cases h
      rw [unK_eq q]; rfl
  | (.int _, .none) :: _, _, h => nomatch h
  | (.int _, .bool _) :: _, _, h => nomatch h
  | (.int _, .str _) :: _, _, h => nomatch h
  | (.int _, .list _) :: _, _, h => nomatch h
  | (.int _, .tuple _) :: _, _, h => nomatch h
  | (.int _, .dict _) :: _, _, h => nomatch h
  | (.none, _) :: _, _, h => nomatch h
  | (.bool _, _) :: _, _, h => nomatch h
  | (.str _, _) :: _, _, h => nomatch h
  | (.list _, _) :: _, _, h => nomatch h
  | (.tuple _, _) :: _, _, h => nomatch h
  | (.dict _, _) :: _, _, h => nomatch h
theorem dkD_inj {ns ms : Ass} (h : dkD ns = dkD ms) : ns = ms := by
  have h1 := unK_dkD ns
  rw [h, unK_dkD] at h1
  exact (Option.some.inj h1).symm
theorem dt_dk {K : PySem.W.Frag} {v : V} {l : List (D × D)} {ns : Ass} (h : Dt K H v (.dict l)) (hl : unK l = some ns) : ∃ q, v = .ref q ∧ H q = some (.dK (dkK ns)) := by
  have el := unK_eq hl
  subst el
  rcases h with h | ⟨q, ms, rfl, e, hq⟩ | ⟨q, kk, _, e, _⟩ | ⟨q, _, e⟩
  · cases h
  · injection e with e
    rw [dkD_inj e]
    exact ⟨q, rfl, hq⟩
  · injection e with e
    cases ns with
    | nil => cases e
    | cons x r => injection e with e; injection e with e _; cases e
  · injection e with e
    cases ns with
    | nil => cases e
    | cons x r => injection e with e; injection e with _ e; cases e
def asAss : D → Option Ass
  | .dict l => unK l
  | _ => none
theorem asAss_some {d : D} {ns : Ass} (h : asAss d = some ns) : ∃ l, d = .dict l ∧ unK l = some ns := by
  unfold asAss at h
  split at h
  · exact ⟨_, rfl, h⟩
  · cases h
def oDictC (d : D) : Rs D := match asAss d with
  | some ns => .ok (.dict (dkD ns))
  | none => .no
theorem cd_dictC : CallD X (.type "dict") oDictC .dk := by
  refine ⟨_, call_dictD, fun E H0 F H x dx Q h0 h1 hx h => ?_⟩
  have h : Done X.K X.mg E H0 F H .dk (match asAss dx with | some ns => .ok (.dict (dkD ns)) | none => .no) Q := h
  cases hn : asAss dx with
  | none => rw [hn] at h; exact h.elim
  | some ns =>
    rw [hn] at h
    have h5 : Got X.K H0 F H .dk (.dict (dkD ns)) Q := h
    obtain ⟨l, rfl, hl⟩ := asAss_some hn
    obtain ⟨q, rfl, hq⟩ := dt_dk hx hl
    exact ⟨q, dkK ns, rfl, .inl hq, fun r hr => h5 F (.ref r) (upd H r (.dK (dkK ns))) [r] (Ext.heap h1 (same_upd hr)) (.inl ⟨r, ns, rfl, rfl, upd_same, h1.free hr, rfl⟩) fun a ha => by
      have : a = r := by simpa using ha
      rw [this]; exact hr⟩
def oKeysK (d : D) : Rs D := match asAss d with
  | some ns => .ok (.list (ns.map fun p => .int p.1))
  | none => .no
theorem dpa_intsF {K : PySem.W.Frag} {H : Hp} {α : Type} (f : α → Int) : ∀ xs : List α, DpAll K H (xs.map fun x => V.int (f x)) (xs.map fun x => .int (f x))
  | [] => .nil
  | x :: xs => .cons (.int _) (dpa_intsF f xs)
theorem cd_keysK (hc : X.calm = true) : CallD X (.type "list") oKeysK .o1 := by
  refine ⟨_, call_listD hc, fun E H0 F H x dx Q h0 h1 hx h => ?_⟩
  have h : Done X.K X.mg E H0 F H .o1 (match asAss dx with | some ns => .ok (.list (ns.map fun p => .int p.1)) | none => .no) Q := h
  cases hn : asAss dx with
  | none => rw [hn] at h; exact h.elim
  | some ns =>
    rw [hn] at h
    have h5 : Got X.K H0 F H .o1 (.list (ns.map fun p => .int p.1)) Q := h
    obtain ⟨l, rfl, hl⟩ := asAss_some hn
    obtain ⟨q, rfl, hq⟩ := dt_dk hx hl
    refine ⟨q, dkK ns, rfl, .inl hq, fun r hr => ?_⟩
    have e : ((dkK ns).map fun kv => kV kv.1) = ns.map fun p => V.int p.1 := by
      unfold dkK
      rw [List.map_map]; rfl
    rw [e]
    exact Got.lst h5 h1 hr (dpa_intsF _ ns)
def oLenK (d : D) : Rs D := match asAss d with
  | some ns => .ok (.int ns.length)
  | none => .no
theorem cd_lenK : CallD X (.builtin "len") oLenK .new := by
  refine ⟨_, call_lenD, fun E H0 F H x dx Q h0 h1 hx h => ?_⟩
  have h : Done X.K X.mg E H0 F H .new (match asAss dx with | some ns => .ok (.int ns.length) | none => .no) Q := h
  cases hn : asAss dx with
  | none => rw [hn] at h; exact h.elim
  | some ns =>
    rw [hn] at h
    have h5 : Got X.K H0 F H .new (.int ns.length) Q := h
    obtain ⟨l, rfl, hl⟩ := asAss_some hn
    obtain ⟨q, rfl, hq⟩ := dt_dk hx hl
    refine ⟨q, dkK ns, rfl, hq, ?_⟩
    have e : (dkK ns).length = ns.length := by unfold dkK; rw [List.length_map]
    rw [e]
    exact Got.flat h5 h1 fun _ => .int _
/-- list(d.values()) -/
def tListVals (td : TE) : TE := fun σ H Q => td σ H fun x H1 => ∃ q kvs, x = V.ref q ∧ H1 q = some (.dK kvs) ∧ ∀ r, H1 r = none → Q (.ref r) (upd H1 r (.lst (kvs.map (·.2))))
theorem kv_vals {kvs : List (Key × V)} {vs : List (Key × Value)} (r : KV kvs vs) : ∀ {us : List Value}, us.length = vs.length → (∀ (i : Nat) (v : Value), us[i]? = some v → ∃ k, vs[i]? = some (k, v)) → Vals (kvs.map (·.2)) us := by
  unfold KV at r
  induction r with
  | nil =>
    intro us hl _
    cases us with
    | nil => exact .nil
    | cons u us => simp at hl
  | @cons x y xs ys r1 t ih =>
    intro us hl h
    cases us with
    | nil => simp at hl
    | cons u us =>
      obtain ⟨k, hk⟩ := h 0 u rfl
      have e := Option.some.inj (show some _ = some (k, u) from hk)
      refine .cons ?_ (ih (by simpa using hl) fun i v hv => ?_)
      · have := r1.2
        rw [e] at this
        exact this
      · obtain ⟨k', hk'⟩ := h (i + 1) v (by simpa using hv)
        exact ⟨k', by simpa using hk'⟩
theorem pe_listVals {td : TE} {cpos : Pos} (hc : X.calm = true) (hg : Gl X "list") (hm : X.mg "list" = none) (hd : PE X o td) (hbase : attributeBase o "values" X.env (eval o X.env) = eval o X.env := by rfl) (hline : (apos.endLine == cpos.line) = true := by rfl)
    (hse : starEach [Expr.Call (.Attribute o "values" apos) [] [] cpos] X.env = [(false, eval (Expr.Call (.Attribute o "values" apos) [] [] cpos) X.env)] := by rfl) :
    PE X (.Call (.Name "list" p) [.Call (.Attribute o "values" apos) [] [] cpos] [] pos) (tListVals td) := by
  constructor
  intro pins s σ H Q I h
  refine wpAny_Call_Name_kw (ld_blt I hg hm boot_list ?_ (by decide) (by decide))
  rw [hse]
  refine PySem.callWith_type1 (wpAny_Call_method0_late hbase hline (thn (hd.run pins s σ H _ I h) fun v s1 q1 => ?_))
  obtain ⟨x, H1, I1, r1, q, kvs, rfl, hq, fin⟩ := q1
  cases (show v = Value.ref q from r1)
  obtain ⟨hz, hsys, vs, rel, dof⟩ := dk_of I1.hok hq
  obtain ⟨ep, dat⟩ := dof.dictAt
  obtain ⟨ob, es, ho, ex, _⟩ := id dat
  refine ⟨"dict", "dict.values", F.plainAttrs_dict, F.slot_dict_values, F.type_dict_values, ⟨ob, ho, ex.1⟩, fun b e => by cases e; exact ⟨ob, ho, ex.2.1⟩, Calls.callWith_builtin rfl (PySem.evalArgs_none ?_)⟩
  refine call_meetsIn F.slot_dict_values ⟨ob, ho, ex.1⟩ F.entry_dict_values (F.args_dict_values_1 _) (meets_dict_values (mixKind X.prog X.w) q hsys) ⟨⟨vs, dof⟩, ?_⟩
  have grow : ∀ b u, s1.heap.get? b = some u → (s1.heap.push { cls := .type "dict_values", data := .fields #[.ref q] }).get? b = some u := fun b u e => Heap.get?_push_of_some _ e
  have I2 : Inv X pins σ H1 { s1 with heap := s1.heap.push { cls := .type "dict_values", data := .fields #[.ref q] } } := I1.kept (t' := s1.toks) grow
  refine PySem.W.kdl_call (PySem.W.kdl_values (knd := mixKind X.prog X.w) (kvs := vs) (ep := ep)) (I.ok.hd hc) ⟨⟨_, Heap.get?_push_size _ rfl, rfl, rfl⟩, dat.keep grow⟩ (by rw [← rel.length]; exact hz) fun h' tk acc c' hk hD hacc => ?_
  have hl : acc.toList.length = vs.length := by rw [Array.length_toList]; exact hacc.1
  have hv : Vals (kvs.map (·.2)) acc.toList := kv_vals rel hl fun i v e => hacc.2 i v (by rw [← Array.getElem?_toList]; exact e)
  refine ⟨.ref _, upd H1 _ (.lst (kvs.map (·.2))), I2.laid (t' := tk) hk (Nat.le_refl _) ?_, rfl, fin _ (I2.hok.fresh (Nat.le_refl _))⟩
  exact (show ObjOk X.prog X.w _ _ _ (.lst (kvs.map (·.2))) from ⟨by rw [List.length_map]; exact hz, acc.toList, c', hv, by rw [Array.toArray_toList]; exact hD⟩)
/-- list(d.values()), d in slot j -/
def eListVals (j : Nat) : DE := fun e => match dkOf e[j]? with
  | some ns => .ok (.list (ns.map fun p => .int p.2))
  | none => .no
theorem pd_listVals {cpos : Pos} (hc : X.calm = true) (q : PE X o (tVar j)) (hm : X.mg "list" = none) (hk : kAt ks j = .dk := by rfl) (hg : Gl X "list" := by rfl) (hbase : attributeBase o "values" X.env (eval o X.env) = eval o X.env := by rfl) (hline : (apos.endLine == cpos.line) = true := by rfl)
    (hse : starEach [Expr.Call (.Attribute o "values" apos) [] [] cpos] X.env = [(false, eval (Expr.Call (.Attribute o "values" apos) [] [] cpos) X.env)] := by rfl) :
    PD X E H0 ks (.Call (.Name "list" p) [.Call (.Attribute o "values" apos) [] [] cpos] [] pos) (eListVals j) .o1 := by
  refine ⟨_, pe_listVals hc hg hm q hbase hline hse, fun F σ H env Q R h => ?_⟩
  have h : Done X.K X.mg E H0 F H .o1 (match dkOf env[j]? with | some ns => .ok (.list (ns.map fun p => .int p.2)) | none => .no) Q := h
  cases hns : dkOf env[j]? with
  | none => rw [hns] at h; exact h.elim
  | some ns =>
    rw [hns] at h
    obtain ⟨l, hx, hl⟩ := dkOf_some hns
    obtain ⟨r, ns', el, hv, hq, _⟩ := R.dkAt hk hx
    rw [el, unK_dkD] at hl
    cases hl
    refine ⟨.ref r, hv, r, dkK ns, rfl, hq, fun t ht => ?_⟩
    have e : (dkK ns).map (·.2) = ns.map fun p => V.int p.2 := by
      unfold dkK
      rw [List.map_map]; rfl
    rw [e]
    exact Got.lst h R.eF ht (dpa_intsF _ ns)
/-- len(set(xs)) -/
def rLenSet (w : World) : List V → Hp → VK → Prop := fun vs H Q => ∃ (q : Addr) (S : Int → Bool) (n : Nat), vs = [.ref q] ∧ H q = some (SetO w q S n) ∧ n ≤ 1000 ∧ Q (.int n) H
theorem cr_lenSet : CallR X (.builtin "len") (rLenSet X.w) := by
  intro pins s σ H vs us Q I r h
  obtain ⟨q, S, n, rfl, hq, hn, hQ⟩ := h
  rw [Vals.ref1 r]
  obtain ⟨st, _, _⟩ := I.hok q _ hq
  obtain ⟨ob, es, ep, t, ho, hex, hd, _, _, _, _, hf, hs, _⟩ := st
  refine call_len_set ho hex hd hf (by rw [hs]; omega) ⟨.int n, H, I.tok _, ⟨_, by rw [hs]⟩, hQ⟩
def oLenSet : D → Rs D
  | .list ds => match asInts ds with
    | some ns => if decide (ns.length ≤ 1000) then .ok (.int (sset ns).length) else .no
    | none => .no
  | _ => .no
theorem pd_lenSet {q2 : Pos} (hc : X.calm = true) (ha : PD X E H0 ks a fa ma) (hm : X.mg "len" = none) (hm2 : X.mg "set" = none) (hg : Gl X "len" := by rfl) (hg2 : Gl X "set" := by rfl)
    (he : starEach [a] X.env = (false, eval a X.env) :: starEach [] X.env := by rfl) (hpl : (backTo q2 (starEach [] X.env)).any (·.1) = false := by rfl)
    (he2 : starEach [Expr.Call (.Name "set" p2) [a] [] q2] X.env = (false, eval (.Call (.Name "set" p2) [a] [] q2) X.env) :: starEach [] X.env := by rfl) (hpl2 : (backTo pos (starEach [] X.env)).any (·.1) = false := by rfl) :
    PD X E H0 ks (.Call (.Name "len" p) [.Call (.Name "set" p2) [a] [] q2] [] pos) (e1 oLenSet fa) .new := by
  obtain ⟨ta, pa, qa⟩ := ha.ex
  have p1 : PE X (.Call (.Name "set" p2) [a] [] q2) (tCB (rSetI X.K X.w) (tCons ta tNil)) := pe_callTy (cr_setI hc) hg2 hm2 boot_set (pa_cons pa pa_nil he) (by decide) (by decide) he hpl
  refine ⟨_, pe_callB cr_lenSet hg hm boot_len (pa_cons p1 pa_nil he2) (by decide) (by decide) he2 hpl2, fun F σ H env Q R h => ?_⟩
  show ta σ H fun x H1 => rSetI X.K X.w [x] H1 fun y H2 => rLenSet X.w [y] H2 Q
  refine seq1 qa R h fun dx F1 x H1 A1 _ e1 r1 _ R1 h1 => ?_
  cases dx with
  | list ds =>
    have h1 : Done X.K X.mg E H0 F1 H1 .new (match asInts ds with | some ns => if decide (ns.length ≤ 1000) = true then .ok (.int (sset ns).length) else .no | none => .no) Q := h1
    cases q : asInts ds with
    | none => rw [q] at h1; exact h1.elim
    | some ns =>
      rw [q] at h1
      have h1 : Done X.K X.mg E H0 F1 H1 .new (if decide (ns.length ≤ 1000) = true then .ok (.int (sset ns).length) else .no) Q := h1
      by_cases z : decide (ns.length ≤ 1000) = true
      · rw [if_pos z] at h1
        have z := of_decide_eq_true z
        obtain ⟨l, vs, rfl, s, al⟩ := dt_list (r1.dt R1.eF)
        obtain ⟨e1', e2'⟩ := dpa_ints q al
        rw [e1'] at s
        refine ⟨l, ns, rfl, s, z, fun r c hr hcl ⟨l1, n1, m1, c1⟩ => ⟨r, _, c, rfl, upd_same, by omega, ?_⟩⟩
        have n2 : (sset ns).Nodup := (sset_pair ns).imp fun h => by omega
        have pm : l1.Perm (sset ns) := (List.perm_ext_iff_of_nodup n1 n2).mpr fun k => by rw [m1 k, sset_mem]
        have ec : (sset ns).length = c := by rw [← pm.length_eq]; exact c1
        rw [ec] at h1
        exact Got.flat (Got.mono (Ext.heap R1.eF (same_upd hr)) h1) (R1.eF.trans (same_upd hr)) fun _ => .int _
      · rw [if_neg z] at h1; exact h1.elim
  | _ => exact h1.elim
/-! ### x = l.pop() -/
def gPop (e : En) (i j : Nat) : Fl := match e[i]? with
  | some (some (.list xs)) => match xs[xs.length - 1]? with
    | some d => .nx ((e.set i (some (.list xs.dropLast))).set j (some d))
    | none => .no
  | _ => .no
def sPop (i j : Nat) : DS := fun e => gPop e i j
theorem dpa_dropLast {K : PySem.W.Frag} {H : Hp} : ∀ {vs : List V} {ds : List D}, DpAll K H vs ds → DpAll K H vs.dropLast ds.dropLast
  | _, _, .nil => .nil
  | _, _, .cons h .nil => .nil
  | _, _, .cons h (.cons h2 r) => .cons h (dpa_dropLast (.cons h2 r))
theorem pd1_pop {x : Str} {pos' cpos : Pos} (hN : X.N.Nodup) (q : PE X o (tVar i)) (hk : kAt ks i = .o1 := by rfl) (nb : noB ks = true := by decide) (hij : i ≠ j := by decide) (hi : X.N[j]? = some x := by rfl) (hx : Loc X.env.scope x := by first | exact .inl rfl | exact .inr rfl) (hj : j < ks.length := by decide)
    (hs : swapsWith (.Call (.Attribute o "pop" apos) [] [] cpos) (some (.Name x pos')) pos.line X.env = pure false := by rfl) (hf : X.fn x = true ∨ X.env.scope.names.lookup x = some .local := by first | exact .inl rfl | exact .inr rfl)
    (hbase : attributeBase o "pop" X.env (eval o X.env) = eval o X.env := by rfl) (hline : (apos.endLine == cpos.line) = true := by rfl) :
    PD1 X E H0 ks (.Assign [.Name x pos'] (.Call (.Attribute o "pop" apos) [] [] cpos) pos) (sPop i j) (ks.set j .new) mr := by
  refine ⟨_, ps_set hN hi hx (pe_bm0 PySem.F.plainAttrs_list PySem.F.slot_list_pop PySem.F.type_list_pop mt_pop q hbase hline) hs hf, fun F σ H env D R d => ?_⟩
  have d : DoneF X.K X.mg E H0 F H (ks.set j .new) mr (gPop env i j) D := d
  unfold gPop at d
  split at d
  · rename_i xs he
    split at d
    · rename_i dd hd
      obtain ⟨r, vs, hv, hr, al, ch⟩ := R.o1 nb hk he
      obtain ⟨w, hw, rw1⟩ := dpa_get al hd
      have R1 := ch vs.dropLast xs.dropLast (dpa_dropLast al)
      have fin := R1.set (m := .new) (v := w) (d := dd) (A := []) (i := j) (Ext.refl R1.eF) ⟨rw1, rfl⟩ (fun a ha => nomatch ha) hj
      refine ⟨.ref r, hv, .inl ⟨rfl, _, SqL.of hr⟩, r, vs, w, rfl, rfl, hr, ?_, d F _ _ (Same.refl _) fin⟩
      rw [dpa_len al]
      exact hw
    · exact d.elim
  · exact d.elim
/-! ### a, b = e -/
theorem pd1_asgG (ha : PD X E H0 ks a fa my) (hg : PDG X H0 ks tg g my js ks1) (hA : ∀ {F H : Hp} {v : V} {d : D} {A : List Addr}, ResOk X.K H0 F H my v d A → A = [])
    (h1 : swapsWithSole [tg] a pos.line X.env = pure false := by rfl) (h2 : swappedStores [tg] a X.env = pure none := by rfl) (h3 : (assignEach [tg] X.env).map (·.2) = [assign tg X.env] := by rfl) : PD1 X E H0 ks (.Assign [tg] a pos) (sAsg g fa) ks1 mr := by
  obtain ⟨ta, pa, qa⟩ := ha.ex
  obtain ⟨⟨gt, pg, qg⟩, nx⟩ := hg
  refine ⟨_, ps_asg pa pg h1 h2 h3, fun F σ H env D R d => ?_⟩
  have d : DoneF X.K X.mg E H0 F H ks1 mr ((fa env).fl fun x => (g x env).fl .nx) D := d
  refine seqF qa R d fun dv F1 v H1 A1 _ e1 r1 _ R1 d1 => ?_
  have eA := hA r1
  subst eA
  cases hgd : g dv env with
  | ex c => exact absurd hgd (nx _ _ c)
  | no => rw [hgd] at d1; exact d1.elim
  | ok env' =>
    rw [hgd] at d1
    exact qg F1 σ H1 env env' v dv _ R1 r1 hgd fun σ' R' _ => d1 F1 σ' H1 (Same.refl _) R'
end
end Tf
namespace Tf
open PySem PySem.Spec PyProof.Rows L2
/-- a def that calls itself: so deep at most -/
theorem rec_ok {P : Program} {w : World} {K : PySem.W.Frag} {mg : Str → Option Value} {base : Heap} {fn : Addr} {fd : FuncData} {ps : List Str} {sp : Nat → Sp} (B : Nat) (hl : ∀ vs H Q E, sp 0 vs H Q E → vs.length = ps.length) (h0 : ∀ vs H Q E, sp 0 vs H Q E → False)
    (h : ∀ q, FnOk P w K mg base (L2.CX P w) (B + q) fn fd ps (sp q) → FnOk P w K mg base (L2.CX P w) (B + q + 1) fn fd ps (sp (q + 1))) : ∀ q, FnOk P w K mg base (L2.CX P w) (B + q) fn fd ps (sp q)
  | 0 => ⟨hl, fun _ _ _ _ _ _ _ _ _ _ _ _ _ z => (h0 _ _ _ _ z).elim⟩
  | q + 1 => h q (rec_ok B hl h0 h q)
end Tf
namespace Tf
open PySem PySem.Spec PyProof.Rows L2
section
variable {X : Cx} {E : XK} {H0 : Hp} {ks ks' ks1 ks2 : List RM} {e a b c o : Expr} {f fa fb fc ft fi fk : DE} {m ma mb mc mr my mi mk : RM} {ta tb tc : TE} {F H : Hp} {σ : L2.St} {env : En} {Q : VK} {pos apos ipos : Pos} {j : Nat} {es : List Expr} {fs : List DE}
/-! ### x[i].insert(k, v), x[i].pop(k) -/
def sChgR (j : Nat) (ix : DE) (f : List D → List D → Rs (List D)) (es : List DE) : DS := sIf0 j fun e => (ix e).fl fun i => match e[j]? with
  | some (some (.list rows)) => match rowAt rows i with
    | some (n, row) => (eL es e).fl fun ds => (f row ds).fl fun r => .nx (e.set j (some (.list (rows.set n (.list r)))))
    | none => .no
  | _ => .no
def cPopAt : List D → List D → Rs (List D)
  | xs, [.int i] => if lim xs.length then (match ixN xs.length i with | some k => .ok (xs.eraseIdx k) | none => .no) else .no
  | _, _ => .no
theorem cPopAt_ex : ∀ a b k, cPopAt a b ≠ .ex k := by
  intro a b k h
  unfold cPopAt at h
  split at h
  · split at h
    · split at h <;> cases h
    · cases h
  · cases h
theorem dpa_erase {K : PySem.W.Frag} {H : Hp} : ∀ {vs : List V} {ds : List D} (n : Nat), DpAll K H vs ds → DpAll K H (vs.eraseIdx n) (ds.eraseIdx n)
  | _, _, _, .nil => .nil
  | _, _, 0, .cons _ r => r
  | _, _, n + 1, .cons h r => .cons h (dpa_erase n r)
theorem popAt_rule (F H : Hp) (p : Addr) (xs vs : List V) (ds es zs : List D) (Q : VK) (_ : Same F H) (hp : H p = some (.lst xs)) (al : DpAll N0 (nw H0 F) xs ds) (av : DpAll N0 (nw H0 F) vs es) (hf : cPopAt ds es = .ok zs) (q : ∀ w ys, DpAll N0 (nw H0 F) ys zs → Q w (upd H p (.lst ys))) : rPopAt (.ref p) vs H Q := by
  unfold cPopAt at hf
  split at hf
  · rename_i xs' i
    split at hf
    · rename_i z
      have z := of_decide_eq_true z
      split at hf
      · rename_i k hk
        cases hf
        cases av with
        | cons h r =>
          cases r
          cases h
          have ln := dpa_len al
          rw [← ln] at hk z
          obtain ⟨h1, h2, h3, h4⟩ := ixN_seq hk
          exact ⟨p, xs, i, k, xs[k], rfl, rfl, hp, by omega, by omega, h1, List.getElem?_eq_getElem h2, q _ _ (dpa_erase k al)⟩
      · cases hf
    · cases hf
  · cases hf
theorem insR_rule (F H : Hp) (p : Addr) (xs vs : List V) (ds es zs : List D) (Q : VK) (sm : Same F H) (hp : H p = some (.lst xs)) (al : DpAll N0 (nw H0 F) xs ds) (av : DpAll N0 (nw H0 F) vs es) (hf : cIns ds es = .ok zs) (q : ∀ w ys, DpAll N0 (nw H0 F) ys zs → Q w (upd H p (.lst ys))) :
    ∃ (l : Addr) (xs : List V) (i : Int) (y : V), V.ref p = .ref l ∧ vs = [.int i, y] ∧ H l = some (.lst xs) ∧ xs.length < sizeLine ∧ 0 ≤ i ∧ i < 2 ^ 63 ∧ Q .non (upd H l (.lst (xs.take i.toNat ++ [y] ++ xs.drop i.toNat))) :=
  ins_rule F H p xs vs ds es zs Q sm hp al av hf (q _)
theorem rdg_chgR {r : V → List V → Hp → VK → Prop} {f : List D → List D → Rs (List D)} {t : TA} {ti : TE} (qi : Rdg X E H0 ks ti fi mi) (qa : RdgL X E H0 ks t fs .new) (hk : kAt ks j = .o2) (nb : noB ks = true)
    (hr : ∀ (F H : Hp) (p : Addr) (xs vs : List V) (ds es zs : List D) (Q : VK), Same F H → H p = some (.lst xs) → DpAll N0 (nw H0 F) xs ds → DpAll N0 (nw H0 F) vs es → f ds es = .ok zs → (∀ w ys, DpAll N0 (nw H0 F) ys zs → Q w (upd H p (.lst ys))) → r (.ref p) vs H Q)
    (hx : ∀ a b k, f a b ≠ .ex k) : RdgF X E H0 ks ks mr (tDrop fun σ H Q => tVar j σ H fun w H2 => ti σ H2 fun i H3 => rIx X.K w i H3 fun q H4 => tyV X.K "list" q H4 ∧ t σ H4 fun vs H5 => r q vs H5 Q) (sChgR j fi f fs) := fun F σ H env D R d => by
  obtain ⟨⟨rows, he⟩, d⟩ := ite_done d
  obtain ⟨p, qs, dss, _, hv, hp, _, _⟩ := R.o2 nb hk he
  refine ⟨.ref p, hv, ?_⟩
  refine seqF qi R d fun di F2 i H2 A2 _ e2 r2 _ R2 d2 => ?_
  have d2 : DoneF X.K X.mg E H0 F2 H2 ks mr (match env[j]? with | some (some (.list rows)) => (match rowAt rows di with | some (n, row) => (eL fs env).fl fun ds => (f row ds).fl fun r => .nx (env.set j (some (.list (rows.set n (.list r))))) | none => .no) | _ => .no) D := d2
  rw [he] at d2
  have d2 : DoneF X.K X.mg E H0 F2 H2 ks mr (match rowAt rows di with | some (n, row) => (eL fs env).fl fun ds => (f row ds).fl fun r => .nx (env.set j (some (.list (rows.set n (.list r))))) | none => .no) D := d2
  cases hrow : rowAt rows di with
  | none => rw [hrow] at d2; exact d2.elim
  | some nr =>
    obtain ⟨n, row⟩ := nr
    rw [hrow] at d2
    have d2 : DoneF X.K X.mg E H0 F2 H2 ks mr ((eL fs env).fl fun ds => (f row ds).fl fun r => .nx (env.set j (some (.list (rows.set n (.list r)))))) D := d2
    obtain ⟨p', q, k, xs, vs, hv', hdi, hp', hat, hq, al, ch⟩ := row_at R2 nb hk he hrow
    rw [hv] at hv'
    cases hv'
    refine .inl ⟨p, vs, k, .ref q, rfl, dt_int (hdi ▸ r2.dt R2.eF), SqL.of hp', hat, tyL hq, ?_⟩
    refine qa F2 σ H2 env _ R2 ?_
    cases hl : eL fs env with
    | ex k => rw [hl] at d2; exact d2
    | no => rw [hl] at d2; exact d2
    | ok ds =>
      rw [hl] at d2
      intro F3 us H3 e3 l3
      have d2 : DoneF X.K X.mg E H0 F2 H2 ks mr ((f row ds).fl fun r => .nx (env.set j (some (.list (rows.set n (.list r)))))) D := d2
      have R3 := R2.ext e3
      obtain ⟨p3, q3, k3, xs3, vs3, hv3, hk3, hp3, hat3, hq3, al3, ch3⟩ := row_at R3 nb hk he hrow
      rw [hdi] at hk3
      cases hk3
      have eq3 : q3 = q := by
        have w := e3.hh _ _ hp'
        rw [hv] at hv3
        cases hv3
        rw [hp3] at w
        cases w
        rw [hat] at hat3
        cases hat3
        rfl
      subst eq3
      cases hf : f row ds with
      | ex k => exact absurd hf (hx _ _ k)
      | no => rw [hf] at d2; exact d2.elim
      | ok zs =>
        rw [hf] at d2
        exact hr F3 H3 q3 xs3 us row ds zs _ R3.eF hq3 al3 l3 hf fun _ ys hy => d2 F3 σ _ e3.ff (ch3 ys zs hy)
theorem pd1_insR (hv : PE X o (tVar j)) (hi : PD X E H0 ks b fi mi) (ha : PDL X E H0 ks (e :: es) fs .new) (hk : kAt ks j = .o2 := by rfl) (nb : noB ks = true := by decide) (hs : PlainIx b := by exact fun _ _ => rfl)
    (hsw : swapsWith (.Call (.Attribute (.Subscript o b ipos) "insert" apos) (e :: es) [] pos) none pos.line X.env = pure false := by rfl)
    (hbase : attributeBase (.Subscript o b ipos) "insert" X.env (eval (.Subscript o b ipos) X.env) = eval (.Subscript o b ipos) X.env := by rfl)
    (hfew : ((backTo pos (starEach (e :: es) X.env)).all (fun x => !x.1) && (backToKw pos (keywordEach [] X.env)).all (fun x => x.1.isSome)
      && decide ((e :: es).length + ([] : List Keyword).length + (if ([] : List Keyword).isEmpty then 0 else 1) < 30)) = true := by rfl)
    (hline : (apos.endLine == pos.line) = true := by rfl) (he : starEach (e :: es) X.env = (false, eval e X.env) :: starEach es X.env := by rfl) (hpl : (backTo pos (starEach es X.env)).any (·.1) = false := by rfl) :
    PD1 X E H0 ks (.Expr (.Call (.Attribute (.Subscript o b ipos) "insert" apos) (e :: es) [] pos) pos) (sChgR j fi cIns fs) ks mr := by
  obtain ⟨ta, pa, qa⟩ := ha.ex
  obtain ⟨ti, pi, qi⟩ := hi.ex
  exact ⟨_, ps_expr (pe_bm PySem.F.plainAttrs_list PySem.F.slot_list_insert PySem.F.type_list_insert mt_insert (pe_ix ix_seq hv pi hs) pa hbase hfew hline he hpl) hsw,
    rdg_chgR qi qa hk nb (fun F H p xs vs ds es zs Q a b c d e f => insR_rule F H p xs vs ds es zs Q a b c d e f) cIns_ex⟩
theorem pd1_popR (hv : PE X o (tVar j)) (hi : PD X E H0 ks b fi mi) (ha : PDL X E H0 ks (e :: es) fs .new) (hk : kAt ks j = .o2 := by rfl) (nb : noB ks = true := by decide) (hs : PlainIx b := by exact fun _ _ => rfl)
    (hsw : swapsWith (.Call (.Attribute (.Subscript o b ipos) "pop" apos) (e :: es) [] pos) none pos.line X.env = pure false := by rfl)
    (hbase : attributeBase (.Subscript o b ipos) "pop" X.env (eval (.Subscript o b ipos) X.env) = eval (.Subscript o b ipos) X.env := by rfl)
    (hfew : ((backTo pos (starEach (e :: es) X.env)).all (fun x => !x.1) && (backToKw pos (keywordEach [] X.env)).all (fun x => x.1.isSome)
      && decide ((e :: es).length + ([] : List Keyword).length + (if ([] : List Keyword).isEmpty then 0 else 1) < 30)) = true := by rfl)
    (hline : (apos.endLine == pos.line) = true := by rfl) (he : starEach (e :: es) X.env = (false, eval e X.env) :: starEach es X.env := by rfl) (hpl : (backTo pos (starEach es X.env)).any (·.1) = false := by rfl) :
    PD1 X E H0 ks (.Expr (.Call (.Attribute (.Subscript o b ipos) "pop" apos) (e :: es) [] pos) pos) (sChgR j fi cPopAt fs) ks mr := by
  obtain ⟨ta, pa, qa⟩ := ha.ex
  obtain ⟨ti, pi, qi⟩ := hi.ex
  exact ⟨_, ps_expr (pe_bm PySem.F.plainAttrs_list PySem.F.slot_list_pop PySem.F.type_list_pop mt_popAt (pe_ix ix_seq hv pi hs) pa hbase hfew hline he hpl) hsw,
    rdg_chgR qi qa hk nb (fun F H p xs vs ds es zs Q a b c d e f => popAt_rule F H p xs vs ds es zs Q a b c d e f) cPopAt_ex⟩
end
end Tf
namespace Tf
open PySem PySem.Spec PyProof.Rows L2
/-! ### an exception on its way through a comprehension -/
/-- in the air of X, as the frame L saw it: r is the state without it, G its ground -/
structure AirD (X : Cx) (E : XK) (L : Addr) (u : Value) (t : Shared) (ea : Addr) (G : Heap) (r : Shared) (pp : List (Addr × Obj)) (sl : L2.St) (Hq : Hp) (k : Value) (dd : Option Addr) : Prop where
  isA : u = .ref ea
  inv : Inv X pp sl Hq r
  gr : ∀ b o, r.heap.get? b = some o → b ∉ frs X.stack → G.get? b = some o
  up : r.heap.UpToSlots t.heap
  na : Hq ea = none
  os : t.os = r.os
  ag : AllBare t.gens
  w : E k dd Hq
def AirL (X : Cx) (E : XK) (L : Addr) (u : Value) (t : Shared) : Prop :=
  ∃ ea G r pp sl Hq k dd, AirD X E L u t ea G r pp sl Hq k dd ∧ Sky G X.stack ea (Zc k dd) L t.heap
def TakesL (X : Cx) (E : XK) (L : Addr) : Prop := ∀ u t, AirL X E L u t → X.xe u t
theorem takesL_of {X : Cx} {E : XK} (tk : Takes X (fun cls d _ H => E cls d H)) : TakesL X E X.env.locals := fun u t h => by
  obtain ⟨ea, G, r, pp, sl, Hq, k, dd, D, sky⟩ := h
  exact tk u t ⟨ea, G, r, pp, sl, Hq, k, dd, D.isA, D.inv, D.gr, D.up, sky, D.na, D.os, D.ag, D.w⟩
/-- what a callee lets out is in the air, for any frame -/
theorem airL_call {X : Cx} {E : XK} {L : Addr} {pp : List (Addr × Obj)} {sl : L2.St} {H : Hp} {s t : Shared} {u : Value} (J : Inv X pp sl H s) (c : CX X.prog X.w X.stack H s E u t) : AirL X E L u t := by
  obtain ⟨ea, B, Hq, k, dd, rfl, fly, ok, ub, na, os, ag, w⟩ := c
  obtain ⟨g, in_, out⟩ := restrict t.heap fun b => (B.get? b).isSome || decide (b ∈ frs X.stack)
  have stay : B.StaysIn t.heap := fly.1
  have ofB : ∀ b o, B.get? b = some o → g.get? b = some o := fun b o q => by
    rw [in_ b (by simp [q])]; exact stay b o q
  have ofF : ∀ b, b ∈ frs X.stack → g.get? b = t.heap.get? b := fun b q => in_ b (by simp [q])
  have back : ∀ b o, g.get? b = some o → t.heap.get? b = some o ∧ ((B.get? b).isSome = true ∨ b ∈ frs X.stack) := fun b o q => by
    by_cases z : ((B.get? b).isSome || decide (b ∈ frs X.stack)) = true
    · rw [in_ b z] at q
      rw [Bool.or_eq_true, decide_eq_true_eq] at z
      exact ⟨q, z⟩
    · rw [out b (by simpa using z)] at q; cases q
  have grd : ∀ b o, g.get? b = some o → b ∉ frs X.stack → B.get? b = some o := fun b o q nb => by
    obtain ⟨q1, q2⟩ := back b o q
    rcases q2 with q2 | q2
    · obtain ⟨o2, q3⟩ := Option.isSome_iff_exists.mp q2
      have := stay b o2 q3
      rw [q1] at this
      cases this
      exact q3
    · exact absurd q2 nb
  refine ⟨ea, B, { s with heap := g, gens := t.gens, drawn := t.drawn, toks := t.toks }, pp, sl, Hq, k, dd, ⟨rfl, ?_, grd, Heap.UpToSlots.of_keeps fun b o q => (back b o q).1, na, os, ag, w⟩, .inr (.inl fly)⟩
  have un : Un (frs X.stack) [] H Hq s.heap g := by
    refine ⟨fun b o q n hb _ => ofB b o (ub.keep b o q n hb), fun b o q _ hb _ => ?_, fun b o q n _ => ub.free b o q n, fun b o q _ => ?_, ub.tups, ub.frzs, ub.tbls⟩
    · obtain ⟨sl2, z⟩ := ub.slot b o q hb
      exact ⟨sl2, by rw [ofF b hb]; exact z⟩
    · by_cases hb : b ∈ frs X.stack
      · obtain ⟨sl2, z⟩ := ub.slot b o q hb
        exact ⟨_, by rw [ofF b hb]; exact z⟩
      · obtain ⟨o2, z⟩ := ub.there b o q hb
        exact ⟨o2, ofB b o2 z⟩
  exact J.call (ch := []) un (ok.kept ofB) ag fun _ z => nomatch z
theorem passesL {X : Cx} {E : XK} {L : Addr} (tk : TakesL X E L) : Passes (L2.CX X.prog X.w) X E := fun _ _ _ _ u t J c => tk u t (airL_call J c)
theorem note_same {x : Value} {e1 e2 : Env} (h : e1.frame = e2.frame) : noteFrame x e1 = noteFrame x e2 := by
  unfold noteFrame PySem.frameOf
  rw [h]
/-- the frame's note -/
theorem airL_noted {X : Cx} {E : XK} {L : Addr} {u : Value} {t : Shared} {e0 ce : Env} {out : List Env} {Q : Unit → Shared → Prop} {F : Value → Shared → Prop} (hst : X.stack = e0 :: out) (h0 : e0.frame = some L) (hce : ce.frame = some L) (x : AirL X E L u t)
    (hQ : ∀ ea G r pp sl Hq k dd h1, AirD X E L u { t with heap := h1 } ea G r pp sl Hq k dd → HandSPX.HeldZ G X.stack ea (Zc k dd) L h1 → Q () { t with heap := h1 }) : wpAny (model X.prog X.w) X.A (noteFrame u ce) Q F t := by
  obtain ⟨ea, G, r, pp, sl, Hq, k, dd, D, sky⟩ := x
  have hfr : X.A.frames = some (e0 :: out) := by rw [D.inv.ok.frames, hst]
  rw [note_same (hce.trans h0.symm), D.isA]
  rw [hst] at sky
  have fin : ∀ h1, HandSPX.HeldZ G (e0 :: out) ea (Zc k dd) L h1 → t.heap.UpToSlots h1 → Q () { t with heap := h1 } := fun h1 hh up => hQ ea G r pp sl Hq k dd h1 ⟨D.isA, D.inv, D.gr, D.up.trans up, D.na, D.os, D.ag, D.w⟩ (by rw [hst]; exact hh)
  rcases sky with ⟨g1, g2, g3, oe, vs, g4, g5, g6, g7⟩ | fly | held
  · exact HandSPX.look_newZ Zc.steady hfr g3 h0 g4 g1 g2 g6 g7 g5 fin
  · exact HandSPX.looks_onZ Zc.steady hfr h0 fly fin
  · exact HandSPX.againZ h0 held.2.2.2 (fin t.heap held (Heap.UpToSlots.refl _))
/-- how a comprehension ends with an exception -/
def errX (X : Cx) (ce : Env) (u : Value) (t : Shared) : Prop := ∃ m, t.heap.Ns ce.locals m ∧ ∀ h', Heap.SameBut ce.locals t.heap h' → wpAny (model X.prog X.w) X.A (PySem.passOn "comprehension.variables-let-go" u ce : Sem Value) (fun _ _ => False) X.xe { t with heap := h' }
theorem blk_err {X Y : Cx} {E : XK} {L C : Addr} {pins : List (Addr × Obj)} {σ : L2.St} {H3 : Hp} {s3 : Shared} {e0 ce : Env} {out : List Env} {fp : List Addr} {u : Value} {t : Shared} (J3 : Inv X pins σ H3 s3) (tk : TakesL X E L) (hst : X.stack = e0 :: out) (h0 : e0.frame = some L) (hce : ce.frame = some L)
    (hC : ce.locals = C) (hsz : s3.heap.objs.size ≤ C) (hfp : ∀ b ∈ fp, FpOk X pins H3 b)
    (y1 : Y.prog = X.prog) (y2 : Y.w = X.w) (y3 : Y.stack = X.stack) (y4 : Y.env = ce) (y5 : Y.s_0 = s3) (y6 : Y.H_0 = H3) (y7 : Y.outer = X.stack) (y8 : Y.ex = fp) (y9 : Y.A = X.A)
    (x : AirL Y E L u t) {F : Value → Shared → Prop} : wpAny (model X.prog X.w) X.A (noteFrame u ce) (fun _ t1 => errX X ce u t1) F t := by
  have hst' : Y.stack = e0 :: out := by rw [y3, hst]
  have main := airL_noted (F := F) (Q := fun _ t1 => errX X ce u t1) hst' h0 hce x
  rw [y1, y2, y9] at main
  refine main fun ea G r pp sl Hq k dd h1 D held => ?_
  have I6 := D.inv
  have nC : Hq C = none := by
    have z := I6.free
    rw [y4, hC] at z
    exact z
  have bs : Un (frs X.stack) fp H3 Hq s3.heap r.heap := by
    have z := I6.base
    rw [y5, y6, y8] at z
    have e : Y.fs = frs X.stack := by show frs Y.outer = _; rw [y7]
    rw [e] at z
    exact z
  have ro : r.os = s3.os := by have z := I6.os; rw [y5] at z; exact z
  have hk : HOk X.prog X.w Hq r.heap := by have z := I6.hok; rw [y1, y2] at z; exact z
  have J : Inv X pins σ Hq r := J3.call' (ch := fp) ro bs hk I6.bare fun b hb => ⟨(hfp b hb).2.2.2.1, (hfp b hb).2.1, (hfp b hb).2.2.2.2.1, (hfp b hb).2.2.2.2.2⟩
  obtain ⟨q0, q1, q2, q3, q4, q5⟩ := J3.fpOk hsz nC
  have frC : C ∉ frs X.stack := fun z => by
    obtain ⟨_, o, ho, _⟩ := J3.stack.mem z
    exact absurd (Nat.lt_of_lt_of_le (Heap.lt_size ho) hsz) (Nat.lt_irrefl _)
  obtain ⟨m, hm, _⟩ := I6.loc
  rw [y4, hC] at hm
  have grX : ∀ b o, r.heap.get? b = some o → b ∉ frs X.stack → G.get? b = some o := fun b o q nb => D.gr b o q (by rw [y3]; exact nb)
  rw [y3] at held
  obtain ⟨k1, k2, k3, oe, vs, T, oT, ts, t1, t2, t3, t4, t5, t6, t7, t8, t9⟩ := held
  obtain ⟨oC, es, ep, hoC, rC⟩ := id hm
  have inG : G.get? C = some oC := grX C oC hoC frC
  have eaC : ea ≠ C := fun z => by rw [z, inG] at k2; cases k2
  have TC : T ≠ C := fun z => by rw [z, inG] at t5; cases t5
  refine ⟨m, by rw [hC]; exact ⟨oC, es, ep, k1 C oC inG, rC⟩, fun h' sb => ?_⟩
  rw [hC] at sb
  have at' : ∀ b, b ≠ C → h'.get? b = h1.get? b := sb.2
  have hid : ∀ (h : Heap) b o, (PySem.W.hideAll h [C]).get? b = some o → h.get? b = some o ∧ b ≠ C := fun h b o q => ⟨PySem.W.of_hideAll _ q, fun z => by
    rw [z, PySem.W.hideAll_none _ (List.mem_singleton.mpr rfl)] at q; cases q⟩
  have hid2 : ∀ (h : Heap) b o, h.get? b = some o → b ≠ C → (PySem.W.hideAll h [C]).get? b = some o := fun h b o q nb => PySem.W.hideAll_get _ q fun z => nb (List.mem_singleton.mp z)
  let r2 : Shared := { r with heap := PySem.W.hideAll r.heap [C] }
  let G2 : Heap := PySem.W.hideAll G [C]
  have J2 : Inv X pins σ Hq r2 := J.turned (t' := r.toks) (it := C) (fun b o nb q => hid2 _ b o q nb) q0 q1 q3 q4 q5
  have up2 : r2.heap.UpToSlots h' := fun b o q nf => by
    obtain ⟨q', nb⟩ := hid _ b o q
    obtain ⟨sl2, z⟩ := D.up b o q' nf
    exact ⟨sl2, (at' b nb).trans z⟩
  have gr2 : ∀ b o, r2.heap.get? b = some o → b ∉ frs X.stack → G2.get? b = some o := fun b o q nb => by
    obtain ⟨q', nb'⟩ := hid _ b o q
    exact hid2 _ b o (grX b o q' nb) nb'
  have held2 : HandSPX.HeldZ G2 X.stack ea (Zc k dd) L h' := by
    refine ⟨fun b o q => ?_, ?_, ?_, oe, vs, T, oT, ts, (at' ea eaC).trans t1, t2, t3, t4, ?_, t6, (at' T TC).trans t7, t8, t9⟩
    · obtain ⟨q', nb⟩ := hid _ b o q
      exact (at' b nb).trans (k1 b o q')
    · cases z : G2.get? ea with
      | none => rfl
      | some o => rw [(hid _ ea o z).1] at k2; cases k2
    · refine funFrames_none (base := X.base) ?_ fun b hb => ?_
      · exact Heap.FunFrames.of_keeps (fun b o q nf => by
          obtain ⟨sl2, z⟩ := up2 b o q nf
          exact ⟨_, z, rfl⟩) J2.stack
      · cases z : G2.get? b with
        | none => rfl
        | some o =>
          have z2 := (hid _ b o z).1
          rw [(k3.mem hb).1] at z2; cases z2
    · cases z : G2.get? T with
      | none => rfl
      | some o => rw [(hid _ T o z).1] at t5; cases t5
  rw [D.isA]
  unfold PySem.passOn
  refine wpAny_bind (wpAny_field ((at' ea eaC).trans t1) t3 t4 ?_)
  rw [if_neg (show ¬ ((Value.ref T == Value.none) = true) from by simp)]
  have fin : wpAny (model X.prog X.w) X.A (setFlight (.ref ea) ce.frame) (fun _ s4 => wpAny (model X.prog X.w) X.A (throw (.ref ea) : Sem Value) (fun _ _ => False) X.xe s4) X.xe { t with heap := h' } := by
    rw [hce]
    refine HandSPX.setFlight_onZ held2 fun h4 hh4 up4 => wpAny_throw (tk _ _ ?_)
    exact ⟨ea, G2, r2, pins, σ, Hq, k, dd, ⟨rfl, J2, gr2, up2.trans up4, D.na, D.os, D.ag, D.w⟩, .inr (.inr hh4)⟩
  first
    | exact wpAny_bind (wpAny_pure (wpAny_bind fin))
    | exact wpAny_bind fin
end Tf
namespace Tf
open PySem PySem.Spec PyProof.Rows L2
theorem clo_nil {cells : List (Str × Addr)} : ∀ {names : List (Str × NameKind)} {acc : List (Str × Addr)}, (∀ y ∈ names, y.2 ≠ .free) → cloFrom cells names acc = acc
  | [], _, _ => rfl
  | (n, k) :: r, acc, h => by
    unfold cloFrom
    rw [if_neg (by simpa using h (n, k) (List.mem_cons_self ..))]
    exact clo_nil fun y hy => h y (List.mem_cons_of_mem _ hy)
theorem relabel_self {scope : Scope} {env : Env} (h : ∀ y ∈ scope.names, y.2 ≠ .free) : relabel scope env = scope := by
  unfold relabel
  rw [map_eq_self (l := scope.names) fun y hy => by
    obtain ⟨n, k⟩ := y
    have z : (k == NameKind.free) = false := by simpa using h _ hy
    simp [z]]
abbrev Cx.blkX (X : Cx) (s : Shared) (H : Hp) (scope : Scope) (ce : Env) (fp : List Addr) (xb : Value → Shared → Prop) : Cx := (L2.Cx.blk X s H scope ce fp).tr [] xb
section
variable {X : Cx} {E : XK} {L : Addr}
/-- between the block's two contexts -/
theorem inv_tr {Y : Cx} {xb : Value → Shared → Prop} {pp : List (Addr × Obj)} {sl : L2.St} {H : Hp} {s : Shared} (hp : Y.pn = []) (J : Inv Y pp sl H s) : Inv (Y.tr [] xb) pp sl H s :=
  ⟨J.ok.toTry _ _, J.os, J.bare, J.base, J.loc, J.cell, J.free, J.freeC, fun p q => J.pin p (by rw [hp]; exact q), J.hok, J.len⟩
theorem inv_rt {Y : Cx} {xb : Value → Shared → Prop} {pp : List (Addr × Obj)} {sl : L2.St} {H : Hp} {s : Shared} (hp : Y.pn = []) (ok : Y.Ok) (J : Inv (Y.tr [] xb) pp sl H s) : Inv Y pp sl H s :=
  ⟨ok, J.os, J.bare, J.base, J.loc, J.cell, J.free, J.freeC, fun p q => J.pin p (by rw [hp] at q; exact q), J.hok, J.len⟩
theorem lcx_core {pins : List (Addr × Obj)} {s : Shared} {σ : L2.St} {H : Hp} {Q : VK} {elt tg iter : Expr} {ifs : List Expr} {scope : Scope} {own : List (Str × Nat)} {pos : Pos} {wi : TI} {g : TG} {tt : TT} {te : TE} {e0 : Env} {out : List Env} {RR : Value → Env → Result → Shared → Prop}
    (hc : X.calm = true) (hN : X.N.Nodup) (J : Inv X pins σ H s) (hi : PI X tg iter wi) (ok : BlkOk X.N X.env.scope scope own)
    (hg : ∀ (s0 : Shared) (H0 : Hp) (C : Addr) (cl : List (Str × Addr)) (fp : List Addr), PG (X.blk s0 H0 scope (compEnvC scope cl C X.env) fp) tg g) (ht : ∀ (s0 : Shared) (H0 : Hp) (C : Addr) (cl : List (Str × Addr)) (fp : List Addr), PTs (X.blk s0 H0 scope (compEnvC scope cl C X.env) fp) ifs tt)
    (he : ∀ (s0 : Shared) (H0 : Hp) (C : Addr) (cl : List (Str × Addr)) (fp : List Addr) (xb : Value → Shared → Prop), TakesL (Cx.blkX X s0 H0 scope (compEnvC scope cl C X.env) fp xb) E L → PE (Cx.blkX X s0 H0 scope (compEnvC scope cl C X.env) fp xb) elt te)
    (tk : TakesL X E L) (hst : X.stack = e0 :: out) (h0 : e0.frame = some L) (hL : X.env.frame = some L) (hfree : ∀ y ∈ scope.names, y.2 ≠ .free)
    (h : tLc wi g tt te (own.map (·.2)) σ H Q)
    (r1 : ∀ D s' m H' cenv, Inv X pins σ H' s' → Q (.ref D) H' → s'.heap.Ns cenv.locals m → FpOk X pins H' cenv.locals → RR (.ref D) cenv (.ok .next) s')
    (r2 : ∀ D cenv u t, errX X { cenv with scope := scope } u t → RR (.ref D) cenv (.error u) t) :
    wpAny (model X.prog X.w) X.A (eval iter X.env) (fun xv sa => wpAny (model X.prog X.w) X.A (pyIter xv) (fun itv sb => wpAny (model X.prog X.w) X.A (newList []) (fun acc sc =>
      wpAny (model X.prog X.w) X.A (newFunctionEnv scope X.env.globals [] [] X.env.qual none .none (some X.env)) (fun cenv sd =>
        codeAny (model X.prog X.w) X.A (.compStart (.ListComp elt [⟨tg, iter, ifs, 0⟩] scope pos) 0 itv acc { cenv with scope := scope }) (RR acc cenv) sd) X.xe sc) X.xe sb) X.xe sa) X.xe s := by
  refine thn (hi.run pins s σ H _ J h) fun xv sa hx => thn hx fun itv sb hb => ?_
  obtain ⟨it, fp, tn, JJ, Ha, rfl, Ja, T, sta, fa, q⟩ := hb
  refine wpAny_newObj_type (newEnv_comp ?_) (by show 0 ≤ sizeLine; decide)
  generalize hD : sb.heap.objs.size = D
  have nD : Ha D = none := Ja.hok.fresh (Nat.le_of_eq hD)
  obtain ⟨W, ⟨m0, w0⟩, turn⟩ := q D nD
  generalize hsl : ({ sb with heap := sb.heap.push { cls := .type "list", data := .seq ([] : List Value).toArray } } : Shared) = sl
  have Jl : Inv X pins σ (upd Ha D (.lst [])) sl := by
    rw [← hsl]
    refine Ja.laid (t' := sb.toks) (fun b o q => Heap.get?_push_of_some _ q) (Nat.le_of_eq hD) ⟨Nat.zero_le _, [], 0, .nil, ?_⟩
    rw [← hD]; exact Heap.get?_push_size _ rfl
  have hpl : sl.heap = sb.heap.push { cls := .type "list", data := .seq ([] : List Value).toArray } := by rw [← hsl]
  have fl : ∀ b ∈ fp, FpOk X pins (upd Ha D (.lst [])) b ∧ b < sl.heap.objs.size := fun b hb => by
    obtain ⟨o, q, _⟩ := T.obj _ _ sta b hb
    have lt := Heap.lt_size q
    refine ⟨⟨?_, (fa b hb).2⟩, by rw [hpl, Heap.size_push]; exact Nat.lt_succ_of_lt lt⟩
    rw [upd_ne (by rw [← hD]; exact Nat.ne_of_lt lt)]
    exact (fa b hb).1
  have stl : tn 0 sl.heap := T.keep _ _ _ sta fun b _ o q => by rw [hpl]; exact Heap.get?_push_of_some _ q
  have Jb := block_start Jl ok hN fl
  rw [clo_nil hfree] at Jb
  have pg := hg sl (upd Ha D (.lst [])) sl.heap.objs.size (cellsFrom (sl.heap.objs.size + 1) scope.names []) fp
  have pt := ht sl (upd Ha D (.lst [])) sl.heap.objs.size (cellsFrom (sl.heap.objs.size + 1) scope.names []) fp
  have pe := he sl (upd Ha D (.lst [])) sl.heap.objs.size (cellsFrom (sl.heap.objs.size + 1) scope.names []) fp
  generalize hcv : newEnv scope sl.heap.objs.size X.env.globals (cellsFrom (sl.heap.objs.size + 1) scope.names []) X.env.qual none .none (some X.env) builtinsNs = cv
  have cvL : cv.locals = sl.heap.objs.size := by rw [← hcv]; rfl
  have hce : ({ cv with scope := scope } : Env) = compEnvC scope (cellsFrom (sl.heap.objs.size + 1) scope.names []) sl.heap.objs.size X.env := by
    rw [← hcv]; unfold compEnvC; rw [relabel_self hfree]; rfl
  show codeAny _ _ (.compStart (.ListComp elt [⟨tg, iter, ifs, 0⟩] scope pos) 0 (.ref it) (.ref D) { cv with scope := scope }) _ _
  have r2' : ∀ u t, errX X { cv with scope := scope } u t → RR (.ref D) cv (.error u) t := fun u t => r2 D cv u t
  rw [hce] at r2' ⊢
  generalize hcc : compEnvC scope (cellsFrom (sl.heap.objs.size + 1) scope.names []) sl.heap.objs.size X.env = ce at Jb pg pt pe r2' ⊢
  have ceL : ce.locals = sl.heap.objs.size := by subst hcc; rfl
  have ceF : ce.frame = some L := by rw [← hcc]; exact hL
  have nfp : ∀ b ∈ fp, (upd Ha D (.lst [])) b = none := fun b q => (fl b q).1.1
  generalize hHb : upd Ha D (.lst []) = Hb at Jl Jb pg pt pe w0 nfp fl
  generalize hsm : ({ sl with heap := pushCells (sl.heap.push { cls := .type "dict", data := .dict #[] }) scope.names } : Shared) = sm at Jb ⊢
  have stm : tn 0 sm.heap := T.keep _ _ _ stl fun b _ o q => by rw [← hsm]; exact pushCells_keeps _ _ _ _ (Heap.get?_push_of_some _ q)
  -- the block's wish about exceptions
  let xb : Value → Shared → Prop := notedBy (model X.prog X.w) X.A ce fun u t => RR (.ref D) cv (.error u) t
  have pe := pe xb fun u t air => by
    show wpAny _ _ _ _ _ _
    refine wpAny_mono (blk_err (Y := Cx.blkX X sl Hb scope ce fp xb) (F := fun u t => RR (.ref D) cv (.error u) t) Jl tk hst h0 ceF ceL (Nat.le_refl _) (fun b q => (fl b q).1) rfl rfl rfl rfl rfl rfl rfl rfl rfl air) (fun _ t1 z => r2' u t1 z) fun _ _ z => z
  have ok' := Jb.ok
  have stat : ∀ {σ' : L2.St} {H' : Hp} {s' : Shared}, Inv (X.blk sl Hb scope ce fp) [] σ' H' s' → (∀ b ∈ fp, H' b = none) → ∀ b ∈ fp, FpOk (X.blk sl Hb scope ce fp) [] H' b := fun {σ' H' s'} J' hn b q =>
    ⟨hn b q, (J'.ok.exf b q).1, J'.ok.exfs b q, .inl q, fun x c z => (J'.ok.exf b q).2 x c z, fun p z => absurd (show p ∈ ([] : List (Addr × Obj)) ++ [] from z) (by simp)⟩
  have loop : codeAny (model X.prog X.w) X.A (.compLoop (.ListComp elt [⟨tg, iter, ifs, 0⟩] scope pos) 0 (.ref it) (.ref D) ce) (RR (.ref D) cv) sm := by
    refine compLoop_any (fun k t => ∃ i Hq, Inv (X.blk sl Hb scope ce fp) [] (wipe σ (own.map (·.2))) Hq t ∧ tn i t.heap ∧ (∀ b ∈ fp, Hq b = none) ∧ W i k Hq) ?_ m0 ⟨0, Hb, Jb, stm, nfp, w0⟩
    rintro k t5 ⟨i, H5, J5, st5, n5, w5⟩
    rcases turn i k H5 w5 with ⟨stop, fin⟩ | ⟨go, Nx, toW, step⟩
    · have td := T.done (X.blk sl Hb scope ce fp) rfl rfl rfl hc i [] t5 _ H5 (fun _ _ => False) J5 (stat J5 n5) st5 stop
      refine thnF td fun r t6 ⟨hr, J6⟩ => ?_
      subst hr
      have J7 : Inv X pins σ H5 t6 := Jl.call' (ch := fp) J6.os J6.base J6.hok J6.bare fun b q => ⟨(fl b q).1.2.2.2.1, (fl b q).1.2.1, (fl b q).1.2.2.2.2.1, (fl b q).1.2.2.2.2.2⟩
      have nC : H5 sl.heap.objs.size = none := by
        have z : H5 ce.locals = none := J6.free
        rwa [ceL] at z
      obtain ⟨mm, hn, _⟩ := J6.loc
      have hn : t6.heap.Ns ce.locals mm := hn
      rw [ceL] at hn
      exact r1 D t6 mm H5 cv J7 fin (by rw [cvL]; exact hn) (by rw [cvL]; exact Jl.fpOk (Nat.le_refl _) nC)
    · have ti := T.item (X.blk sl Hb scope ce fp) rfl rfl rfl hc i [] t5 _ H5 (fun _ _ => False) J5 (stat J5 n5) st5 go
      refine thnF ti fun r t6 ⟨u, hr, h6⟩ => ?_
      subst hr
      refine thnF h6 fun _ t7 ⟨x, H7, J7, r7, y7, st7, n7⟩ => ?_
      have J7' := J7.pinned (stat J7 n7) (T.obj _ _ st7)
      refine thnF (pg.run _ t7 _ H7 x u _ J7' r7 (step x H7 y7)) fun _ t8 ⟨σ8, H8, J8, hw8, q8⟩ => ?_
      refine thnF (pt.run _ t8 σ8 H8 _ J8 q8) fun b t9 ⟨H9, J9, q9⟩ => ?_
      have endT : ∀ {t' : Shared} {H' : Hp}, Inv (X.blk sl Hb scope ce fp) ([] ++ pinsAt fp t7.heap) σ8 H' t' → Nx H' → ∃ k', k' < k ∧ ∃ i H', Inv (X.blk sl Hb scope ce fp) [] (wipe σ (own.map (·.2))) H' t' ∧ tn i t'.heap ∧ (∀ b ∈ fp, H' b = none) ∧ W i k' H' := fun {t' H'} J' nx => by
        obtain ⟨k', hk', w'⟩ := toW H' nx
        have pn' : ∀ b ∈ fp, ∀ o, t7.heap.get? b = some o → t'.heap.get? b = some o ∧ H' b = none := fun b q o z =>
          let y := J'.pin (b, o) (List.mem_append_right _ (List.mem_append_right _ (mem_pinsAt q z)))
          ⟨y.1, y.2.1⟩
        have ll : (wipe σ (own.map (·.2))).length = σ8.length := by rw [← hw8, wipe_length]
        refine ⟨k', hk', i + 1, H', (J'.unpinned (pins := [])).weak ll (fun j v z => ?_), T.keep _ _ _ st7 fun b q o z => (pn' b q o z).1, fun b q => ?_, w'⟩
        · rw [← hw8] at z
          exact (wipe_some z).1
        · obtain ⟨o, z, _⟩ := T.obj _ _ st7 b q
          exact (pn' b q o z).2
      cases b with
      | false =>
        simp only [Bool.false_eq_true, if_false] at q9 ⊢
        exact endT J9 q9
      | true =>
        simp only [if_true] at q9 ⊢
        refine wpAny_mono (pe.run _ t9 σ8 H9 _ (inv_tr rfl J9) q9) (fun z ta ⟨yv, Ht, Jt, rt, acc, hDt, hzt, nx⟩ => ?_) fun u t z => z
        have Jt' := inv_rt rfl ok' Jt
        exact app_ok (X := X.blk sl Hb scope ce fp) Jt' hDt hzt rt fun tb Jtb => endT Jtb nx
  exact codeAny_compStart_list loop (T.self X.A 0 _ _ _ stm loop)
/-- a comprehension whose item may raise, as a value -/
theorem pe_lcx {elt tg iter : Expr} {ifs : List Expr} {scope : Scope} {own : List (Str × Nat)} {pos : Pos} {wi : TI} {g : TG} {tt : TT} {te : TE} {e0 : Env} {out : List Env} (hc : X.calm = true) (hN : X.N.Nodup) (hi : PI X tg iter wi) (ok : BlkOk X.N X.env.scope scope own)
    (hg : ∀ (s0 : Shared) (H0 : Hp) (C : Addr) (cl : List (Str × Addr)) (fp : List Addr), PG (X.blk s0 H0 scope (compEnvC scope cl C X.env) fp) tg g) (ht : ∀ (s0 : Shared) (H0 : Hp) (C : Addr) (cl : List (Str × Addr)) (fp : List Addr), PTs (X.blk s0 H0 scope (compEnvC scope cl C X.env) fp) ifs tt)
    (he : ∀ (s0 : Shared) (H0 : Hp) (C : Addr) (cl : List (Str × Addr)) (fp : List Addr) (xb : Value → Shared → Prop), TakesL (Cx.blkX X s0 H0 scope (compEnvC scope cl C X.env) fp xb) E L → PE (Cx.blkX X s0 H0 scope (compEnvC scope cl C X.env) fp xb) elt te)
    (tk : TakesL X E L) (hst : X.stack = e0 :: out) (h0 : e0.frame = some L) (hL : X.env.frame = some L) (hfree : ∀ y ∈ scope.names, y.2 ≠ .free) (hs : ∀ x, foldedSetIterable iter X.env x = pure x := by intro _; rfl) :
    PE X (.ListComp elt [⟨tg, iter, ifs, 0⟩] scope pos) (tLc wi g tt te (own.map (·.2))) := by
  refine ⟨fun pins s σ H Q J h => ?_⟩
  rw [eval_ListComp]
  refine wpAny_comprehension rfl hs hfree ok.kind (fun y hy z => by rw [ok.uniq y hy, z]) (lcx_core (RR := fun acc cenv r s' => ∃ m, s'.heap.Ns cenv.locals m ∧ ∀ h', Heap.SameBut cenv.locals s'.heap h' →
    match r with | .ok _ => EP X pins σ Q acc { s' with heap := h' } | .error x => wpAny (model X.prog X.w) X.A (PySem.passOn "comprehension.variables-let-go" x { cenv with scope := scope }) (EP X pins σ Q) X.xe { s' with heap := h' }) hc hN J hi ok hg ht he tk hst h0 hL hfree h (fun D s' m H' cenv J' q hn f => ⟨m, hn, fun h2 sb => ?_⟩) fun D cenv u t ⟨m, hn, z⟩ => ⟨m, hn, fun h2 sb => wpAny_mono (z h2 sb) (fun _ _ f => f.elim) fun _ _ y => y⟩)
  obtain ⟨f0, f1, f2, f3, f4, f5⟩ := f
  exact ⟨.ref D, H', J'.turned (t' := s'.toks) (fun b o nb q' => (sb.2 b nb).trans q') f0 f1 f3 f4 f5, rfl, q⟩
end
end Tf
namespace Tf
open PySem PySem.Spec PyProof.Rows L2
/-- a list comprehension without tests whose item may raise -/
def eCompX (own : List Nat) (g : DG) (it : DI) (a : DE) : DE := fun e => (it e).bind fun ds =>
  if ds.length ≤ 100000 then (compL own g eYes a e ds).bind fun ys => .ok (.list ys) else .no
section
variable {X : Cx} {E : XK} {H0 : Hp} {ks ks' ks1 ks2 : List RM} {e a b c : Expr} {f fa fb fc ft : DE} {m ma mb mc mr my : RM} {ta tb tc : TE} {F H : Hp} {σ : L2.St} {env : En} {Q : VK} {pos : Pos}
variable {tg iter elt : Expr} {it : DI} {g : DG} {js : List Nat} {own : List (Str × Nat)} {scope : Scope} {L : Addr}
structure PartsX (X : Cx) (E : XK) (L : Addr) (H0 : Hp) (ks ks1 : List RM) (tg : Expr) (elt : Expr) (scope : Scope) (g : DG) (my : RM) (js : List Nat) (fa : DE) (m : RM) : Prop where
  hg : ∀ (s : Shared) (H : Hp) (C : Addr) (cl : List (Str × Addr)) (fp : List Addr), PDG (X.blk s H scope (compEnvC scope cl C X.env) fp) H0 ks tg g my js ks1
  he : ∀ (s : Shared) (H : Hp) (C : Addr) (cl : List (Str × Addr)) (fp : List Addr) (xb : Value → Shared → Prop), TakesL (Cx.blkX X s H scope (compEnvC scope cl C X.env) fp xb) E L → PD (Cx.blkX X s H scope (compEnvC scope cl C X.env) fp xb) E H0 ks1 elt fa m
def fEx (X : Cx) (E : XK) (L : Addr) (scope : Scope) (elt : Expr) : TE := fun σ H Q => ∀ (s : Shared) (H' : Hp) (C : Addr) (cl : List (Str × Addr)) (fp : List Addr) (xb : Value → Shared → Prop), TakesL (Cx.blkX X s H' scope (compEnvC scope cl C X.env) fp xb) E L → wpE (Cx.blkX X s H' scope (compEnvC scope cl C X.env) fp xb) elt σ H Q
theorem compX_turn (P : PartsX X E L H0 ks ks1 tg elt scope g my js fa m) (R : Rel X.K H0 ks F σ H env) {x : V} {d : D} {vs : List Nat} {more res : Rs (List D)} {Nx : Hp → Prop} {D' : Addr} (hj : ∀ j ∈ js, j ∈ vs)
    (hx : ResOk X.K H0 F H my x d []) (hR : Rel X.K H0 ks F (L2.wipe σ vs) H (wipeE env vs))
    (hres : ((g d (wipeE env vs)).bind fun e' => (fa e').bind fun y => more.bind fun ys => .ok (y :: ys)) = res) (hnn : res ≠ .no) (hex : ∀ c, res = .ex c → Wish X.mg E H0 c)
    (hyes : ∀ y F' v H' A, Ext F H F' H' → (more.bind fun ys => .ok (y :: ys)) = res → ResOk X.K H0 F' H' m v y A → (∀ a ∈ A, H a = none) → ∃ acc, H' D' = some (.lst acc) ∧ acc.length < sizeLine ∧ Nx (upd H' D' (.lst (acc ++ [v])))) :
    fG X scope tg x (L2.wipe σ vs) H fun σ2 H2 => L2.wipe σ2 vs = L2.wipe σ vs ∧ tYes σ2 H2 fun b H3 => if b = true then fEx X E L scope elt σ2 H3 fun y H4 => ∃ acc, H4 D' = some (.lst acc) ∧ acc.length < sizeLine ∧ Nx (upd H4 D' (.lst (acc ++ [y]))) else Nx H3 := by
  intro s0 H0' C0 cl0 fp0
  obtain ⟨⟨gt, pg, qg⟩, nx⟩ := P.hg s0 H0' C0 cl0 fp0
  intro pins s u I rv
  refine pg.run pins s _ H x u _ I rv ?_
  cases hg : g d (wipeE env vs) with
  | ex c => exact absurd hg (nx _ _ c)
  | no => rw [hg] at hres; exact absurd hres.symm hnn
  | ok env2 =>
    rw [hg] at hres
    have hres : ((fa env2).bind fun y => more.bind fun ys => .ok (y :: ys)) = res := hres
    refine qg F _ H _ env2 x d _ hR hx hg fun σ2 R2 hw => ⟨(hw vs hj).trans wipe_wipe, ?_⟩
    show (if true = true then fEx X E L scope elt σ2 H (fun y H4 => ∃ acc, H4 D' = some (.lst acc) ∧ acc.length < sizeLine ∧ Nx (upd H4 D' (.lst (acc ++ [y])))) else Nx H)
    rw [if_pos rfl]
    intro s2 H2' C2 cl2 fp2 xb tk
    obtain ⟨te, pe, qe⟩ := (P.he s2 H2' C2 cl2 fp2 xb tk).ex
    intro pins2 s2' I2
    refine pe.run pins2 s2' σ2 H _ I2 ?_
    refine qe F σ2 H env2 _ R2 ?_
    cases ha : fa env2 with
    | ex c =>
      rw [ha] at hres
      exact hex c hres.symm
    | no => rw [ha] at hres; exact absurd hres.symm hnn
    | ok y =>
      rw [ha] at hres
      intro F4 v H4 A e4 r4 n4
      exact hyes y F4 v H4 A e4 hres r4 n4
theorem bind_app {ys : List D} {y : D} {more res resT : Rs (List D)} (h1 : (more.bind fun zs => .ok (y :: zs)) = resT) (h2 : (resT.bind fun zs => .ok (ys ++ zs)) = res) : (more.bind fun zs => .ok ((ys ++ [y]) ++ zs)) = res := by
  rw [← h2, ← h1]
  cases more with
  | ok zs => show Rs.ok _ = Rs.ok _; simp
  | ex c => rfl
  | no => rfl
theorem rdg_compX {wi : TI} (hq : ∀ (F : Hp) (σ : L2.St) (H : Hp) (env : En) (R : It → Hp → Prop), Rel X.K H0 ks F σ H env → DoneI X.K X.mg E H0 F H false my (it env) R → wi σ H R)
    (P : PartsX X E L H0 ks ks1 tg elt scope g my js fa .new) (hj : ∀ j ∈ js, j ∈ own.map (·.2)) :
    Rdg X E H0 ks (tLc wi (fG X scope tg) tYes (fEx X E L scope elt) (own.map (·.2))) (eCompX (own.map (·.2)) g it fa) .o1 := by
  intro F σ H env Q R h
  generalize hvs : own.map (·.2) = vs at hj h ⊢
  refine hq F σ H env _ R ?_
  have h : Done X.K X.mg E H0 F H .o1 ((it env).bind fun ds => if ds.length ≤ 100000 then (compL vs g eYes fa env ds).bind fun ys => .ok (.list ys) else .no) Q := h
  cases hit : it env with
  | ex c => rw [hit] at h; exact h
  | no => rw [hit] at h; exact h
  | ok ds =>
    rw [hit] at h
    intro F1 H1 J e1 ok D hD
    have h : Done X.K X.mg E H0 F H .o1 (if ds.length ≤ 100000 then (compL vs g eYes fa env ds).bind fun ys => .ok (.list ys) else .no) Q := h
    by_cases hz : ds.length ≤ 100000
    · rw [if_pos hz] at h
      generalize hc : compL vs g eYes fa env ds = res at h
      have hnn : res ≠ .no := fun z => by rw [z] at h; exact h.elim
      have hex : ∀ c, res = .ex c → Wish X.mg E H0 c := fun c z => by rw [z] at h; exact h
      have hok : ∀ all, res = .ok all → Got X.K H0 F H .o1 (.list all) Q := fun all z => by rw [z] at h; exact h
      have R1 := R.ext e1
      refine ⟨fun i m H' => m = ds.length - i ∧ i ≤ ds.length ∧ ∃ F' acc ys, Ext F1 H1 F' H' ∧ F' D = none ∧ H' D = some (.lst acc) ∧ DpAll N0 (nw H0 F') acc ys ∧ acc.length ≤ i ∧ ((compL vs g eYes fa env (ds.drop i)).bind fun zs => .ok (ys ++ zs)) = res,
        ⟨ds.length, by simp, Nat.zero_le _, F1, [], [], Ext.heap R1.eF (same_upd hD), R1.eF.free hD, upd_same, .nil, Nat.le_refl _, by rw [List.drop_zero, hc]; cases res <;> rfl⟩, ?_⟩
      rintro i m H' ⟨rfl, hile, F', acc, ys, e', fD, hDa, al, hacc, hcz⟩
      have st : ItSt F1 H1 false F' H' := ⟨e'.ff, e'.fh, fun _ => e'.hh⟩
      have R' := R1.ext e'
      by_cases hlt : i < ds.length
      · refine .inr ⟨ok.go i F' H' hlt st, fun H2 => ∃ F2 acc ys, Ext F1 H1 F2 H2 ∧ F2 D = none ∧ H2 D = some (.lst acc) ∧ DpAll N0 (nw H0 F2) acc ys ∧ acc.length ≤ i + 1 ∧ ((compL vs g eYes fa env (ds.drop (i + 1))).bind fun zs => .ok (ys ++ zs)) = res,
          fun H2 h2 => ⟨ds.length - (i + 1), by omega, rfl, hlt, h2⟩, fun x H2 y => ?_⟩
        obtain ⟨F2, e2, r2⟩ := ok.yld i F' H' x H2 ds[i] (List.getElem?_eq_getElem hlt) st y
        rw [List.drop_eq_getElem_cons hlt] at hcz
        have R2 := R'.ext e2
        have nD : H' D ≠ none := by rw [hDa]; simp
        generalize hT : compL vs g eYes fa env (ds[i] :: ds.drop (i + 1)) = resT at hcz
        have hT : ((g ds[i] (wipeE env vs)).bind fun e' => (fa e').bind fun y => (compL vs g eYes fa env (ds.drop (i + 1))).bind fun ys => .ok (y :: ys)) = resT := hT
        refine compX_turn (D' := D) (vs := vs) P R2 hj r2 (R2.wipe vs) hT (fun z => hnn (by rw [z] at hcz; exact hcz.symm)) (fun c z => hex c (by rw [z] at hcz; exact hcz.symm)) (fun y F3 v H3 A e3 hy r3 n3 => ?_)
        have e23 := e2.trans e3
        have f3 := e23.free fD nD
        refine ⟨acc, e23.hh _ _ hDa, Nat.lt_of_le_of_lt hacc (Nat.lt_of_lt_of_le hlt (Nat.le_trans hz (by decide))), F3, acc ++ [v], ys ++ [y], ?_, f3, upd_same, dpa_app (dpa_mono (nw_mono e23.ff) al) (dpa_one r3.1), by rw [List.length_append]; simp; omega, bind_app hy hcz⟩
        have e13 := e'.trans e23
        refine ⟨e13.ff, fun b o hb => ?_, fun b o hb => ?_, e13.fr⟩
        · rw [upd_ne (ne_of_none hb hD)]
          exact e13.hh _ _ hb
        · rw [upd_ne (ne_of_none hb f3)]
          exact e13.fh _ _ hb
      · have ei : i = ds.length := by omega
        subst ei
        refine .inl ⟨ok.stop F' H' st, ?_⟩
        rw [List.drop_length] at hcz
        have hcz : Rs.ok (ys ++ []) = res := hcz
        rw [List.append_nil] at hcz
        exact hok ys hcz.symm F' (.ref D) H' [D] (e1.trans e') ⟨D, acc, ys, rfl, rfl, hDa, al, fD, rfl⟩ fun a ha => by
          have q : a = D := by simpa using ha
          subst q
          exact e1.hh.free hD
    · rw [if_neg hz] at h; exact h.elim
theorem rdg_compX2 {wi : TI} (hq : ∀ (F : Hp) (σ : L2.St) (H : Hp) (env : En) (R : It → Hp → Prop), Rel X.K H0 ks F σ H env → DoneI X.K X.mg E H0 F H false my (it env) R → wi σ H R)
    (P : PartsX X E L H0 ks ks1 tg elt scope g my js fa .o1) (hj : ∀ j ∈ js, j ∈ own.map (·.2)) :
    Rdg X E H0 ks (tLc wi (fG X scope tg) tYes (fEx X E L scope elt) (own.map (·.2))) (eCompX (own.map (·.2)) g it fa) .o2 := by
  intro F σ H env Q R h
  generalize hvs : own.map (·.2) = vs at hj h ⊢
  refine hq F σ H env _ R ?_
  have h : Done X.K X.mg E H0 F H .o2 ((it env).bind fun ds => if ds.length ≤ 100000 then (compL vs g eYes fa env ds).bind fun ys => .ok (.list ys) else .no) Q := h
  cases hit : it env with
  | ex c => rw [hit] at h; exact h
  | no => rw [hit] at h; exact h
  | ok ds =>
    rw [hit] at h
    intro F1 H1 J e1 ok D hD
    have h : Done X.K X.mg E H0 F H .o2 (if ds.length ≤ 100000 then (compL vs g eYes fa env ds).bind fun ys => .ok (.list ys) else .no) Q := h
    by_cases hz : ds.length ≤ 100000
    · rw [if_pos hz] at h
      generalize hc : compL vs g eYes fa env ds = res at h
      have hnn : res ≠ .no := fun z => by rw [z] at h; exact h.elim
      have hex : ∀ c, res = .ex c → Wish X.mg E H0 c := fun c z => by rw [z] at h; exact h
      have hok : ∀ all, res = .ok all → Got X.K H0 F H .o2 (.list all) Q := fun all z => by rw [z] at h; exact h
      have R1 := R.ext e1
      refine ⟨fun i m H' => m = ds.length - i ∧ i ≤ ds.length ∧ ∃ (F' : Hp) (qs : List Addr) (yss : List (List Tf.D)), Ext F1 H1 F' H' ∧ F' D = none ∧ H' D = some (.lst (qs.map .ref)) ∧ RowsOk N0 (nw H0 F') H' qs yss ∧ (D :: qs).Nodup ∧ (∀ q ∈ qs, F' q = none ∧ H1 q = none) ∧ qs.length ≤ i ∧ ((compL vs g eYes fa env (ds.drop i)).bind fun zs => .ok (yss.map .list ++ zs)) = res,
        ⟨ds.length, by simp, Nat.zero_le _, F1, [], [], Ext.heap R1.eF (same_upd hD), R1.eF.free hD, upd_same, trivial, by simp, fun q hq => absurd hq (by simp), Nat.le_refl _, by rw [List.drop_zero, hc]; cases res <;> rfl⟩, ?_⟩
      rintro i m H' ⟨rfl, hile, F', qs, yss, e', fD, hDa, rows, nd, own', hacc, hcz⟩
      have st : ItSt F1 H1 false F' H' := ⟨e'.ff, e'.fh, fun _ => e'.hh⟩
      have R' := R1.ext e'
      by_cases hlt : i < ds.length
      · refine .inr ⟨ok.go i F' H' hlt st, fun H2 => ∃ (F2 : Hp) (qs : List Addr) (yss : List (List Tf.D)), Ext F1 H1 F2 H2 ∧ F2 D = none ∧ H2 D = some (.lst (qs.map .ref)) ∧ RowsOk N0 (nw H0 F2) H2 qs yss ∧ (D :: qs).Nodup ∧ (∀ q ∈ qs, F2 q = none ∧ H1 q = none) ∧ qs.length ≤ i + 1 ∧ ((compL vs g eYes fa env (ds.drop (i + 1))).bind fun zs => .ok (yss.map .list ++ zs)) = res,
          fun H2 h2 => ⟨ds.length - (i + 1), by omega, rfl, hlt, h2⟩, fun x H2 y => ?_⟩
        obtain ⟨F2, e2, r2⟩ := ok.yld i F' H' x H2 ds[i] (List.getElem?_eq_getElem hlt) st y
        rw [List.drop_eq_getElem_cons hlt] at hcz
        have R2 := R'.ext e2
        have nD : H' D ≠ none := by rw [hDa]; simp
        have nq : ∀ q ∈ qs, H' q ≠ none := fun q hq => by
          obtain ⟨xs, z⟩ := rows_at rows q hq
          rw [z]; simp
        generalize hT : compL vs g eYes fa env (ds[i] :: ds.drop (i + 1)) = resT at hcz
        have hT : ((g ds[i] (wipeE env vs)).bind fun e' => (fa e').bind fun y => (compL vs g eYes fa env (ds.drop (i + 1))).bind fun ys => .ok (y :: ys)) = resT := hT
        refine compX_turn (D' := D) (vs := vs) P R2 hj r2 (R2.wipe vs) hT (fun z => hnn (by rw [z] at hcz; exact hcz.symm)) (fun c z => hex c (by rw [z] at hcz; exact hcz.symm)) (fun y F3 v H3 A e3 hy r3 n3 => ?_)
        have e23 := e2.trans e3
        have f3 := e23.free fD nD
        obtain ⟨p, xs, row, rfl, rfl, hp, al, fp, rfl⟩ := r3
        have p' : H2 p = none := n3 p (by simp)
        have pH' : H' p = none := e2.hh.free p'
        have p1 : H1 p = none := e'.hh.free pH'
        have npL : p ≠ D := fun z => nD (by rw [← z]; exact pH')
        have npq : p ∉ qs := fun z => nq p z pH'
        obtain ⟨nd1, nd2⟩ := List.nodup_cons.mp nd
        have rows3 := rows_mono (nw_mono (H0 := H0) e23.ff) e23.hh rows
        have e13 := e'.trans e23
        refine ⟨qs.map .ref, e23.hh _ _ hDa, by rw [List.length_map]; exact Nat.lt_of_le_of_lt hacc (Nat.lt_of_lt_of_le hlt (Nat.le_trans hz (by decide))), F3, qs ++ [p], yss ++ [row], ?_, f3, by rw [upd_same]; simp, ?_, ?_, ?_, by rw [List.length_append]; simp; omega, ?_⟩
        · refine ⟨e13.ff, fun b o hb => ?_, fun b o hb => ?_, e13.fr⟩
          · rw [upd_ne (ne_of_none hb hD)]
            exact e13.hh _ _ hb
          · rw [upd_ne (ne_of_none hb f3)]
            exact e13.fh _ _ hb
        · refine rows_app ⟨xs, ?_, al⟩ (rows_out nd1 rows3)
          rw [upd_ne npL]
          exact hp
        · refine List.nodup_cons.mpr ⟨?_, ?_⟩
          · rw [List.mem_append]
            rintro (z | z)
            · exact nd1 z
            · have w : D = p := by simpa using z
              exact npL w.symm
          · rw [List.nodup_append]
            refine ⟨nd2, by simp, fun x hx y hy => ?_⟩
            have z : y = p := by simpa using hy
            subst z
            exact fun w => npq (by rw [← w]; exact hx)
        · intro q hq
          rcases List.mem_append.mp hq with z | z
          · exact ⟨e23.free (own' q z).1 (nq q z), (own' q z).2⟩
          · have w : q = p := by simpa using z
            subst w
            exact ⟨fp, p1⟩
        · rw [List.map_append]; exact bind_app hy hcz
      · have ei : i = ds.length := by omega
        subst ei
        refine .inl ⟨ok.stop F' H' st, ?_⟩
        rw [List.drop_length] at hcz
        have hcz : Rs.ok (yss.map .list ++ []) = res := hcz
        rw [List.append_nil] at hcz
        refine hok _ hcz.symm F' (.ref D) H' (D :: qs) (e1.trans e') ⟨D, qs, yss, rfl, rfl, hDa, rows, rfl, nd, fun a ha => ?_⟩ fun a ha => ?_
        · rcases List.mem_cons.mp ha with z | z
          · subst z; exact fD
          · exact (own' a z).1
        · rcases List.mem_cons.mp ha with z | z
          · subst z; exact e1.hh.free hD
          · exact e1.hh.free (own' a z).2
    · rw [if_neg hz] at h; exact h.elim
theorem pd_compX {e0 : Env} {out : List Env} (hc : X.calm = true) (hN : X.N.Nodup) (tk : TakesL X E L) (hst : X.stack = e0 :: out) (h0 : e0.frame = some L) (hL : X.env.frame = some L) (hi : PDI X E H0 ks tg iter it my false) (ok : BlkOk X.N X.env.scope scope own) (hfree : ∀ y ∈ scope.names, y.2 ≠ .free) (P : PartsX X E L H0 ks ks1 tg elt scope g my js fa .new) (hj : ∀ j ∈ js, j ∈ own.map (·.2) := by decide)
    (hs : ∀ x, foldedSetIterable iter X.env x = pure x := by intro _; rfl) : PD X E H0 ks (.ListComp elt [⟨tg, iter, [], 0⟩] scope pos) (eCompX (own.map (·.2)) g it fa) .o1 := by
  obtain ⟨wi, pi, qi⟩ := hi.ex
  refine ⟨_, pe_lcx (g := fG X scope tg) (tt := tYes) (te := fEx X E L scope elt) hc hN pi ok (fun s H C cl fp => ⟨fun pins s' σ H' v u Q I r h => h s H C cl fp pins s' u I r⟩) (fun s H C cl fp => pts_nil) (fun s H C cl fp xb tk => ⟨fun pins s' σ H' Q I h => h s H C cl fp xb tk pins s' I⟩) tk hst h0 hL hfree hs, rdg_compX qi P hj⟩
end
end Tf
namespace Tf
open PySem PySem.Spec PyProof.Rows L2
section
variable {X : Cx} {E : XK} {H0 : Hp} {ks ks' ks1 ks2 : List RM} {e a b c : Expr} {f fa fb fc ft : DE} {m ma mb mc mr my : RM} {ta tb tc : TE} {F H : Hp} {σ : L2.St} {env : En} {Q : VK} {pos : Pos}
variable {tg iter elt : Expr} {it : DI} {g : DG} {js : List Nat} {own : List (Str × Nat)} {scope : Scope} {L : Addr}
/-! ### [..] * n -/
def oRep : D → D → Rs D
  | .list xs, .int k => if decide (0 ≤ k) && decide (k ≤ 1000) && lim (xs.length * k.toNat) then .ok (.list (List.replicate k.toNat xs).flatten) else .no
  | _, _ => .no
theorem dpa_rep {K : PySem.W.Frag} {H : Hp} {vs : List V} {ds : List D} (h : DpAll K H vs ds) : ∀ k : Nat, DpAll K H (List.replicate k vs).flatten (List.replicate k ds).flatten
  | 0 => .nil
  | k + 1 => by
    rw [List.replicate_succ, List.replicate_succ, List.flatten_cons, List.flatten_cons]
    exact dpa_app h (dpa_rep h k)
theorem pd_rep (ha : PD X E H0 ks a fa .o1) (hb : PD X E H0 ks b fb .new) : PD X E H0 ks (.BinOp a .Mult b pos) (e2 oRep fa fb) .o1 := by
  obtain ⟨ta, pa, qa⟩ := ha.ex
  obtain ⟨tb, pb, qb⟩ := hb.ex
  refine ⟨_, pe_op op_rep pa pb, fun F σ H env Q R h => ?_⟩
  refine seq1 (k := fun x H1 => tb σ H1 fun y H2 => rRep x y H2 Q) qa R h fun dx F1 x H1 A1 _ e1 r1 _ R1 h1 => seq1 (k := fun y H2 => rRep x y H2 Q) qb R1 h1 fun dy F2 y H2 A2 _ e2 r2 _ R2 h2 => ?_
  obtain ⟨p, xs, ds, rfl, rfl, hp, al, fp, rfl⟩ := r1.mono e2
  cases dy with
  | int k =>
    have h2 : Done X.K X.mg E H0 F2 H2 .o1 (if (decide (0 ≤ k) && decide (k ≤ 1000) && lim (ds.length * k.toNat)) = true then .ok (.list (List.replicate k.toNat ds).flatten) else .no) Q := h2
    by_cases z : (decide (0 ≤ k) && decide (k ≤ 1000) && lim (ds.length * k.toNat)) = true
    · rw [if_pos z] at h2
      rw [Bool.and_eq_true, Bool.and_eq_true, decide_eq_true_eq, decide_eq_true_eq] at z
      obtain ⟨⟨z1, z2⟩, z3⟩ := z
      exact ⟨p, k, xs, rfl, dt_int (r2.dt R2.eF), hp, by omega, by omega, by rw [dpa_len al]; exact lim_le z3, fun l hl => Got.lst h2 R2.eF hl (dpa_rep al k.toNat)⟩
    · rw [if_neg z] at h2; exact h2.elim
  | _ => exact h2.elim
def freeC (scope : Scope) : Bool := scope.names.all fun y => match y.2 with | .free => false | _ => true
theorem free_by {scope : Scope} (h : freeC scope = true) : ∀ y ∈ scope.names, y.2 ≠ .free := fun y hy z => by
  have := List.all_eq_true.mp h y hy
  rw [z] at this
  cases this
/-! ### x = [..] on one line, the item may raise -/
theorem ps_setLcx {i : Nat} {y : Str} {py : Pos} {elt tg iter : Expr} {ifs : List Expr} {scope : Scope} {own : List (Str × Nat)} {pos spos : Pos} {wi : TI} {g : TG} {tt : TT} {te : TE} {e0 : Env} {out : List Env} (hc : X.calm = true) (hN : X.N.Nodup) (hy : X.N[i]? = some y) (hyl : X.env.scope.names.lookup y = some .local)
    (hsw : swapsWith (.ListComp elt [⟨tg, iter, ifs, 0⟩] scope pos) (some (.Name y py)) spos.line X.env = pure true) (hi : PI X tg iter wi) (ok : BlkOk X.N X.env.scope scope own)
    (hg : ∀ (s0 : Shared) (H0 : Hp) (C : Addr) (cl : List (Str × Addr)) (fp : List Addr), PG (X.blk s0 H0 scope (compEnvC scope cl C X.env) fp) tg g) (ht : ∀ (s0 : Shared) (H0 : Hp) (C : Addr) (cl : List (Str × Addr)) (fp : List Addr), PTs (X.blk s0 H0 scope (compEnvC scope cl C X.env) fp) ifs tt)
    (he : ∀ (s0 : Shared) (H0 : Hp) (C : Addr) (cl : List (Str × Addr)) (fp : List Addr) (xb : Value → Shared → Prop), TakesL (Cx.blkX X s0 H0 scope (compEnvC scope cl C X.env) fp xb) E L → PE (Cx.blkX X s0 H0 scope (compEnvC scope cl C X.env) fp xb) elt te)
    (tk : TakesL X E L) (hst : X.stack = e0 :: out) (h0 : e0.frame = some L) (hL : X.env.frame = some L) (hfree : ∀ y ∈ scope.names, y.2 ≠ .free) (hs : ∀ x, foldedSetIterable iter X.env x = pure x := by intro _; rfl) :
    PS X (.Assign [.Name y py] (.ListComp elt [⟨tg, iter, ifs, 0⟩] scope pos) spos) (tAsg (tLc wi g tt te (own.map (·.2))) (gName i)) := by
  refine ⟨fun pins s σ H W J h => ?_⟩
  rw [exec_Assign_Name_used _ _ _ _ hsw]
  refine wpAny_bind (wpAny_standAt (wpAny_bind ?_))
  show wpAny _ X.A (do let _ ← comprehension (.ListComp elt [⟨tg, iter, ifs, 0⟩] scope pos) scope X.env (firstIterPos [⟨tg, iter, ifs, 0⟩] pos) (newList []) false (eval iter X.env) (some (assign (.Name y py) X.env))) _ _ s
  have h : tLc wi g tt te (own.map (·.2)) σ H (fun x H1 => gName i x σ H1 W.nx) := h
  refine wpAny_bind (thn (wpAny_comprehension_use (Q := fun _ s' => SP X pins W .next s') rfl hs hfree ok.kind (fun y hy z => by rw [ok.uniq y hy, z]) (lcx_core (RR := fun acc cenv r s' => match r with
      | .ok _ => wpAny (model X.prog X.w) X.A (assign (.Name y py) X.env acc) (fun _ s2 => ∃ mm, s2.heap.Ns cenv.locals mm ∧ ∀ h2, Heap.SameBut cenv.locals s2.heap h2 → SP X pins W .next { s2 with heap := h2 }) X.xe s'
      | .error x => ∃ mm, s'.heap.Ns cenv.locals mm ∧ ∀ h2, Heap.SameBut cenv.locals s'.heap h2 → wpAny (model X.prog X.w) X.A (PySem.passOn "comprehension.variables-let-go" x { cenv with scope := scope }) (fun _ s' => SP X pins W .next s') X.xe { s' with heap := h2 })
      hc hN J hi ok hg ht he tk hst h0 hL hfree h (fun D s' mm H' cenv J' q hn f => ?_) fun D cenv u t ⟨mm, hn, z⟩ => ⟨mm, hn, fun h2 sb => wpAny_mono (z h2 sb) (fun _ _ f => f.elim) fun _ _ y => y⟩)) fun _ s' hq => wpAny_pure (wpAny_pure hq))
  show wpAny _ _ (assign (.Name y py) X.env (.ref D)) _ _ _
  refine wpAny_assign_Name (store_ok2 (v := V.ref D) J' hN hy (.inl hyl) rfl (fun s2 J2 ⟨aa, sb, haa⟩ => ?_) (.inr hyl))
  obtain ⟨f0, f1, f2, f3, f4, f5⟩ := f
  have neC : cenv.locals ≠ aa := by
    rcases haa with z | z
    · rw [z]; exact f1
    · exact fun w => f4 y aa z w.symm
  exact ⟨mm, hn.sameBut sb neC, fun h3 sb3 => ⟨_, H', J2.turned (t' := s2.toks) (fun b o nb w => (sb3.2 b nb).trans w) f0 f1 f3 f4 f5, q⟩⟩
theorem pd1_setLcX2 {j : Nat} {x : Str} {py spos : Pos} {e0 : Env} {out : List Env} (hc : X.calm = true) (hN : X.N.Nodup) (hy : X.N[j]? = some x) (hyl : X.env.scope.names.lookup x = some .local) (hsw : swapsWith (.ListComp elt [⟨tg, iter, [], 0⟩] scope pos) (some (.Name x py)) spos.line X.env = pure true)
    (tk : TakesL X E L) (hst : X.stack = e0 :: out) (h0 : e0.frame = some L) (hL : X.env.frame = some L) (hi : PDI X E H0 ks tg iter it my false) (ok : BlkOk X.N X.env.scope scope own) (hfree : ∀ y ∈ scope.names, y.2 ≠ .free) (P : PartsX X E L H0 ks ks1 tg elt scope g my js fa .o1) (hle : RM.o2.le m = true := by rfl) (hj : ∀ j ∈ js, j ∈ own.map (·.2) := by decide) (hjl : j < ks.length := by decide)
    (hs : ∀ x, foldedSetIterable iter X.env x = pure x := by intro _; rfl) : PD1 X E H0 ks (.Assign [.Name x py] (.ListComp elt [⟨tg, iter, [], 0⟩] scope pos) spos) (sAsg (gN j) (eCompX (own.map (·.2)) g it fa)) (ks.set j m) mr := by
  obtain ⟨wi, pi, qi⟩ := hi.ex
  refine ⟨_, ps_setLcx (g := fG X scope tg) (tt := tYes) (te := fEx X E L scope elt) hc hN hy hyl hsw pi ok (fun s H C cl fp => ⟨fun pins s' σ H' v u Q I r h => h s H C cl fp pins s' u I r⟩) (fun s H C cl fp => pts_nil) (fun s H C cl fp xb tk => ⟨fun pins s' σ H' Q I h => h s H C cl fp xb tk pins s' I⟩) tk hst h0 hL hfree hs, ?_⟩
  refine rdg_asg (fun F σ H env Q R d => rdg_compX2 qi P hj F σ H env Q R ?_) hjl
  cases hf : eCompX (own.map (·.2)) g it fa env with
  | ok y => rw [hf] at d; exact Got.le (R.e0.trans R.eF) hle d
  | ex c => rw [hf] at d; exact d
  | no => rw [hf] at d; exact d
end
end Tf
namespace Tf
open PySem PySem.Spec PyProof.Rows L2
section
variable {X : Cx} {E : XK} {H0 : Hp} {ks : List RM} {a o : Expr} {fa fo : DE} {ma mo : RM} {F H : Hp} {σ : L2.St} {env : En} {Q : VK} {pos apos : Pos}
/-- s.find(t) -/
def gFind (x : Str) : D → Rs D
  | .str y => .ok (.int (Txt.find x y))
  | _ => .no
def eFind (fo fa : DE) : DE := fun e => (fo e).bind fun x => match x with
  | .str s => (fa e).bind (gFind s)
  | _ => .no
theorem pd_find (ho : PD X E H0 ks o fo mo) (ha : PD X E H0 ks a fa ma) (hs : starEach [a] X.env = [(false, eval a X.env)] := by rfl)
    (hbase : attributeBase o "find" X.env (eval o X.env) = eval o X.env := by rfl) (hline : (apos.endLine == pos.line) = true := by rfl) :
    PD X E H0 ks (.Call (.Attribute o "find" apos) [a] [] pos) (eFind fo fa) .new := by
  obtain ⟨to, po, qo⟩ := ho.ex
  obtain ⟨ta, pa, qa⟩ := ha.ex
  refine ⟨_, pe_m1 PySem.F.slot_str_find PySem.F.type_str_find mt_find po pa hs hbase hline, fun F σ H env Q R h => ?_⟩
  show to σ H fun x H1 => (∃ a, x = .str a) ∧ ta σ H1 fun y H2 => ∃ a b, x = .str a ∧ [y] = [.str b] ∧ Q (.int (Txt.find a b)) H2
  refine seq1 qo R h fun dx F1 x H1 A1 _ e1 r1 _ R1 h1 => ?_
  have d1 := r1.dt R1.eF
  cases dx with
  | str s =>
    have ex := dt_str d1
    subst ex
    refine ⟨⟨s, rfl⟩, ?_⟩
    refine seq1 qa R1 h1 fun dy F2 y H2 A2 _ e2 r2 _ R2 h2 => ?_
    have d2 := r2.dt R2.eF
    cases dy with
    | str t =>
      have h2 : Done X.K X.mg E H0 F2 H2 .new (.ok (.int (Txt.find s t))) Q := h2
      exact ⟨s, t, rfl, by rw [dt_str d2], Got.flat h2 R2.eF fun _ => .int _⟩
    | _ => exact h2.elim
  | _ => exact h1.elim
end
end Tf
namespace Tf
open PySem PySem.Spec PyProof.Rows L2
/-- is_table -/
def b_is_table : DS := (sSeq (sAsg (gN 1) (e1 oLen (eV 0))) (sSeq (sIf (eOr (e2 oLt (eV 1) (eK (.int 1))) (e2 oGt (eV 1) (eK (.int 12)))) (sRet (eK (.bool false))) sSkip) (sSeq (sFor (gN 2) (iL (eV 0)) (sIf (eOr (e2 oNe (e1 oLen (eV 2)) (eV 1)) (eOr (e2 oLt (e1 oMin (eV 2)) (eK (.int 0))) (e2 oGe (e1 oMax (eV 2)) (eV 1)))) (sRet (eK (.bool false))) sSkip)) (sRet (eK (.bool true))))))
def d_is_table : List D → Rs D := runN 3 b_is_table
/-- asked_table -/
def b_asked_table : DS := (sIf (e1 oNot (eCall d_is_table [(eV 0)])) (sRaise .NoTable) sSkip)
def d_asked_table : List D → Rs D := runB 1 b_asked_table
/-- odd_three -/
def b_odd_three : DS := (sSeq (sAsg (gN 1) (e1 oLrg (e1 oLen (eV 0)))) (sSeq (sFor (gN 2) (iL (eV 1)) (sFor (gN 3) (iL (eV 1)) (sFor (gN 4) (iL (eV 1)) (sIf (e2 oNe (e2 oIx (e2 oIx (eV 0) (e2 oIx (e2 oIx (eV 0) (eV 2)) (eV 3))) (eV 4)) (e2 oIx (e2 oIx (eV 0) (eV 2)) (e2 oIx (e2 oIx (eV 0) (eV 3)) (eV 4)))) (sRet (eTup [(eK (.str "three")), (eV 2), (eV 3), (eV 4)])) sSkip)))) (sRet (eK .none))))
def d_odd_three : List D → Rs D := runN 5 b_odd_three
/-- rests -/
def b_rests : DS := (sSeq (sAsg (gN 1) (e1 oLrg (e1 oLen (eV 0)))) (sRet (eComp [2] (gN 2) (iL (eV 1)) (eAnd (e2 oEq (e2 oIx (eV 0) (eV 2)) (eV 1)) (e2 oEq (eComp [3] (gN 3) (iL (eV 1)) eYes (e1 oFl (e2 oIx (e2 oIx (eV 0) (eV 3)) (eV 2)))) (eV 1))) (eV 2))))
def d_rests : List D → Rs D := runN 4 b_rests
/-- backs -/
def b_backs : DS := (sRet (eComp [3] (gN 3) (iR1 (e1 oLen (eV 0))) (eAnd (e2 oEq (e2 oIx (e2 oIx (eV 0) (eV 3)) (eV 2)) (eV 1)) (e2 oEq (e2 oIx (e2 oIx (eV 0) (eV 2)) (eV 3)) (eV 1))) (eV 3)))
def d_backs : List D → Rs D := runN 4 b_backs
/-- flaw_of -/
def b_flaw_of : DS := (sSeq (sAsg (gN 1) (eCall d_odd_three [(eV 0)])) (sSeq (sIf (e2 oNoN (eV 1) (eK .none)) (sRet (eV 1)) sSkip) (sSeq (sAsg (gN 2) (eCall d_rests [(eV 0)])) (sSeq (sIf (e2 oEq (e1 oLen (eV 2)) (eK (.int 0))) (sRet (eTup [(eK (.str "rest"))])) sSkip) (sSeq (sFor (gN 3) (iR1 (e1 oLen (eV 0))) (sIf (e2 oEq (e1 oLen (eCall d_backs [(eV 0), (e2 oIx (eV 2) (eK (.int 0))), (eV 3)])) (eK (.int 0))) (sRet (eTup [(eK (.str "back")), (eV 3)])) sSkip)) (sRet (eK .none)))))))
def d_flaw_of : List D → Rs D := runN 4 b_flaw_of
/-- flaw -/
def b_flaw : DS := (sSeq (sDrop (eCall d_asked_table [(eV 0)])) (sRet (eCall d_flaw_of [(eV 0)])))
def d_flaw : List D → Rs D := runN 1 b_flaw
/-- _law_cell_at -/
def b__law_cell_at : DS := (sSeq (sIf (e2 oLt (eV 1) (e1 oLen (eV 0))) (sRet (e1 oFl (e2 oIx (eV 0) (eV 1)))) sSkip) (sRet (eK (.int 0))))
def d__law_cell_at : List D → Rs D := runN 2 b__law_cell_at
/-- _law_draw -/
def b__law_draw : DS := (sSeq (sIf (e2 oEq (e2 oMod (eV 0) (eK (.int 2))) (eK (.int 0))) (sSeq (sAsg (gN 3) (e2 oDiv (eV 0) (eK (.int 2)))) (sSeq (sFor (gN 4) (iR1 (eV 1)) (sAsg (gN 3) (e2 oDiv (eV 3) (eV 2)))) (sRet (e2 oMod (eV 3) (eV 2))))) sSkip) (sSeq (sAsg (gN 5) (e2 oMod (e2 oMul (e2 oAddS (e2 oAddS (e2 oMod (eV 0) (eK (.int 2147483647))) (e2 oMul (eK (.int 977)) (eV 1))) (eK (.int 1))) (eK (.int 48271))) (eK (.int 2147483647)))) (sSeq (sAsg (gN 5) (e2 oMod (e2 oMul (eV 5) (eV 5)) (eK (.int 2147483629)))) (sSeq (sAsg (gN 5) (e2 oMod (e2 oMul (e2 oAddS (eV 5) (e2 oMul (eK (.int 40692)) (e2 oAddS (eV 1) (eK (.int 3))))) (eK (.int 69621))) (eK (.int 2147483647)))) (sRet (e2 oMod (e2 oDiv (eV 5) (eK (.int 8))) (eV 2)))))))
def d__law_draw : List D → Rs D := runN 6 b__law_draw
/-- _law_whole -/
def b__law_whole : DS := (sRet (eAnd (e1 isInt (eV 0)) (e1 oNot (e1 isBool (eV 0)))))
def d__law_whole : List D → Rs D := runN 1 b__law_whole
/-- _law_cycles -/
def b__law_cycles : DS := (sSeq (sAsg (gN 1) (eK (.int 1))) (sSeq (sFor (gN 2) (iL (eV 0)) (sAsg (gN 1) (e2 oMul (eV 1) (eV 2)))) (sSeq (sAsg (gN 3) (eLst [])) (sSeq (sFor (gN 4) (iR1 (eV 1)) (sSeq (sAsg (gN 5) (eLst [])) (sSeq (sFor (gN 6) (iR1 (eV 1)) (sSeq (sAsg (gN 7) (eK (.int 0))) (sSeq (sAsg (gN 8) (eK (.int 1))) (sSeq (sFor (gN 2) (iL (eV 0)) (sSeq (sAsg (gN 7) (e2 oAddS (eV 7) (e2 oMul (e2 oMod (e2 oAddS (e2 oDiv (eV 4) (eV 8)) (e2 oDiv (eV 6) (eV 8))) (eV 2)) (eV 8)))) (sAsg (gN 8) (e2 oMul (eV 8) (eV 2))))) (sChg 5 cApp [(eV 7)]))))) (sChg 3 cApp [(eV 5)])))) (sRet (eV 3))))))
def d__law_cycles : List D → Rs D := runN 9 b__law_cycles
/-- _law_twisted -/
def b__law_twisted : DS := (sSeq (sAsg (gN 2) (eLst [])) (sSeq (sFor (gN 3) (iR1 (e2 oMul (eK (.int 2)) (eV 0))) (sSeq (sAsg (gN 4) (eLst [])) (sSeq (sFor (gN 5) (iR1 (e2 oMul (eK (.int 2)) (eV 0))) (sSeq (sAsg (gN 6) (e2 oIx (eLst [(e2 oMod (eV 5) (eV 0)), (e2 oSub (eK (.int 0)) (e2 oMod (eV 5) (eV 0)))]) (e2 oDiv (eV 3) (eV 0)))) (sSeq (sAsg (gN 7) (e2 oMul (e2 oDiv (eV 3) (eV 0)) (e2 oDiv (eV 5) (eV 0)))) (sSeq (sAsg (gN 8) (e2 oMod (e2 oAddS (e2 oAddS (e2 oMod (eV 3) (eV 0)) (eV 6)) (e2 oMul (eV 1) (eV 7))) (eV 0))) (sChg 4 cApp [(e2 oAddS (eV 8) (e2 oMul (eV 0) (e2 oMod (e2 oAddS (e2 oDiv (eV 3) (eV 0)) (e2 oDiv (eV 5) (eV 0))) (eK (.int 2)))))]))))) (sChg 2 cApp [(eV 4)])))) (sRet (eV 2))))
def d__law_twisted : List D → Rs D := runN 9 b__law_twisted
/-- _law_even -/
def b__law_even : DS := (sSeq (sAsg (gN 0) (eLst [(eLst [])])) (sSeq (sFor (gN 1) (iR1 (eK (.int 4))) (sSeq (sAsg (gN 2) (eLst [])) (sSeq (sFor (gN 3) (iL (eV 0)) (sAsg (gN 2) (e2 oCat (eV 2) (eComp [9] (gN 9) (iR1 (eK (.int 4))) (e2 oNi (eV 9) (eV 3)) (e2 oCat (eV 3) (eLst [(eV 9)])))))) (sAsg (gN 0) (eV 2))))) (sSeq (sAsg (gN 4) (eLst [])) (sSeq (sFor (gN 3) (iL (eV 0)) (sSeq (sAsg (gN 5) (eK (.int 0))) (sSeq (sFor (gN 6) (iR1 (eK (.int 4))) (sAsg (gN 5) (e2 oAddS (eV 5) (e1 oLen (eComp [1] (gN 1) (iR1 (eV 6)) (e2 oGt (e2 oIx (eV 3) (eV 1)) (e2 oIx (eV 3) (eV 6))) (eV 1)))))) (sIf (e2 oEq (e2 oMod (eV 5) (eK (.int 2))) (eK (.int 0))) (sChg 4 cApp [(eV 3)]) sSkip)))) (sSeq (sAsg (gN 7) (eLst [])) (sSeq (sFor (gN 8) (iL (eV 4)) (sChg 7 cApp [(eComp [10] (gN 10) (iL (eV 4)) eYes (eIndex (eV 4) (eComp [9] (gN 9) (iL (eV 8)) eYes (e2 oIx (eV 10) (eV 9)))))])) (sRet (eV 7))))))))
def d__law_even : List D → Rs D := runN 11 b__law_even
/-- _law_base -/
def b__law_base : DS := (sSeq (sAsg (gN 1) (eLst [(eLst [(eK (.int 1))]), (eLst [(eK (.int 2))]), (eLst [(eK (.int 3))]), (eLst [(eK (.int 4))]), (eLst [(eK (.int 2)), (eK (.int 2))]), (eLst [(eK (.int 5))]), (eLst [(eK (.int 6))]), (eLst [(eK (.int 7))]), (eLst [(eK (.int 8))])])) (sSeq (sAsg (gN 1) (e2 oCat (eV 1) (eLst [(eLst [(eK (.int 2)), (eK (.int 4))]), (eLst [(eK (.int 2)), (eK (.int 2)), (eK (.int 2))]), (eLst [(eK (.int 9))]), (eLst [(eK (.int 3)), (eK (.int 3))]), (eLst [(eK (.int 10))]), (eLst [(eK (.int 11))]), (eLst [(eK (.int 12))]), (eLst [(eK (.int 2)), (eK (.int 6))])]))) (sSeq (sIf (e2 oLt (eV 0) (eK (.int 17))) (sRet (eCall d__law_cycles [(e2 oIx (eV 1) (eV 0))])) sSkip) (sSeq (sIf (e2 oLt (eV 0) (eK (.int 23))) (sSeq (sAsg (gN 2) (e2 oIx (eLst [(eTup [(eK (.int 3)), (eK (.int 0))]), (eTup [(eK (.int 4)), (eK (.int 0))]), (eTup [(eK (.int 5)), (eK (.int 0))]), (eTup [(eK (.int 6)), (eK (.int 0))]), (eTup [(eK (.int 4)), (eK (.int 2))]), (eTup [(eK (.int 6)), (eK (.int 3))])]) (e2 oSub (eV 0) (eK (.int 17))))) (sRet (eCall d__law_twisted [(e2 oIx (eV 2) (eK (.int 0))), (e2 oIx (eV 2) (eK (.int 1)))]))) sSkip) (sRet (eCall d__law_even []))))))
def d__law_base : List D → Rs D := runN 3 b__law_base
/-- _law_renamed -/
def b__law_renamed : DS := (sSeq (sAsg (gN 2) (eLst [])) (sSeq (sFor (gN 3) (iR1 (e1 oLen (eV 0))) (sChg 2 cIns [(e2 oMod (eCall d__law_draw [(eV 1), (eV 3), (eK (.int 12))]) (e2 oAddS (eV 3) (eK (.int 1)))), (eV 3)])) (sSeq (sAsg (gN 4) (eComp [7] (gN 7) (iL (eV 0)) eYes (e1 oListF (eV 7)))) (sSeq (sFor (gN 5) (iR1 (e1 oLen (eV 0))) (sFor (gN 6) (iR1 (e1 oLen (eV 0))) (sSetR 4 (e2 oIx (eV 2) (eV 5)) (e2 oIx (eV 2) (eV 6)) (e2 oIx (eV 2) (e2 oIx (e2 oIx (eV 0) (eV 5)) (eV 6)))))) (sRet (eV 4))))))
def d__law_renamed : List D → Rs D := runN 8 b__law_renamed
/-- _law_folk_by -/
def b__law_folk_by : DS := (sRet (eCall d__law_renamed [(eCall d__law_base [(e2 oMod (eCall d__law_cell_at [(eV 0), (eV 1)]) (eK (.int 24)))]), (eCall d__law_cell_at [(eV 0), (e2 oAddS (eV 1) (eK (.int 1)))])]))
def d__law_folk_by : List D → Rs D := runN 2 b__law_folk_by
/-- _law_copy -/
def b__law_copy : DS := (sRet (eComp [1] (gN 1) (iL (eV 0)) eYes (e1 oListF (eV 1))))
def d__law_copy : List D → Rs D := runN 2 b__law_copy
/-- _law_drawn -/
def b__law_drawn : DS := (sSeq (sAsg (gN 1) (e2 oAddS (eK (.int 1)) (e2 oMod (eCall d__law_cell_at [(eV 0), (eK (.int 2))]) (eK (.int 12))))) (sSeq (sAsg (gN 2) (e2 oMod (eCall d__law_cell_at [(eV 0), (eK (.int 3))]) (eK (.int 6)))) (sSeq (sAsg (gN 3) (eCall d__law_cell_at [(eV 0), (eK (.int 1))])) (sSeq (sIf (e2 oEq (eV 2) (eK (.int 3))) (sRet (eCall d__law_renamed [(eComp [7] (gN 7) (iR1 (eV 1)) eYes (eComp [8] (gN 8) (iR1 (eV 1)) eYes (e2 oMod (e2 oSub (eV 7) (eV 8)) (eV 1)))), (eV 3)])) sSkip) (sSeq (sIf (e2 oEq (eV 2) (eK (.int 4))) (sRet (eCall d__law_renamed [(eComp [7] (gN 7) (iR1 (eV 1)) eYes (eComp [8] (gN 8) (iR1 (eV 1)) eYes (e2 oMax2 (eV 7) (eV 8)))), (eV 3)])) sSkip) (sSeq (sIf (e2 oEq (eV 2) (eK (.int 5))) (sRet (eCall d__law_renamed [(eComp [7] (gN 7) (iR1 (eV 1)) eYes (eComp [8] (gN 8) (iR1 (eV 1)) eYes (e2 oMod (e2 oMul (eV 7) (eV 8)) (eV 1)))), (eV 3)])) sSkip) (sSeq (sIf (e2 oEq (eV 2) (eK (.int 2))) (sRet (eComp [7] (gN 7) (iR1 (eV 1)) eYes (eComp [8] (gN 8) (iR1 (eV 1)) eYes (eCall d__law_draw [(eV 3), (e2 oAddS (e2 oMul (eV 7) (eV 1)) (eV 8)), (eV 1)])))) sSkip) (sSeq (sAsg (gN 4) (eCall d__law_folk_by [(eV 0), (eK (.int 0))])) (sSeq (sAsg (gN 5) (e2 oMod (eCall d__law_cell_at [(eV 0), (eK (.int 4))]) (e1 oLen (eV 4)))) (sSeq (sAsg (gN 6) (e2 oMod (eCall d__law_cell_at [(eV 0), (eK (.int 5))]) (e1 oLen (eV 4)))) (sSeq (sIf (eAnd (e2 oEq (eV 2) (eK (.int 1))) (e2 oEq (e2 oMod (eV 3) (eK (.int 3))) (eK (.int 1)))) (sRet (e2 oCat (eSl (eV 4) (some (eV 5)) none) (eSl (eV 4) none (some (eV 5))))) sSkip) (sSeq (sIf (e2 oEq (eV 2) (eK (.int 1))) (sSetR 4 (eV 5) (eV 6) (e2 oMod (eCall d__law_cell_at [(eV 0), (eK (.int 6))]) (e1 oLen (eV 4)))) sSkip) (sRet (eV 4))))))))))))))
def d__law_drawn : List D → Rs D := runN 9 b__law_drawn
/-- _law_flaw -/
def b__law_flaw : DS := (sSeq (sAsg (gN 1) (e1 oLrg (e1 oLen (eV 0)))) (sSeq (sFor (gN 2) (iL (eV 1)) (sFor (gN 3) (iL (eV 1)) (sFor (gN 4) (iL (eV 1)) (sIf (e2 oNe (e2 oIx (e2 oIx (eV 0) (e2 oIx (e2 oIx (eV 0) (eV 2)) (eV 3))) (eV 4)) (e2 oIx (e2 oIx (eV 0) (eV 2)) (e2 oIx (e2 oIx (eV 0) (eV 3)) (eV 4)))) (sRet (eTup [(eK (.str "three")), (eV 2), (eV 3), (eV 4)])) sSkip)))) (sSeq (sAsg (gN 5) (eComp [6] (gN 6) (iL (eV 1)) (e1 oAll (eComp [2] (gN 2) (iL (eV 1)) eYes (eAnd (e2 oEq (e2 oIx (e2 oIx (eV 0) (eV 6)) (eV 2)) (eV 2)) (e2 oEq (e2 oIx (e2 oIx (eV 0) (eV 2)) (eV 6)) (eV 2))))) (eV 6))) (sSeq (sIf (e2 oEq (eV 5) (eLst [])) (sRet (eTup [(eK (.str "rest"))])) sSkip) (sSeq (sFor (gN 2) (iL (eV 1)) (sIf (e2 oEq (e1 oLen (eComp [3] (gN 3) (iL (eV 1)) (eAnd (e2 oEq (e2 oIx (e2 oIx (eV 0) (eV 2)) (eV 3)) (e2 oIx (eV 5) (eK (.int 0)))) (e2 oEq (e2 oIx (e2 oIx (eV 0) (eV 3)) (eV 2)) (e2 oIx (eV 5) (eK (.int 0))))) (eV 3))) (eK (.int 0))) (sRet (eTup [(eK (.str "back")), (eV 2)])) sSkip)) (sRet (eK .none)))))))
def d__law_flaw : List D → Rs D := runN 7 b__law_flaw
/-- law -/
def b_law_k01 : DS := (sSeq (sAsg (gN 1) (eCall d__law_drawn [(eV 0)])) (sSeq (sAsg (gN 2) (eCall d__law_flaw [(eV 1)])) (sSeq (sAsg (gN 3) (eCall d__law_copy [(eV 1)])) (sSeq (sAsg (gN 4) (eCall d_flaw [(eV 3)])) (sSeq (sIf (e2 oNe (eV 3) (eV 1)) (sRet (eK (.bool false))) sSkip) (sSeq (sIf (eOr (e2 oIsN (eV 2) (eK .none)) (e2 oIsN (eV 4) (eK .none))) (sRet (eAnd (e2 oIsN (eV 2) (eK .none)) (e2 oIsN (eV 4) (eK .none)))) sSkip) (sSeq (sIf (eOr (e1 oNot (e1 isTup (eV 4))) (eOr (e2 oNe (eV 4) (eV 2)) (e1 oNot (e1 isStr (e2 oIx (eV 4) (eK (.int 0))))))) (sRet (eK (.bool false))) sSkip) (sRet (e1 oAll (eComp [5] (gN 5) (iT (eSlT (eV 4) (some (eK (.int 1))) none)) eYes (eCall d__law_whole [(eV 5)])))))))))))
def d_law_k01 : List D → Rs D := runN 6 b_law_k01
/-- asked_folk -/
def b_asked_folk : DS := (sSeq (sDrop (eCall d_asked_table [(eV 0)])) (sIf (e2 oNoN (eCall d_flaw_of [(eV 0)]) (eK .none)) (sRaise .NoFolk) sSkip))
def d_asked_folk : List D → Rs D := runB 1 b_asked_folk
/-- asked_element -/
def b_asked_element : DS := (sIf (eOr (e2 oLt (eV 1) (eK (.int 0))) (e2 oGe (eV 1) (e1 oLen (eV 0)))) (sRaise .NoElement) sSkip)
def d_asked_element : List D → Rs D := runB 2 b_asked_element
/-- rest -/
def b_rest : DS := (sSeq (sDrop (eCall d_asked_folk [(eV 0)])) (sRet (e2 oIx (eCall d_rests [(eV 0)]) (eK (.int 0)))))
def d_rest : List D → Rs D := runN 1 b_rest
/-- back -/
def b_back : DS := (sSeq (sDrop (eCall d_asked_folk [(eV 0)])) (sSeq (sDrop (eCall d_asked_element [(eV 0), (eV 1)])) (sRet (e2 oIx (eCall d_backs [(eV 0), (e2 oIx (eCall d_rests [(eV 0)]) (eK (.int 0))), (eV 1)]) (eK (.int 0))))))
def d_back : List D → Rs D := runN 2 b_back
/-- law -/
def b_law_k02 : DS := (sSeq (sAsg (gN 1) (eCall d__law_folk_by [(eV 0), (eK (.int 0))])) (sSeq (sAsg (gN 2) (eCall d__law_copy [(eV 1)])) (sSeq (sAsg (gN 3) (eCall d_rest [(eV 2)])) (sSeq (sIf (eOr (e1 oNot (eCall d__law_whole [(eV 3)])) (e1 oNot (eCh oLe oLt (eK (.int 0)) (eV 3) (e1 oLen (eV 1))))) (sRet (eK (.bool false))) sSkip) (sSeq (sFor (gN 4) (iR1 (e1 oLen (eV 1))) (sSeq (sIf (eOr (e2 oNe (e2 oIx (e2 oIx (eV 1) (eV 3)) (eV 4)) (eV 4)) (e2 oNe (e2 oIx (e2 oIx (eV 1) (eV 4)) (eV 3)) (eV 4))) (sRet (eK (.bool false))) sSkip) (sSeq (sAsg (gN 5) (eCall d_back [(eV 2), (eV 4)])) (sSeq (sIf (eOr (e1 oNot (eCall d__law_whole [(eV 5)])) (e1 oNot (eCh oLe oLt (eK (.int 0)) (eV 5) (e1 oLen (eV 1))))) (sRet (eK (.bool false))) sSkip) (sIf (eOr (e2 oNe (e2 oIx (e2 oIx (eV 1) (eV 4)) (eV 5)) (eV 3)) (e2 oNe (e2 oIx (e2 oIx (eV 1) (eV 5)) (eV 4)) (eV 3))) (sRet (eK (.bool false))) sSkip))))) (sRet (e2 oEq (eV 2) (eV 1))))))))
def d_law_k02 : List D → Rs D := runN 6 b_law_k02
/-- row_of_times -/
def b_row_of_times : DS := (sSeq (sAsg (gN 2) (eLst [(e2 oIx (eCall d_rests [(eV 0)]) (eK (.int 0)))])) (sSeq (sAsg (gN 3) (eV 1)) (sSeq (sWhile 1000 (e2 oNe (eV 3) (e2 oIx (eV 2) (eK (.int 0)))) (sSeq (sChg 2 cApp [(e1 oFl (eV 3))]) (sAsg (gN 3) (e2 oIx (e2 oIx (eV 0) (eV 3)) (eV 1))))) (sRet (eV 2)))))
def d_row_of_times : List D → Rs D := runN 4 b_row_of_times
/-- order -/
def b_order : DS := (sSeq (sDrop (eCall d_asked_folk [(eV 0)])) (sSeq (sDrop (eCall d_asked_element [(eV 0), (eV 1)])) (sRet (e1 oLen (eCall d_row_of_times [(eV 0), (eV 1)])))))
def d_order : List D → Rs D := runN 2 b_order
/-- done -/
def b_done : DS := (sSeq (sDrop (eCall d_asked_folk [(eV 0)])) (sSeq (sDrop (eCall d_asked_element [(eV 0), (eV 1)])) (sSeq (sAsg (gN 3) (eCall d_row_of_times [(eV 0), (eV 1)])) (sRet (e2 oIx (eV 3) (e2 oMod (eV 2) (e1 oLen (eV 3))))))))
def d_done : List D → Rs D := runN 4 b_done
/-- _law_still -/
def b__law_still : DS := (sRet (e2 oIx (eComp [1] (gN 1) (iR1 (e1 oLen (eV 0))) (e2 oEq (e2 oIx (eV 0) (eV 1)) (e1 oLrg (e1 oLen (eV 0)))) (eV 1)) (eK (.int 0))))
def d__law_still : List D → Rs D := runN 2 b__law_still
/-- law -/
def b_law_k03 : DS := (sSeq (sAsg (gN 1) (eCall d__law_folk_by [(eV 0), (eK (.int 0))])) (sSeq (sAsg (gN 2) (eCall d__law_still [(eV 1)])) (sSeq (sAsg (gN 3) (eCall d__law_copy [(eV 1)])) (sSeq (sFor (gN 4) (iR1 (e1 oLen (eV 1))) (sSeq (sAsg (gN 5) (eLst [(eV 2)])) (sSeq (sAsg (gN 6) (eV 4)) (sSeq (sWhile 1000 (e2 oNe (eV 6) (eV 2)) (sSeq (sChg 5 cApp [(eV 6)]) (sAsg (gN 6) (e2 oIx (e2 oIx (eV 1) (eV 4)) (eV 6))))) (sSeq (sAsg (gN 7) (eCall d_order [(eV 3), (eV 4)])) (sSeq (sIf (eOr (e1 oNot (eCall d__law_whole [(eV 7)])) (e2 oNe (eV 7) (e1 oLen (eV 5)))) (sRet (eK (.bool false))) sSkip) (sSeq (sAsg (gN 8) (e2 oSub (e2 oMod (eCall d__law_cell_at [(eV 0), (e2 oAddS (eK (.int 2)) (eV 4))]) (eK (.int 121))) (eK (.int 60)))) (sSeq (sIf (e2 oEq (e2 oMod (eCall d__law_cell_at [(eV 0), (eK (.int 20))]) (eK (.int 2))) (eK (.int 1))) (sAsg (gN 8) (e2 oSub (e2 oMod (eCall d__law_cell_at [(eV 0), (e2 oAddS (eK (.int 2)) (eV 4))]) (e2 oAddS (e2 oMul (eK (.int 2)) (e2 oPow (eK (.int 10)) (eK (.int 39)))) (eK (.int 1)))) (e2 oPow (eK (.int 10)) (eK (.int 39))))) sSkip) (sSeq (sAsg (gN 9) (eCall d_done [(eV 3), (eV 4), (eV 8)])) (sIf (eOr (e1 oNot (eCall d__law_whole [(eV 9)])) (e2 oNe (eV 9) (e2 oIx (eV 5) (e2 oMod (eV 8) (e1 oLen (eV 5)))))) (sRet (eK (.bool false))) sSkip)))))))))) (sRet (e2 oEq (eV 3) (eV 1)))))))
def d_law_k03 : List D → Rs D := runN 10 b_law_k03
/-- law -/
def b_law_k04 : DS := (sSeq (sAsg (gN 1) (eCall d__law_folk_by [(eV 0), (eK (.int 0))])) (sSeq (sAsg (gN 2) (e1 oLen (eV 1))) (sSeq (sAsg (gN 3) (e2 oMod (eCall d__law_cell_at [(eV 0), (eK (.int 2))]) (eV 2))) (sSeq (sAsg (gN 4) (e2 oMod (eCall d__law_cell_at [(eV 0), (eK (.int 3))]) (eV 2))) (sSeq (sAsg (gN 5) (e2 oSub (e2 oMod (eCall d__law_cell_at [(eV 0), (eK (.int 4))]) (e2 oAddS (e2 oMul (eK (.int 2)) (e2 oPow (eK (.int 10)) (eK (.int 38)))) (eK (.int 1)))) (e2 oPow (eK (.int 10)) (eK (.int 38))))) (sSeq (sAsg (gN 6) (e2 oSub (e2 oMod (eCall d__law_cell_at [(eV 0), (eK (.int 5))]) (e2 oAddS (e2 oMul (eK (.int 2)) (e2 oPow (eK (.int 10)) (eK (.int 38)))) (eK (.int 1)))) (e2 oPow (eK (.int 10)) (eK (.int 38))))) (sSeq (sIf (eOr (e2 oNe (e2 oMod (eV 2) (eCall d_order [(eV 1), (eV 3)])) (eK (.int 0))) (eOr (e2 oNe (eCall d_done [(eV 1), (eV 3), (eV 2)]) (eCall d_rest [(eV 1)])) (e2 oNe (eCall d_done [(eV 1), (eV 3), (eK (.int 0))]) (eCall d_rest [(eV 1)])))) (sRet (eK (.bool false))) sSkip) (sSeq (sIf (e2 oNe (eCall d_back [(eV 1), (e2 oIx (e2 oIx (eV 1) (eV 3)) (eV 4))]) (e2 oIx (e2 oIx (eV 1) (eCall d_back [(eV 1), (eV 4)])) (eCall d_back [(eV 1), (eV 3)]))) (sRet (eK (.bool false))) sSkip) (sSeq (sIf (eOr (e2 oNe (eCall d_back [(eV 1), (eCall d_back [(eV 1), (eV 3)])]) (eV 3)) (e2 oNe (eCall d_order [(eV 1), (eCall d_back [(eV 1), (eV 3)])]) (eCall d_order [(eV 1), (eV 3)]))) (sRet (eK (.bool false))) sSkip) (sSeq (sIf (e2 oNe (e2 oIx (e2 oIx (eV 1) (eCall d_done [(eV 1), (eV 3), (eV 5)])) (eCall d_done [(eV 1), (eV 3), (eV 6)])) (eCall d_done [(eV 1), (eV 3), (e2 oAddS (eV 5) (eV 6))])) (sRet (eK (.bool false))) sSkip) (sSeq (sIf (e2 oNe (eCall d_order [(eV 1), (e2 oIx (e2 oIx (eV 1) (eV 3)) (eV 4))]) (eCall d_order [(eV 1), (e2 oIx (e2 oIx (eV 1) (eV 4)) (eV 3))])) (sRet (eK (.bool false))) sSkip) (sRet (eAnd (e2 oEq (eCall d_done [(eV 1), (eV 3), (e2 oSub (eK (.int 0)) (eV 5))]) (eCall d_done [(eV 1), (eCall d_back [(eV 1), (eV 3)]), (eV 5)])) (e2 oEq (eCall d_done [(eV 1), (eV 3), (eK (.int 1))]) (eV 3)))))))))))))))
def d_law_k04 : List D → Rs D := runN 7 b_law_k04
/-- taken_in -/
def b_taken_in : DS := (sSeq (sAsg (gN 2) (e1 oListF (eV 1))) (sSeq (sFor (gN 3) (iL (eV 1)) (sExt 2 (eComp [4] (gN 4) (iL (eV 1)) eYes (e1 oFl (e2 oIx (e2 oIx (eV 0) (eV 3)) (eV 4)))))) (sRet (e1 oSSet (eV 2)))))
def d_taken_in : List D → Rs D := runN 5 b_taken_in
/-- grown -/
def b_grown : DS := (sSeq (sAsg (gN 2) (e1 oSSet (e2 oCatF (eV 1) (eLst [(e2 oIx (eCall d_rests [(eV 0)]) (eK (.int 0)))])))) (sSeq (sAsg (gN 3) (eCall d_taken_in [(eV 0), (eV 2)])) (sSeq (sWhile 1000 (e2 oNe (eV 3) (eV 2)) (sSeq (sAsg (gN 2) (eV 3)) (sAsg (gN 3) (eCall d_taken_in [(eV 0), (eV 2)])))) (sRet (eV 2)))))
def d_grown : List D → Rs D := runN 4 b_grown
/-- part_of -/
def b_part_of : DS := (sSeq (sDrop (eCall d_asked_folk [(eV 0)])) (sSeq (sFor (gN 2) (iL (eV 1)) (sDrop (eCall d_asked_element [(eV 0), (eV 2)]))) (sRet (eCall d_grown [(eV 0), (e1 oListF (eV 1))]))))
def d_part_of : List D → Rs D := runN 3 b_part_of
/-- _law_list -/
def b__law_list : DS := (sRet (eAnd (e1 isList (eV 0)) (e1 oAll (eComp [1] (gN 1) (iL (eV 0)) eYes (eCall d__law_whole [(eV 1)])))))
def d__law_list : List D → Rs D := runN 2 b__law_list
/-- _law_grown -/
def b__law_grown : DS := (sSeq (sAsg (gN 2) (e1 oListF (eV 1))) (sSeq (sIf (e2 oEq (eV 2) (eLst [])) (sAsg (gN 2) (eLst [(eCall d__law_still [(eV 0)])])) sSkip) (sSeq (sAsg (gN 3) (eK (.int 0))) (sSeq (sWhile 1000 (e2 oLt (eV 3) (e1 oLen (eV 2))) (sSeq (sAsg (gN 4) (e2 oIx (eV 2) (eV 3))) (sSeq (sFor (gN 5) (iL (e1 oListF (eV 2))) (sFor (gN 6) (iL (eLst [(e1 oFl (e2 oIx (e2 oIx (eV 0) (eV 4)) (eV 5))), (e1 oFl (e2 oIx (e2 oIx (eV 0) (eV 5)) (eV 4)))])) (sIf (e2 oNi (eV 6) (eV 2)) (sChg 2 cApp [(eV 6)]) sSkip))) (sAsg (gN 3) (e2 oAddS (eV 3) (eK (.int 1))))))) (sRet (e1 oSSet (eV 2)))))))
def d__law_grown : List D → Rs D := runN 7 b__law_grown
/-- law -/
def b_law_k05 : DS := (sSeq (sAsg (gN 1) (eCall d__law_folk_by [(eV 0), (eK (.int 0))])) (sSeq (sAsg (gN 2) (eComp [7] (gN 7) (iR1 (e2 oMod (eCall d__law_cell_at [(eV 0), (eK (.int 2))]) (eK (.int 5)))) eYes (e2 oMod (eCall d__law_draw [(eCall d__law_cell_at [(eV 0), (eK (.int 3))]), (eV 7), (eK (.int 12))]) (e1 oLen (eV 1))))) (sSeq (sAsg (gN 3) (eCall d__law_grown [(eV 1), (eV 2)])) (sSeq (sAsg (gN 4) (eLst [(eCall d__law_copy [(eV 1)]), (e1 oListF (eV 2))])) (sSeq (sFor (gN 5) (iR1 (eK (.int 2))) (sSeq (sAsg (gN 6) (eCall d_part_of [(e2 oIx (eV 4) (eK (.int 0))), (e2 oIx (eV 4) (eK (.int 1)))])) (sSeq (sIf (eOr (e1 oNot (eCall d__law_list [(eV 6)])) (eOr (e2 oNe (eV 6) (eV 3)) (e2 oNe (eV 4) (eLst [(eV 1), (eV 2)])))) (sRet (eK (.bool false))) sSkip) (sJunk 6 [(eK (.int 0))])))) (sRet (eK (.bool true))))))))
def d_law_k05 : List D → Rs D := runN 8 b_law_k05
/-- parts -/
def b_parts : DS := (sSeq (sDrop (eCall d_asked_folk [(eV 0)])) (sSeq (sAsg (gN 1) (eDT1 (e1 oTupF (eCall d_grown [(eV 0), (eLst [])])) (eK (.bool true)))) (sSeq (sAsg (gN 2) (eLst [(eCall d_grown [(eV 0), (eLst [])])])) (sSeq (sAsg (gN 3) (eK (.int 0))) (sSeq (sWhile 5000 (e2 oLt (eV 3) (e1 oLen (eV 2))) (sSeq (sFor (gN 4) (iR1 (e1 oLen (eV 0))) (sSeq (sAsg (gN 5) (eCall d_grown [(eV 0), (e2 oCat (e2 oIx (eV 2) (eV 3)) (eLst [(eV 4)]))])) (sIf (eDNi (e1 oTupF (eV 5)) 1) (sSeq (sDPutT 1 (e1 oTupF (eV 5)) (eK (.bool true))) (sChg 2 cApp [(eV 5)])) sSkip))) (sAsg (gN 3) (e2 oAddS (eV 3) (eK (.int 1)))))) (sRet (eComp [6, 7] (gT [6, 7]) (iL (e1 oSort (eComp [7] (gN 7) (iL (eV 2)) eYes (eTup [(e1 oLen (eV 7)), (eV 7)])))) eYes (eV 7))))))))
def d_parts : List D → Rs D := runN 8 b_parts
/-- _law_lists -/
def b__law_lists : DS := (sSeq (sIf (e1 oNot (e1 isList (eV 0))) (sRet (eK (.bool false))) sSkip) (sSeq (sFor (gN 1) (iL (eV 0)) (sIf (eOr (e1 oNot (e1 isList (eV 1))) (e1 oNot (e1 oAll (eComp [2] (gN 2) (iL (eV 1)) eYes (eCall d__law_whole [(eV 2)]))))) (sRet (eK (.bool false))) sSkip)) (sRet (eK (.bool true)))))
def d__law_lists : List D → Rs D := runN 3 b__law_lists
/-- _law_chosen -/
def b__law_chosen : DS := (sSeq (sAsg (gN 2) (eLst [(eLst [])])) (sSeq (sFor (gN 3) (iL (eV 0)) (sAsg (gN 2) (e2 oCat (eV 2) (eComp [4] (gN 4) (iL (eV 2)) (e2 oLt (e1 oLen (eV 4)) (eV 1)) (e2 oCat (eV 4) (eLst [(e1 oFl (eV 3))])))))) (sRet (eComp [4] (gN 4) (iL (eV 2)) (e2 oEq (e1 oLen (eV 4)) (eV 1)) (eV 4)))))
def d__law_chosen : List D → Rs D := runN 5 b__law_chosen
/-- _law_shut -/
def b__law_shut : DS := (sSeq (sFor (gN 2) (iL (eV 1)) (sFor (gN 3) (iL (eV 1)) (sIf (e2 oNi (e2 oIx (e2 oIx (eV 0) (eV 2)) (eV 3)) (eV 1)) (sRet (eK (.bool false))) sSkip))) (sRet (eK (.bool true))))
def d__law_shut : List D → Rs D := runN 4 b__law_shut
/-- _law_parts -/
def b__law_parts : DS := (sSeq (sAsg (gN 1) (eCall d__law_still [(eV 0)])) (sSeq (sAsg (gN 2) (eComp [6] (gN 6) (iR1 (e1 oLen (eV 0))) (e2 oNe (eV 6) (eV 1)) (eV 6))) (sSeq (sAsg (gN 3) (eLst [])) (sSeq (sFor (gN 4) (iR2 (eK (.int 1)) (e2 oAddS (e1 oLen (eV 0)) (eK (.int 1)))) (sIf (e2 oEq (e2 oMod (e1 oLen (eV 0)) (eV 4)) (eK (.int 0))) (sSeq (sAsg (gN 5) (eComp [7] (gN 7) (iL (eCall d__law_chosen [(eV 2), (e2 oSub (eV 4) (eK (.int 1)))])) eYes (e1 oSort (e2 oCat (eLst [(eV 1)]) (eV 7))))) (sAsg (gN 3) (e2 oCat (eV 3) (e1 oSort (eComp [7] (gN 7) (iL (eV 5)) (eCall d__law_shut [(eV 0), (eV 7)]) (eV 7)))))) sSkip)) (sRet (eV 3))))))
def d__law_parts : List D → Rs D := runN 8 b__law_parts
/-- law -/
def b_law_k06 : DS := (sSeq (sAsg (gN 1) (eCall d__law_folk_by [(eV 0), (eK (.int 0))])) (sSeq (sAsg (gN 2) (eCall d__law_parts [(eV 1)])) (sSeq (sAsg (gN 3) (eCall d__law_copy [(eV 1)])) (sSeq (sFor (gN 4) (iR1 (eK (.int 2))) (sSeq (sAsg (gN 5) (eCall d_parts [(eV 3)])) (sSeq (sIf (eOr (e1 oNot (eCall d__law_lists [(eV 5)])) (eOr (e2 oNe (eV 5) (eV 2)) (e2 oNe (eV 3) (eV 1)))) (sRet (eK (.bool false))) sSkip) (sSeq (sJunkAll 5) sSkip)))) (sRet (eK (.bool true)))))))
def d_law_k06 : List D → Rs D := runN 7 b_law_k06
/-- asked_part -/
def b_asked_part : DS := (sSeq (sDrop (eCall d_asked_folk [(eV 0)])) (sIf (eOr (e2 oEq (e1 oLen (eV 1)) (eK (.int 0))) (eOr (e2 oLt (e1 oMin (eV 1)) (eK (.int 0))) (eOr (e2 oGe (e1 oMax (eV 1)) (e1 oLen (eV 0))) (e2 oNe (eCall d_grown [(eV 0), (e1 oListF (eV 1))]) (e1 oListF (eV 1)))))) (sRaise .NoPart) sSkip))
def d_asked_part : List D → Rs D := runB 2 b_asked_part
/-- shares_by -/
def b_shares_by : DS := (sSeq (sAsg (gN 2) (eLst [])) (sSeq (sFor (gN 3) (iR1 (e1 oLen (eV 0))) (sSeq (sAsg (gN 4) (e1 oSort (eComp [5] (gN 5) (iL (eV 1)) eYes (e1 oFl (e2 oIx (e2 oIx (eV 0) (eV 3)) (eV 5)))))) (sIf (e2 oNi (eV 4) (eV 2)) (sChg 2 cApp [(eV 4)]) sSkip))) (sRet (e1 oSort (eV 2)))))
def d_shares_by : List D → Rs D := runN 6 b_shares_by
/-- shares -/
def b_shares : DS := (sSeq (sDrop (eCall d_asked_part [(eV 0), (eV 1)])) (sRet (eCall d_shares_by [(eV 0), (eV 1)])))
def d_shares : List D → Rs D := runN 2 b_shares
/-- law -/
def b_law_k07 : DS := (sSeq (sAsg (gN 1) (eCall d__law_folk_by [(eV 0), (eK (.int 0))])) (sSeq (sAsg (gN 2) (eCall d_parts [(eV 1)])) (sSeq (sFor (gN 3) (iL (eV 2)) (sIf (eOr (e2 oNe (e2 oMod (e1 oLen (eV 1)) (e1 oLen (eV 3))) (eK (.int 0))) (e2 oNi (eCall d_rest [(eV 1)]) (eV 3))) (sRet (eK (.bool false))) sSkip)) (sSeq (sAsg (gN 3) (e2 oIx (eV 2) (e2 oMod (eCall d__law_cell_at [(eV 0), (eK (.int 2))]) (e1 oLen (eV 2))))) (sSeq (sFor (gN 4) (iL (eV 3)) (sIf (eOr (e2 oNi (eCall d_back [(eV 1), (eV 4)]) (eV 3)) (e2 oGt (e1 oLen (eComp [8] (gN 8) (iL (eV 3)) (e2 oNi (e2 oIx (e2 oIx (eV 1) (eV 4)) (eV 8)) (eV 3)) (eV 8))) (eK (.int 0)))) (sRet (eK (.bool false))) sSkip)) (sSeq (sAsg (gN 5) (eCall d_shares [(eV 1), (e1 oListF (eV 3))])) (sSeq (sIf (eOr (e1 oNot (eCall d__law_lists [(eV 5)])) (eOr (e2 oNe (e2 oMul (e1 oLen (eV 5)) (e1 oLen (eV 3))) (e1 oLen (eV 1))) (e2 oNe (eV 5) (e1 oSort (eV 5))))) (sRet (eK (.bool false))) sSkip) (sSeq (sAsg (gN 6) (eLst [])) (sSeq (sFor (gN 7) (iL (eV 5)) (sSeq (sIf (eOr (e2 oNe (e1 oLen (eV 7)) (e1 oLen (eV 3))) (e2 oNe (eV 7) (e1 oSort (eV 7)))) (sRet (eK (.bool false))) sSkip) (sAsg (gN 6) (e2 oCat (eV 6) (eV 7))))) (sSeq (sIf (e2 oNe (e1 oSort (eV 6)) (e1 oLrg (e1 oLen (eV 1)))) (sRet (eK (.bool false))) sSkip) (sSeq (sAsg (gN 4) (e2 oMod (eCall d__law_cell_at [(eV 0), (eK (.int 3))]) (e1 oLen (eV 1)))) (sSeq (sAsg (gN 8) (e2 oMod (eCall d__law_cell_at [(eV 0), (eK (.int 4))]) (e1 oLen (eV 1)))) (sSeq (sAsg (gN 9) (e2 oEq (e1 oLen (eComp [7] (gN 7) (iL (eV 5)) (eAnd (e2 oIn (eV 4) (eV 7)) (e2 oIn (eV 8) (eV 7))) (eV 7))) (eK (.int 1)))) (sSeq (sIf (e2 oNe (eV 9) (e2 oIn (e2 oIx (e2 oIx (eV 1) (eCall d_back [(eV 1), (eV 4)])) (eV 8)) (eV 3))) (sRet (eK (.bool false))) sSkip) (sSeq (sAsg (gN 10) (e2 oIx (eV 2) (e2 oMod (eCall d__law_cell_at [(eV 0), (eK (.int 5))]) (e1 oLen (eV 2))))) (sRet (e2 oIn (eCall d_part_of [(eV 1), (e2 oCat (eV 3) (eV 10))]) (eV 2))))))))))))))))))
def d_law_k07 : List D → Rs D := runN 11 b_law_k07
/-- loose_by -/
def b_loose_by : DS := (sSeq (sFor (gN 2) (iR1 (e1 oLen (eV 0))) (sSeq (sAsg (gN 3) (e1 oSort (eComp [4] (gN 4) (iL (eV 1)) eYes (e1 oFl (e2 oIx (e2 oIx (eV 0) (eV 2)) (eV 4)))))) (sIf (e2 oNe (eV 3) (e1 oSort (eComp [4] (gN 4) (iL (eV 1)) eYes (e1 oFl (e2 oIx (e2 oIx (eV 0) (eV 4)) (eV 2)))))) (sRet (eK (.bool false))) sSkip))) (sRet (eK (.bool true))))
def d_loose_by : List D → Rs D := runN 5 b_loose_by
/-- is_loose -/
def b_is_loose : DS := (sSeq (sDrop (eCall d_asked_part [(eV 0), (eV 1)])) (sRet (eCall d_loose_by [(eV 0), (eV 1)])))
def d_is_loose : List D → Rs D := runN 2 b_is_loose
/-- taken_out -/
def b_taken_out : DS := (sSeq (sDrop (eCall d_asked_part [(eV 0), (eV 1)])) (sSeq (sIf (e1 oNot (eCall d_loose_by [(eV 0), (eV 1)])) (sRaise .NotLoose) sSkip) (sSeq (sAsg (gN 2) (eCall d_shares_by [(eV 0), (eV 1)])) (sSeq (sAsg (gN 3) eD0) (sSeq (sFor (gT [4, 5]) (iE (eV 2)) (sFor (gN 6) (iL (eV 5)) (sDPutK 3 (eV 6) (eV 4)))) (sRet (eComp [7] (gN 7) (iL (eV 2)) eYes (eComp [8] (gN 8) (iL (eV 2)) eYes (eDGet 3 (e2 oIx (e2 oIx (eV 0) (e2 oIx (eV 7) (eK (.int 0)))) (e2 oIx (eV 8) (eK (.int 0)))))))))))))
def d_taken_out : List D → Rs D := runN 9 b_taken_out
/-- _law_told -/
def b__law_told : DS := (sTryW (sRet (eCall d_taken_out [(eV 0), (eV 1)])) sSkip)
def d__law_told : List D → Rs D := runN 3 b__law_told
/-- _law_taken -/
def b__law_taken : DS := (sSeq (sAsg (gN 2) (eComp [4] (gN 4) (iL (eV 0)) eYes (eK (.int 0)))) (sSeq (sFor (gN 3) (iR1 (e1 oLen (eV 1))) (sFor (gN 4) (iL (e2 oIx (eV 1) (eV 3))) (sSetL 2 (eV 4) (eV 3)))) (sRet (eComp [5] (gN 5) (iL (eV 1)) eYes (eComp [6] (gN 6) (iL (eV 1)) eYes (e2 oIx (eV 2) (e2 oIx (e2 oIx (eV 0) (e2 oIx (eV 5) (eK (.int 0)))) (e2 oIx (eV 6) (e1 oNeg (eK (.int 1)))))))))))
def d__law_taken : List D → Rs D := runN 7 b__law_taken
/-- law -/
def b_law_k08 : DS := (sSeq (sAsg (gN 1) (eCall d__law_folk_by [(eV 0), (eK (.int 0))])) (sSeq (sAsg (gN 2) (eCall d__law_parts [(eV 1)])) (sSeq (sAsg (gN 3) (e2 oIx (eV 2) (e2 oMod (eCall d__law_cell_at [(eV 0), (eK (.int 2))]) (e1 oLen (eV 2))))) (sSeq (sAsg (gN 4) (eLst [])) (sSeq (sAsg (gN 5) (eK (.bool true))) (sSeq (sFor (gN 6) (iR1 (e1 oLen (eV 1))) (sSeq (sAsg (gN 7) (e1 oSort (eComp [13] (gN 13) (iL (eV 3)) eYes (e2 oIx (e2 oIx (eV 1) (eV 6)) (eV 13))))) (sSeq (sIf (e2 oNi (eV 7) (eV 4)) (sChg 4 cApp [(eV 7)]) sSkip) (sIf (e2 oNe (eV 7) (e1 oSort (eComp [13] (gN 13) (iL (eV 3)) eYes (e2 oIx (e2 oIx (eV 1) (eV 13)) (eV 6))))) (sAsg (gN 5) (eK (.bool false))) sSkip)))) (sSeq (sAsg (gN 4) (e1 oSort (eV 4))) (sSeq (sAsg (gN 8) (eLst [(eCall d__law_copy [(eV 1)]), (e1 oListF (eV 3))])) (sSeq (sFor (gN 9) (iR1 (eK (.int 2))) (sSeq (sAsg (gN 10) (eCall d_shares [(e2 oIx (eV 8) (eK (.int 0))), (e2 oIx (eV 8) (eK (.int 1)))])) (sSeq (sAsg (gN 11) (eCall d_is_loose [(e2 oIx (eV 8) (eK (.int 0))), (e2 oIx (eV 8) (eK (.int 1)))])) (sSeq (sAsg (gN 12) (eCall d__law_told [(e2 oIx (eV 8) (eK (.int 0))), (e2 oIx (eV 8) (eK (.int 1)))])) (sSeq (sIf (eOr (e1 oNot (eCall d__law_lists [(eV 10)])) (eOr (e2 oNe (eV 10) (eV 4)) (e2 oNe (eV 8) (eLst [(eV 1), (eV 3)])))) (sRet (eK (.bool false))) sSkip) (sSeq (sIf (eOr (e1 oNot (e1 isBool (eV 11))) (e2 oNe (eV 11) (eV 5))) (sRet (eK (.bool false))) sSkip) (sSeq (sIf (eAnd (e1 oNot (eV 5)) (e2 oNe (eV 12) (eK (.str "loose")))) (sRet (eK (.bool false))) sSkip) (sSeq (sIf (eV 5) (sSeq (sIf (eOr (e1 oNot (eCall d__law_lists [(eV 12)])) (e2 oNe (eV 12) (eCall d__law_taken [(eV 1), (eV 4)]))) (sRet (eK (.bool false))) sSkip) (sJunkR 12 (eK (.int 0)) (eK (.int 0)))) sSkip) (sJunkR 10 (eK (.int 0)) (eK (.int 0))))))))))) (sRet (eK (.bool true))))))))))))
def d_law_k08 : List D → Rs D := runN 14 b_law_k08
/-- middle -/
def b_middle : DS := (sSeq (sDrop (eCall d_asked_folk [(eV 0)])) (sSeq (sAsg (gN 1) (e1 oLrg (e1 oLen (eV 0)))) (sRet (eComp [2] (gN 2) (iL (eV 1)) (e1 oAll (eComp [3] (gN 3) (iL (eV 1)) eYes (e2 oEq (e2 oIx (e2 oIx (eV 0) (eV 2)) (eV 3)) (e2 oIx (e2 oIx (eV 0) (eV 3)) (eV 2))))) (eV 2)))))
def d_middle : List D → Rs D := runN 4 b_middle
/-- few_makers -/
def b_few_makers : DS := (sSeq (sAsg (gN 1) (eLst [])) (sSeq (sWhile 1000 (e2 oLt (e1 oLen (eCall d_grown [(eV 0), (eV 1)])) (e1 oLen (eV 0))) (sSeq (sAsg (gN 2) (eCall d_grown [(eV 0), (eV 1)])) (sChg 1 cApp [(e2 oIx (eComp [3] (gN 3) (iR1 (e1 oLen (eV 0))) (e2 oNi (eV 3) (eV 2)) (eV 3)) (eK (.int 0)))]))) (sRet (eV 1))))
def d_few_makers : List D → Rs D := runN 4 b_few_makers
/-- spread -/
def b_spread : DS := (sSeq (sAsg (gN 2) (e1 oDictC (eV 2))) (sSeq (sDPutK 2 (e2 oIx (eCall d_rests [(eV 0)]) (eK (.int 0))) (e2 oIx (eCall d_rests [(eV 1)]) (eK (.int 0)))) (sSeq (sAsg (gN 3) (e1 oKeysK (eV 2))) (sSeq (sWhile 1000 (e2 oGt (e1 oLen (eV 3)) (eK (.int 0))) (sSeq (sPop 3 4) (sFor (gN 5) (iL (e1 oKeysK (eV 2))) (sFor (gT [6, 7]) (iT (eTup [(eTup [(eV 4), (eV 5)]), (eTup [(eV 5), (eV 4)])])) (sSeq (sAsg (gN 8) (e2 oIx (e2 oIx (eV 0) (eV 6)) (eV 7))) (sSeq (sAsg (gN 9) (e2 oIx (e2 oIx (eV 1) (eDGet 2 (eV 6))) (eDGet 2 (eV 7)))) (sIf (eDNiK (eV 8) 2) (sSeq (sDPutK 2 (eV 8) (eV 9)) (sChg 3 cApp [(e1 oFl (eV 8))])) (sIf (e2 oNe (eDGet 2 (eV 8)) (eV 9)) (sRet (eK .none)) sSkip)))))))) (sSeq (sIf (e2 oLt (e1 oLenSet (eListVals 2)) (e1 oLenK (eV 2))) (sRet (eK .none)) sSkip) (sRet (eV 2)))))))
def d_spread : List D → Rs D := runN 10 b_spread
/-- tried -/
def b_tried (tr : List D → Rs D) : DS := (sSeq (sIf (e2 oEq (e1 oLen (eV 2)) (e1 oLenK (eV 3))) (sRet (eCall d_spread [(eV 0), (eV 1), (eV 3)])) sSkip) (sSeq (sAsg (gN 4) (e2 oIx (eV 2) (e1 oLenK (eV 3)))) (sSeq (sFor (gN 5) (iR1 (e1 oLen (eV 1))) (sIf (e2 oEq (e1 oLen (eCall d_row_of_times [(eV 1), (eV 5)])) (e1 oLen (eCall d_row_of_times [(eV 0), (eV 4)]))) (sSeq (sAsg (gN 6) (e1 oDictC (eV 3))) (sSeq (sDPutK 6 (eV 4) (eV 5)) (sIf (e2 oNoN (eCall d_spread [(eV 0), (eV 1), (eV 6)]) (eK .none)) (sSeq (sAsg (gN 7) (eCall tr [(eV 0), (eV 1), (eV 2), (eV 6)])) (sIf (e2 oNoN (eV 7) (eK .none)) (sRet (eV 7)) sSkip)) sSkip))) sSkip)) (sRet (eK .none)))))
def d_tried : Nat → List D → Rs D
  | 0 => fun _ => .no
  | k + 1 => runN 8 (b_tried (d_tried k))
/-- renaming -/
def b_renaming : DS := (sSeq (sDrop (eCall d_asked_folk [(eV 0)])) (sSeq (sDrop (eCall d_asked_folk [(eV 1)])) (sSeq (sIf (e2 oNe (e1 oLen (eV 0)) (e1 oLen (eV 1))) (sRet (eK .none)) sSkip) (sSeq (sAsg (gN 2) (eCall (d_tried 13) [(eV 0), (eV 1), (eCall d_few_makers [(eV 0)]), eD0])) (sSeq (sIf (e2 oIsN (eV 2) (eK .none)) (sRet (eK .none)) sSkip) (sRet (eComp [3] (gN 3) (iR1 (e1 oLen (eV 0))) eYes (eDGet 2 (eV 3)))))))))
def d_renaming : List D → Rs D := runN 4 b_renaming
/-- _law_place -/
def b__law_place : DS := (sRet (e2 oIx (eComp [2] (gN 2) (iR1 (e1 oLen (eV 0))) (e2 oIn (eV 1) (e2 oIx (eV 0) (eV 2))) (eV 2)) (eK (.int 0))))
def d__law_place : List D → Rs D := runN 3 b__law_place
/-- _law_right -/
def b__law_right : DS := (sSeq (sAsg (gN 4) (eCall d_taken_out [(eV 0), (e1 oListF (eV 1))])) (sSeq (sAsg (gN 5) (eCall d_shares [(eV 0), (e1 oListF (eV 1))])) (sSeq (sIf (eOr (e2 oNe (e1 oLen (eV 4)) (e1 oLen (eV 5))) (eOr (e2 oNoN (eCall d_flaw [(eV 4)]) (eK .none)) (e2 oNe (e2 oIx (eV 5) (eCall d_rest [(eV 4)])) (eV 1)))) (sRet (eK (.bool false))) sSkip) (sRet (e2 oEq (e2 oIx (e2 oIx (eV 4) (eCall d__law_place [(eV 5), (eV 2)])) (eCall d__law_place [(eV 5), (eV 3)])) (eCall d__law_place [(eV 5), (e2 oIx (e2 oIx (eV 0) (eV 2)) (eV 3))]))))))
def d__law_right : List D → Rs D := runN 6 b__law_right
/-- law -/
def b_law_k09 : DS := (sSeq (sAsg (gN 1) (eCall d__law_folk_by [(eV 0), (eK (.int 0))])) (sSeq (sAsg (gN 2) (e2 oMod (eCall d__law_cell_at [(eV 0), (eK (.int 2))]) (e1 oLen (eV 1)))) (sSeq (sAsg (gN 3) (e2 oMod (eCall d__law_cell_at [(eV 0), (eK (.int 3))]) (e1 oLen (eV 1)))) (sSeq (sAsg (gN 4) (eCall d_parts [(eV 1)])) (sSeq (sFor (gN 5) (iL (eLst [(eK (.int 0)), (e2 oMod (eCall d__law_cell_at [(eV 0), (eK (.int 4))]) (e1 oLen (eV 4))), (e2 oMod (eCall d__law_cell_at [(eV 0), (eK (.int 5))]) (e1 oLen (eV 4)))])) (sSeq (sAsg (gN 6) (e2 oIx (eV 4) (eV 5))) (sIf (eAnd (eCall d_is_loose [(eV 1), (e1 oListF (eV 6))]) (e1 oNot (eCall d__law_right [(eV 1), (eV 6), (eV 2), (eV 3)]))) (sRet (eK (.bool false))) sSkip))) (sSeq (sIf (eOr (e2 oNe (eCall d_taken_out [(eV 1), (e1 oLrg (e1 oLen (eV 1)))]) (eLst [(eLst [(eK (.int 0))])])) (e1 oNot (eCall d_is_loose [(eV 1), (eCall d_middle [(eV 1)])]))) (sRet (eK (.bool false))) sSkip) (sRet (eAnd (e2 oNoN (eCall d_renaming [(eCall d_taken_out [(eV 1), (eLst [(eCall d_rest [(eV 1)])])]), (eV 1)]) (eK .none)) (e2 oIn (eCall d_middle [(eV 1)]) (eV 4))))))))))
def d_law_k09 : List D → Rs D := runN 7 b_law_k09
/-- kinds_by -/
def b_kinds_by : DS := (sSeq (sAsg (gN 1) (e2 oIx (eCall d_rests [(eV 0)]) (eK (.int 0)))) (sSeq (sAsg (gN 2) (eLst [])) (sSeq (sFor (gN 3) (iR1 (e1 oLen (eV 0))) (sSeq (sAsg (gN 4) (e1 oSSet (eComp [5] (gN 5) (iR1 (e1 oLen (eV 0))) eYes (e1 oFl (e2 oIx (e2 oIx (eV 0) (e2 oIx (e2 oIx (eV 0) (eV 5)) (eV 3))) (e2 oIx (eCall d_backs [(eV 0), (eV 1), (eV 5)]) (eK (.int 0)))))))) (sIf (e2 oNi (eV 4) (eV 2)) (sChg 2 cApp [(eV 4)]) sSkip))) (sRet (e1 oSort (eV 2))))))
def d_kinds_by : List D → Rs D := runN 6 b_kinds_by
/-- kinds -/
def b_kinds : DS := (sSeq (sDrop (eCall d_asked_folk [(eV 0)])) (sRet (eCall d_kinds_by [(eV 0)])))
def d_kinds : List D → Rs D := runN 1 b_kinds
/-- law -/
def b_law_k10 : DS := (sSeq (sAsg (gN 1) (eCall d__law_folk_by [(eV 0), (eK (.int 0))])) (sSeq (sAsg (gN 2) (e1 oLrg (e1 oLen (eV 1)))) (sSeq (sAsg (gN 3) (eCall d__law_still [(eV 1)])) (sSeq (sAsg (gN 4) (eComp [13] (gN 13) (iL (eV 2)) eYes (e2 oIx (eComp [14] (gN 14) (iL (eV 2)) (e2 oEq (e2 oIx (e2 oIx (eV 1) (eV 13)) (eV 14)) (eV 3)) (eV 14)) (eK (.int 0))))) (sSeq (sAsg (gN 5) (eLst [])) (sSeq (sFor (gN 6) (iL (eV 2)) (sSeq (sAsg (gN 7) (e1 oSSet (eComp [13] (gN 13) (iL (eV 2)) eYes (e2 oIx (e2 oIx (eV 1) (e2 oIx (e2 oIx (eV 1) (eV 13)) (eV 6))) (e2 oIx (eV 4) (eV 13)))))) (sIf (e2 oNi (eV 7) (eV 5)) (sChg 5 cApp [(eV 7)]) sSkip))) (sSeq (sAsg (gN 8) (eComp [6] (gN 6) (iL (eV 2)) (e2 oEq (e1 oLen (eComp [13] (gN 13) (iL (eV 2)) (e2 oNe (e2 oIx (e2 oIx (eV 1) (eV 13)) (eV 6)) (e2 oIx (e2 oIx (eV 1) (eV 6)) (eV 13))) (eV 13))) (eK (.int 0))) (eV 6))) (sSeq (sAsg (gN 9) (eCall d__law_copy [(eV 1)])) (sSeq (sFor (gN 10) (iR1 (eK (.int 2))) (sSeq (sAsg (gN 11) (eCall d_kinds [(eV 9)])) (sSeq (sAsg (gN 12) (eCall d_middle [(eV 9)])) (sSeq (sIf (eOr (e1 oNot (eCall d__law_lists [(eV 11)])) (eOr (e2 oNe (eV 11) (e1 oSort (eV 5))) (e2 oNe (eV 9) (eV 1)))) (sRet (eK (.bool false))) sSkip) (sSeq (sIf (eOr (e1 oNot (eCall d__law_list [(eV 12)])) (eOr (e2 oNe (eV 12) (eV 8)) (e2 oNe (eV 12) (e1 oSort (eComp [7] (gN 7) (iL (eV 11)) (e2 oEq (e1 oLen (eV 7)) (eK (.int 1))) (e1 oFl (e2 oIx (eV 7) (eK (.int 0))))))))) (sRet (eK (.bool false))) sSkip) (sSeq (sIf (e2 oGt (e1 oLen (eComp [7] (gN 7) (iL (eV 11)) (e2 oNe (e2 oMod (e1 oLen (eV 1)) (e1 oLen (eV 7))) (eK (.int 0))) (e1 oFl (eV 7)))) (eK (.int 0))) (sRet (eK (.bool false))) sSkip) (sSeq (sJunkR 11 (eK (.int 0)) (eK (.int 0))) (sJunk 12 [(eK (.int 0))])))))))) (sRet (eK (.bool true))))))))))))
def d_law_k10 : List D → Rs D := runN 15 b_law_k10
/-- _law_is_renaming -/
def b__law_is_renaming : DS := (sSeq (sIf (eOr (e1 oNot (eCall d__law_list [(eV 2)])) (e2 oNe (e1 oSortF (eV 2)) (e1 oLrg (e1 oLen (eV 0))))) (sRet (eK (.bool false))) sSkip) (sSeq (sFor (gN 3) (iR1 (e1 oLen (eV 0))) (sFor (gN 4) (iR1 (e1 oLen (eV 0))) (sIf (e2 oNe (e2 oIx (eV 2) (e2 oIx (e2 oIx (eV 0) (eV 3)) (eV 4))) (e2 oIx (e2 oIx (eV 1) (e2 oIx (eV 2) (eV 3))) (e2 oIx (eV 2) (eV 4)))) (sRet (eK (.bool false))) sSkip))) (sRet (eK (.bool true)))))
def d__law_is_renaming : List D → Rs D := runN 5 b__law_is_renaming
/-- law -/
def b_law_k11 : DS := (sSeq (sAsg (gN 1) (e2 oMod (eCall d__law_cell_at [(eV 0), (eK (.int 0))]) (eK (.int 24)))) (sSeq (sAsg (gN 2) (eV 1)) (sSeq (sIf (e2 oEq (e2 oMod (eCall d__law_cell_at [(eV 0), (eK (.int 2))]) (eK (.int 3))) (eK (.int 1))) (sAsg (gN 2) (e2 oMod (e2 oDiv (eCall d__law_cell_at [(eV 0), (eK (.int 2))]) (eK (.int 3))) (eK (.int 24)))) sSkip) (sSeq (sIf (eAnd (e2 oEq (e2 oMod (e2 oDiv (eCall d__law_cell_at [(eV 0), (eK (.int 2))]) (eK (.int 72))) (eK (.int 3))) (eK (.int 1))) (e2 oNe (eV 2) (eV 1))) (sSeq (sAsg (gN 3) (eLst [(eTup [(eK (.int 3)), (eK (.int 4))]), (eTup [(eK (.int 6)), (eK (.int 17))]), (eTup [(eK (.int 8)), (eK (.int 9))]), (eTup [(eK (.int 9)), (eK (.int 10))]), (eTup [(eK (.int 18)), (eK (.int 21))]), (eTup [(eK (.int 8)), (eK (.int 21))])])) (sSeq (sAsg (gN 3) (e2 oCat (eV 3) (eLst [(eTup [(eK (.int 11)), (eK (.int 12))]), (eTup [(eK (.int 13)), (eK (.int 19))]), (eTup [(eK (.int 15)), (eK (.int 16))]), (eTup [(eK (.int 20)), (eK (.int 22))]), (eTup [(eK (.int 22)), (eK (.int 23))]), (eTup [(eK (.int 20)), (eK (.int 23))])]))) (sAsg (gT [1, 2]) (e2 oIx (eV 3) (e2 oMod (eCall d__law_cell_at [(eV 0), (eK (.int 3))]) (eK (.int 12))))))) sSkip) (sSeq (sAsg (gN 4) (eCall d__law_renamed [(eCall d__law_base [(eV 1)]), (eCall d__law_cell_at [(eV 0), (eK (.int 1))])])) (sSeq (sAsg (gN 5) (eCall d__law_renamed [(eCall d__law_base [(eV 2)]), (eCall d__law_cell_at [(eV 0), (eK (.int 4))])])) (sSeq (sAsg (gN 6) (eLst [(eCall d__law_copy [(eV 4)]), (eCall d__law_copy [(eV 5)])])) (sSeq (sFor (gN 7) (iR1 (eK (.int 2))) (sSeq (sAsg (gN 8) (eCall d_renaming [(e2 oIx (eV 6) (eK (.int 0))), (e2 oIx (eV 6) (eK (.int 1)))])) (sSeq (sIf (e2 oNe (eV 6) (eLst [(eV 4), (eV 5)])) (sRet (eK (.bool false))) sSkip) (sSeq (sIf (e2 oNe (eV 1) (eV 2)) (sRet (eAnd (e2 oIsN (eV 8) (eK .none)) (e2 oIsN (eCall d_renaming [(e2 oIx (eV 6) (eK (.int 1))), (e2 oIx (eV 6) (eK (.int 0)))]) (eK .none)))) sSkip) (sSeq (sIf (e1 oNot (eCall d__law_is_renaming [(eV 4), (eV 5), (eV 8)])) (sRet (eK (.bool false))) sSkip) (sJunk 8 [(eK (.int 0))])))))) (sRet (eCall d__law_is_renaming [(eV 5), (eV 4), (eCall d_renaming [(e2 oIx (eV 6) (eK (.int 1))), (e2 oIx (eV 6) (eK (.int 0)))])]))))))))))
def d_law_k11 : List D → Rs D := runN 9 b_law_k11
/-- beside -/
def b_beside : DS := (sSeq (sDrop (eCall d_asked_folk [(eV 0)])) (sSeq (sDrop (eCall d_asked_folk [(eV 1)])) (sSeq (sAsg (gN 2) (e1 oLen (eV 0))) (sSeq (sIf (e2 oGt (e2 oMul (eV 2) (e1 oLen (eV 1))) (eK (.int 12))) (sRaise .TooLarge) sSkip) (sSeq (sAsg (gN 3) (eLst [])) (sSeq (sFor (gN 4) (iR1 (e2 oMul (eV 2) (e1 oLen (eV 1)))) (sSeq (sAsg (gN 5) (eLst [])) (sSeq (sFor (gN 6) (iR1 (e2 oMul (eV 2) (e1 oLen (eV 1)))) (sSeq (sAsg (gN 7) (e2 oIx (e2 oIx (eV 0) (e2 oMod (eV 4) (eV 2))) (e2 oMod (eV 6) (eV 2)))) (sChg 5 cApp [(e2 oAddS (eV 7) (e2 oMul (eV 2) (e2 oIx (e2 oIx (eV 1) (e2 oDiv (eV 4) (eV 2))) (e2 oDiv (eV 6) (eV 2)))))]))) (sChg 3 cApp [(eV 5)])))) (sRet (eV 3))))))))
def d_beside : List D → Rs D := runN 8 b_beside
/-- _law_told -/
def b__law_told_k12 : DS := (sTryW (sRet (eCall d_beside [(eV 0), (eV 1)])) sSkip)
def d__law_told_k12 : List D → Rs D := runN 3 b__law_told_k12
/-- _law_both -/
def b__law_both : DS := (sSeq (sAsg (gN 2) (e1 oLen (eV 0))) (sSeq (sAsg (gN 3) (eLst [])) (sSeq (sFor (gN 4) (iR1 (e2 oMul (eV 2) (e1 oLen (eV 1)))) (sSeq (sAsg (gN 5) (eLst [])) (sSeq (sFor (gN 6) (iR1 (e2 oMul (eV 2) (e1 oLen (eV 1)))) (sSeq (sAsg (gN 7) (e2 oIx (e2 oIx (eV 0) (e2 oMod (eV 4) (eV 2))) (e2 oMod (eV 6) (eV 2)))) (sChg 5 cApp [(e2 oAddS (eV 7) (e2 oMul (eV 2) (e2 oIx (e2 oIx (eV 1) (e2 oDiv (eV 4) (eV 2))) (e2 oDiv (eV 6) (eV 2)))))]))) (sChg 3 cApp [(eV 5)])))) (sRet (eV 3)))))
def d__law_both : List D → Rs D := runN 8 b__law_both
/-- law -/
def b_law_k12 : DS := (sSeq (sAsg (gN 1) (eCall d__law_folk_by [(eV 0), (eK (.int 0))])) (sSeq (sAsg (gN 2) (eCall d__law_renamed [(eCall d__law_base [(e2 oMod (eCall d__law_cell_at [(eV 0), (eK (.int 2))]) (eK (.int 24)))]), (eCall d__law_cell_at [(eV 0), (eK (.int 3))])])) (sSeq (sIf (e2 oGt (e2 oMod (eCall d__law_cell_at [(eV 0), (eK (.int 4))]) (eK (.int 4))) (eK (.int 0))) (sSeq (sAsg (gN 1) (eCall d__law_renamed [(eCall d__law_base [(e2 oMod (eCall d__law_cell_at [(eV 0), (eK (.int 0))]) (eK (.int 5)))]), (eCall d__law_cell_at [(eV 0), (eK (.int 1))])])) (sAsg (gN 2) (eCall d__law_renamed [(eCall d__law_base [(e2 oMod (eCall d__law_cell_at [(eV 0), (eK (.int 2))]) (eK (.int 8)))]), (eCall d__law_cell_at [(eV 0), (eK (.int 3))])]))) sSkip) (sSeq (sAsg (gN 3) (eLst [(eCall d__law_copy [(eV 1)]), (eCall d__law_copy [(eV 2)])])) (sSeq (sAsg (gN 4) (eCall d__law_told_k12 [(e2 oIx (eV 3) (eK (.int 0))), (e2 oIx (eV 3) (eK (.int 1)))])) (sSeq (sIf (e2 oNe (eV 3) (eLst [(eV 1), (eV 2)])) (sRet (eK (.bool false))) sSkip) (sSeq (sIf (e2 oGt (e2 oMul (e1 oLen (eV 1)) (e1 oLen (eV 2))) (eK (.int 12))) (sRet (e2 oEq (eV 4) (eK (.str "large")))) sSkip) (sSeq (sAsg (gN 5) (eCall d__law_both [(eV 1), (eV 2)])) (sSeq (sIf (eOr (e1 oNot (eCall d__law_lists [(eV 4)])) (eOr (e2 oNe (eV 4) (eV 5)) (e2 oNoN (eCall d_flaw [(eV 4)]) (eK .none)))) (sRet (eK (.bool false))) sSkip) (sSeq (sAsg (gN 6) (e2 oMod (eCall d__law_cell_at [(eV 0), (eK (.int 5))]) (e1 oLen (eV 1)))) (sSeq (sAsg (gN 7) (e2 oMod (eCall d__law_cell_at [(eV 0), (eK (.int 6))]) (e1 oLen (eV 2)))) (sSeq (sAsg (gN 8) (eK (.int 1))) (sSeq (sWhile 1000 (eOr (e2 oNe (e2 oMod (eV 8) (eCall d_order [(eV 1), (eV 6)])) (eK (.int 0))) (e2 oNe (e2 oMod (eV 8) (eCall d_order [(eV 2), (eV 7)])) (eK (.int 0)))) (sAsg (gN 8) (e2 oAddS (eV 8) (eK (.int 1))))) (sSeq (sIf (e2 oNe (eCall d_order [(eV 5), (e2 oAddS (eV 6) (e2 oMul (e1 oLen (eV 1)) (eV 7)))]) (eV 8)) (sRet (eK (.bool false))) sSkip) (sSeq (sIf (e2 oIsN (eCall d_renaming [(eV 5), (eCall d_beside [(eV 2), (eV 1)])]) (eK .none)) (sRet (eK (.bool false))) sSkip) (sSeq (sJunkR 4 (eK (.int 0)) (eK (.int 0))) (sRet (eAnd (e2 oEq (eCall d__law_told_k12 [(e2 oIx (eV 3) (eK (.int 0))), (e2 oIx (eV 3) (eK (.int 1)))]) (eV 5)) (e2 oEq (eV 3) (eLst [(eV 1), (eV 2)]))))))))))))))))))))
def d_law_k12 : List D → Rs D := runN 9 b_law_k12
/-- shown -/
def b_shown : DS := (sSeq (sDrop (eCall d_asked_table [(eV 0)])) (sRet (eJoin (eK (.str "/")) (eComp [1] (gN 1) (iL (eV 0)) eYes (eJoin (eK (.str " ")) (eComp [2] (gN 2) (iL (eV 1)) eYes (e1 oStr (eV 2))))))))
def d_shown : List D → Rs D := runN 3 b_shown
/-- number_of -/
def b_number_of : DS := (sSeq (sIf (eOr (e1 oNot (eCh oLe oLe (eK (.int 1)) (e1 oLen (eV 0)) (eK (.int 2)))) (eAnd (e2 oEq (e2 oIx (eV 0) (eK (.int 0))) (eK (.str "0"))) (e2 oGt (e1 oLen (eV 0)) (eK (.int 1))))) (sRaise .NoNote) sSkip) (sSeq (sFor (gN 1) (iS (eV 0)) (sIf (e2 oNiS (eV 1) (eK (.str "0123456789"))) (sRaise .NoNote) sSkip)) (sRet (e1 oIntS (eV 0)))))
def d_number_of : List D → Rs D := runN 2 b_number_of
/-- read -/
def b_read : DS := (sSeq (sAsg (gN 1) (eComp [2] (gN 2) (iL (eSplit (eV 0) (eK (.str "/")))) eYes (eComp [3] (gN 3) (iL (eSplit (eV 2) (eK (.str " ")))) eYes (eCall d_number_of [(eV 3)])))) (sSeq (sIf (e1 oNot (eCall d_is_table [(eV 1)])) (sRaise .NoNote) sSkip) (sRet (eV 1))))
def d_read : List D → Rs D := runN 4 b_read
/-- law -/
def b_law_k13 : DS := (sSeq (sAsg (gN 1) (eCall d__law_folk_by [(eV 0), (eK (.int 0))])) (sSeq (sIf (e2 oEq (e2 oMod (eCall d__law_cell_at [(eV 0), (eK (.int 2))]) (eK (.int 2))) (eK (.int 1))) (sSeq (sAsg (gN 2) (e2 oAddS (eK (.int 1)) (e2 oMod (e2 oDiv (eCall d__law_cell_at [(eV 0), (eK (.int 2))]) (eK (.int 2))) (eK (.int 12))))) (sSeq (sAsg (gN 3) (eCall d__law_cell_at [(eV 0), (eK (.int 1))])) (sAsg (gN 1) (eComp [5] (gN 5) (iR1 (eV 2)) eYes (eComp [6] (gN 6) (iR1 (eV 2)) eYes (eCall d__law_draw [(eV 3), (e2 oAddS (e2 oMul (eV 5) (eV 2)) (eV 6)), (eV 2)])))))) sSkip) (sSeq (sAsg (gN 4) (eK (.str ""))) (sSeq (sFor (gN 5) (iR1 (e1 oLen (eV 1))) (sSeq (sIf (e2 oGt (eV 5) (eK (.int 0))) (sAsg (gN 4) (e2 oAddS (eV 4) (eK (.str "/")))) sSkip) (sFor (gN 6) (iR1 (e1 oLen (eV 1))) (sAsg (gN 4) (e2 oAddS (e2 oAddS (eV 4) (e2 oIx (eLst [(eK (.str " ")), (eK (.str ""))]) (e1 oIntB (e2 oEq (eV 6) (eK (.int 0)))))) (e1 oStr (e2 oIx (e2 oIx (eV 1) (eV 5)) (eV 6)))))))) (sSeq (sAsg (gN 7) (eCall d__law_copy [(eV 1)])) (sSeq (sAsg (gN 8) (eCall d_shown [(eV 7)])) (sSeq (sIf (eOr (e1 oNot (e1 isStr (eV 8))) (eOr (e2 oNe (eV 8) (eV 4)) (e2 oNe (eV 7) (eV 1)))) (sRet (eK (.bool false))) sSkip) (sSeq (sFor (gN 9) (iR1 (eK (.int 2))) (sSeq (sAsg (gN 10) (eCall d_read [(eV 4)])) (sSeq (sIf (eOr (e1 oNot (eCall d__law_lists [(eV 10)])) (e2 oNe (e1 oLen (eV 10)) (e1 oLen (eV 1)))) (sRet (eK (.bool false))) sSkip) (sSeq (sFor (gN 5) (iR1 (e1 oLen (eV 1))) (sSeq (sIf (e2 oNe (e2 oIx (eV 10) (eV 5)) (e2 oIx (eV 1) (eV 5))) (sRet (eK (.bool false))) sSkip) (sAppR 10 (eV 5) (eK (.int 0))))) (sAppO 10 (eLst [])))))) (sRet (eK (.bool true)))))))))))
def d_law_k13 : List D → Rs D := runN 11 b_law_k13
/-- read -/
def b_readX : DS := (sSeq (sAsg (gN 1) (eCompX [2] (gN 2) (iL (eSplit (eV 0) (eK (.str "/")))) (eCompX [3] (gN 3) (iL (eSplit (eV 2) (eK (.str " ")))) (eCall d_number_of [(eV 3)])))) (sSeq (sIf (e1 oNot (eCall d_is_table [(eV 1)])) (sRaise .NoNote) sSkip) (sRet (eV 1))))
def d_readX : List D → Rs D := runN 4 b_readX
/-- _law_due -/
def b__law_due : DS := (sSeq (sAsg (gN 1) (eLst [])) (sSeq (sFor (gN 2) (iL (eSplit (eV 0) (eK (.str "/")))) (sSeq (sAsg (gN 3) (eLst [])) (sSeq (sFor (gN 4) (iL (eSplit (eV 2) (eK (.str " ")))) (sSeq (sIf (eOr (e2 oEq (eV 4) (eK (.str ""))) (eOr (e2 oGt (e1 oLen (eV 4)) (eK (.int 40))) (eAnd (e2 oGt (e1 oLen (eV 4)) (eK (.int 1))) (e2 oEq (e2 oIx (eV 4) (eK (.int 0))) (eK (.str "0")))))) (sRet (eK .none)) sSkip) (sSeq (sIf (e2 oGt (e1 oLen (eComp [6] (gN 6) (iS (eV 4)) (e2 oLt (eFind (eK (.str "0123456789")) (eV 6)) (eK (.int 0))) (eV 6))) (eK (.int 0))) (sRet (eK .none)) sSkip) (sChg 3 cApp [(e1 oIntS (eV 4))])))) (sChg 1 cApp [(eV 3)])))) (sSeq (sAsg (gN 5) (e1 oLen (eV 1))) (sSeq (sFor (gN 3) (iL (eV 1)) (sIf (eOr (e2 oNe (e1 oLen (eV 3)) (eV 5)) (e2 oGe (e1 oMax (eV 3)) (eV 5))) (sRet (eK .none)) sSkip)) (sSeq (sIf (e2 oGt (eV 5) (eK (.int 12))) (sRet (eK .none)) sSkip) (sRet (eV 1)))))))
def d__law_due : List D → Rs D := runN 7 b__law_due
/-- _law_told -/
def b__law_told_k14 : DS := (sTryW (sRet (eCall d_readX [(eV 0)])) sSkip)
def d__law_told_k14 : List D → Rs D := runN 2 b__law_told_k14
/-- _law_spoilt -/
def b__law_spoilt : DS := (sSeq (sAsg (gN 2) (eLst [(eK (.str " ")), (eK (.str "0")), (eK (.str "1")), (eK (.str "2")), (eK (.str "9")), (eK (.str "-")), (eK (.str "+")), (eK (.str "_")), (eK (.str ".")), (eK (.str "\t")), (eK (.str "\n")), (eK (.str "a")), (eK (.str ",")), (eK (.str "/")), (eK (.str "3")), (eK (.str "8"))])) (sSeq (sAsg (gN 3) (e2 oIx (eV 2) (e2 oMod (eCall d__law_cell_at [(eV 0), (eK (.int 4))]) (eK (.int 16))))) (sSeq (sAsg (gN 4) (e2 oMod (eCall d__law_cell_at [(eV 0), (eK (.int 5))]) (e2 oAddS (e1 oLen (eV 1)) (eK (.int 1))))) (sSeq (sAsg (gN 5) (e2 oMod (eCall d__law_cell_at [(eV 0), (eK (.int 6))]) (eK (.int 4)))) (sSeq (sIf (e2 oEq (eV 5) (eK (.int 0))) (sRet (e2 oAddS (e2 oAddS (eSlS (eV 1) none (some (eV 4))) (eV 3)) (eSlS (eV 1) (some (eV 4)) none))) sSkip) (sSeq (sIf (e2 oEq (eV 5) (eK (.int 1))) (sRet (e2 oAddS (eSlS (eV 1) none (some (eV 4))) (eSlS (eV 1) (some (e2 oAddS (eV 4) (eK (.int 1)))) none))) sSkip) (sSeq (sIf (e2 oEq (eV 5) (eK (.int 2))) (sRet (e2 oAddS (e2 oAddS (eSlS (eV 1) none (some (eV 4))) (eV 3)) (eSlS (eV 1) (some (e2 oAddS (eV 4) (eK (.int 1)))) none))) sSkip) (sSeq (sAsg (gN 6) (eLst [(eK (.str "")), (eK (.str " ")), (eK (.str "0")), (eK (.str "1")), (eK (.str "00")), (eK (.str "0 1/1 0")), (eK (.str "0 1/1 0/")), (eK (.str "/0")), (eK (.str "0 1/1  0")), (eK (.str "0 1 /1 0")), (eK (.str "0 1/1 2")), (eK (.str "0 1/1")), (eK (.str "01 1/1 0"))])) (sSeq (sAsg (gN 6) (e2 oCat (eV 6) (eLst [(eK (.str "0 1/1_0 0")), (eK (.str "+0")), (eK (.str "0\n")), (eK (.str "0 1\t1 0")), (eJoin (eK (.str "/")) (e2 oRep (eLst [(eJoin (eK (.str " ")) (e2 oRep (eLst [(eK (.str "0"))]) (eK (.int 13))))]) (eK (.int 13)))), (eK (.str "-0")), (eK (.str "0 1/1 00"))]))) (sRet (e2 oIx (eV 6) (e2 oMod (eCall d__law_cell_at [(eV 0), (eK (.int 7))]) (eK (.int 20))))))))))))))
def d__law_spoilt : List D → Rs D := runN 7 b__law_spoilt
/-- law -/
def b_law_k14 : DS := (sSeq (sAsg (gN 1) (e2 oAddS (eK (.int 1)) (e2 oMod (eCall d__law_cell_at [(eV 0), (eK (.int 0))]) (eK (.int 12))))) (sSeq (sAsg (gN 2) (eCall d__law_cell_at [(eV 0), (eK (.int 1))])) (sSeq (sAsg (gN 3) (eComp [7] (gN 7) (iR1 (eV 1)) eYes (eComp [8] (gN 8) (iR1 (eV 1)) eYes (eCall d__law_draw [(eV 2), (e2 oAddS (e2 oMul (eV 7) (eV 1)) (eV 8)), (eV 1)])))) (sSeq (sAsg (gN 4) (eJoin (eK (.str "/")) (eComp [9] (gN 9) (iL (eV 3)) eYes (eJoin (eK (.str " ")) (eComp [10] (gN 10) (iL (eV 9)) eYes (e1 oStr (eV 10))))))) (sSeq (sIf (e2 oGt (e2 oMod (eCall d__law_cell_at [(eV 0), (eK (.int 3))]) (eK (.int 4))) (eK (.int 0))) (sAsg (gN 4) (eCall d__law_spoilt [(eV 0), (eV 4)])) sSkip) (sSeq (sAsg (gN 5) (eCall d__law_due [(eV 4)])) (sSeq (sAsg (gN 6) (eCall d__law_told_k14 [(eV 4)])) (sSeq (sIf (e2 oIsN (eV 5) (eK .none)) (sRet (e2 oEq (eV 6) (eK (.str "note")))) sSkip) (sRet (eAnd (e1 isList (eV 6)) (e2 oEq (eV 6) (eV 5))))))))))))
def d_law_k14 : List D → Rs D := runN 11 b_law_k14
/-- _law_first -/
def b__law_first : DS := (sSeq (sIf (e2 oEq (eV 0) (eK (.int 0))) (sDrop (eCall d_flaw [(eV 1)])) sSkip) (sSeq (sIf (e2 oEq (eV 0) (eK (.int 1))) (sDrop (eCall d_shown [(eV 1)])) sSkip) (sSeq (sIf (e2 oEq (eV 0) (eK (.int 2))) (sDrop (eCall d_rest [(eV 1)])) sSkip) (sSeq (sIf (e2 oEq (eV 0) (eK (.int 3))) (sDrop (eCall d_parts [(eV 1)])) sSkip) (sSeq (sIf (e2 oEq (eV 0) (eK (.int 4))) (sDrop (eCall d_kinds [(eV 1)])) sSkip) (sSeq (sIf (e2 oEq (eV 0) (eK (.int 5))) (sDrop (eCall d_middle [(eV 1)])) sSkip) (sSeq (sIf (e2 oEq (eV 0) (eK (.int 6))) (sDrop (eCall d_back [(eV 1), (eV 2)])) sSkip) (sSeq (sIf (e2 oEq (eV 0) (eK (.int 7))) (sDrop (eCall d_order [(eV 1), (eV 2)])) sSkip) (sSeq (sIf (e2 oEq (eV 0) (eK (.int 8))) (sDrop (eCall d_done [(eV 1), (eV 2), (eK (.int 5))])) sSkip) (sIf (e2 oEq (eV 0) (eK (.int 9))) (sDrop (eCall d_part_of [(eV 1), (eLst [(eK (.int 0)), (e1 oFl (eV 2))])])) sSkip))))))))))
def d__law_first : List D → Rs D := runB 3 b__law_first
/-- _law_second -/
def b__law_second : DS := (sSeq (sAsg (gN 3) (eLst [(eLst [(eK (.int 0)), (eK (.int 1))]), (eLst [(eK (.int 1)), (eK (.int 0))])])) (sSeq (sIf (e2 oEq (eV 0) (eK (.int 10))) (sDrop (eCall d_shares [(eV 1), (eV 2)])) sSkip) (sSeq (sIf (e2 oEq (eV 0) (eK (.int 11))) (sDrop (eCall d_is_loose [(eV 1), (eV 2)])) sSkip) (sSeq (sIf (e2 oEq (eV 0) (eK (.int 12))) (sDrop (eCall d_taken_out [(eV 1), (eV 2)])) sSkip) (sSeq (sIf (e2 oEq (eV 0) (eK (.int 13))) (sDrop (eCall d_renaming [(eV 1), (eV 3)])) sSkip) (sSeq (sIf (e2 oEq (eV 0) (eK (.int 14))) (sDrop (eCall d_renaming [(eV 3), (eV 1)])) sSkip) (sSeq (sIf (e2 oEq (eV 0) (eK (.int 15))) (sDrop (eCall d_beside [(eV 1), (eV 3)])) sSkip) (sIf (e2 oEq (eV 0) (eK (.int 16))) (sDrop (eCall d_beside [(eV 3), (eV 1)])) sSkip))))))))
def d__law_second : List D → Rs D := runB 4 b__law_second
/-- _law_tried -/
def b__law_tried : DS := (sTryW (sSeq (sDrop (eCall d__law_first [(eV 0), (eV 1), (eV 2)])) (sDrop (eCall d__law_second [(eV 0), (eV 1), (eV 3)]))) (sRet (eK (.str "done"))))
def d__law_tried : List D → Rs D := runN 5 b__law_tried
/-- _law_bad_table -/
def b__law_bad_table : DS := (sSeq (sAsg (gN 3) (e2 oMod (eCall d__law_cell_at [(eV 0), (eK (.int 4))]) (e1 oLen (eV 1)))) (sSeq (sAsg (gN 4) (e2 oMod (eCall d__law_cell_at [(eV 0), (eK (.int 5))]) (e1 oLen (eV 1)))) (sSeq (sAsg (gN 5) (e2 oMod (eCall d__law_cell_at [(eV 0), (eK (.int 6))]) (e2 oPow (eK (.int 10)) (eK (.int 38))))) (sSeq (sAsg (gN 6) (eCall d__law_copy [(eV 1)])) (sSeq (sIf (e2 oEq (eV 2) (eK (.int 0))) (sRet (eLst [])) sSkip) (sSeq (sIf (e2 oEq (eV 2) (eK (.int 1))) (sChgR 6 (eV 3) cPopAt [(eV 4)]) sSkip) (sSeq (sIf (e2 oEq (eV 2) (eK (.int 2))) (sChgR 6 (eV 3) cIns [(eV 4), (eK (.int 0))]) sSkip) (sSeq (sIf (e2 oEq (eV 2) (eK (.int 3))) (sRet (e2 oCat (eV 6) (eLst [(eComp [7] (gN 7) (iL (eV 1)) eYes (eK (.int 0)))]))) sSkip) (sSeq (sIf (e2 oEq (eV 2) (eK (.int 4))) (sSetR 6 (eV 3) (eV 4) (e2 oIx (eLst [(e2 oAddS (e1 oLen (eV 1)) (eV 5)), (e2 oSub (e1 oNeg (eK (.int 1))) (eV 5))]) (e2 oMod (eCall d__law_cell_at [(eV 0), (eK (.int 6))]) (eK (.int 2))))) sSkip) (sSeq (sIf (e2 oEq (eV 2) (eK (.int 5))) (sRet (eComp [8] (gN 8) (iR1 (eK (.int 13))) eYes (eComp [9] (gN 9) (iR1 (eK (.int 13))) eYes (e2 oMod (e2 oAddS (eV 8) (eV 9)) (eK (.int 13)))))) sSkip) (sRet (eV 6))))))))))))
def d__law_bad_table : List D → Rs D := runN 10 b__law_bad_table
/-- _law_bad_part -/
def b__law_bad_part : DS := (sSeq (sAsg (gN 4) (e2 oMod (eCall d__law_cell_at [(eV 0), (eK (.int 6))]) (e2 oPow (eK (.int 10)) (eK (.int 38))))) (sSeq (sAsg (gN 5) (eCall d__law_still [(eV 1)])) (sSeq (sAsg (gN 6) (eComp [8] (gN 8) (iR1 (e1 oLen (eV 1))) (e2 oNe (eV 8) (eV 5)) (eV 8))) (sSeq (sIf (e2 oEq (eV 3) (eK (.int 0))) (sRet (eLst [])) sSkip) (sSeq (sIf (e2 oEq (eV 3) (eK (.int 1))) (sRet (e2 oCatF (eV 2) (eLst [(e1 oFl (e2 oIx (eV 2) (e1 oNeg (eK (.int 1)))))]))) sSkip) (sSeq (sIf (e2 oEq (eV 3) (eK (.int 2))) (sRet (e2 oCatF (eV 2) (eLst [(e2 oAddS (e1 oLen (eV 1)) (eV 4))]))) sSkip) (sSeq (sIf (e2 oEq (eV 3) (eK (.int 3))) (sRet (e2 oCatF (eLst [(e2 oSub (e1 oNeg (eK (.int 1))) (eV 4))]) (eV 2))) sSkip) (sSeq (sIf (eAnd (e2 oEq (eV 3) (eK (.int 4))) (e2 oGt (e1 oLen (eV 2)) (eK (.int 1)))) (sRet (e2 oCat (eSlF (eV 2) (some (eK (.int 1))) none) (eSlF (eV 2) none (some (eK (.int 1)))))) sSkip) (sSeq (sIf (e2 oEq (eV 3) (eK (.int 5))) (sFor (gN 7) (iR1 (e1 oLen (eV 1))) (sSeq (sAsg (gN 8) (e2 oMod (e2 oAddS (eV 4) (eV 7)) (e1 oLen (eV 1)))) (sIf (e2 oNi (e2 oIx (e2 oIx (eV 1) (eV 8)) (eV 8)) (eLst [(eV 5), (eV 8)])) (sRet (e1 oSort (eLst [(eV 5), (eV 8)]))) sSkip))) sSkip) (sSeq (sIf (eAnd (e2 oEq (eV 3) (eK (.int 5))) (e2 oGt (e1 oLen (eV 6)) (eK (.int 1)))) (sRet (e1 oSort (e2 oCat (eLst [(eV 5)]) (eSl (eV 6) none (some (eK (.int 2))))))) sSkip) (sRet (eComp [8] (gN 8) (iL (eV 2)) (e2 oNe (eV 8) (eV 5)) (e1 oFl (eV 8))))))))))))))
def d__law_bad_part : List D → Rs D := runN 9 b__law_bad_part
/-- law -/
def b_law_k15 : DS := (sSeq (sAsg (gN 1) (eCall d__law_folk_by [(eV 0), (eK (.int 0))])) (sSeq (sAsg (gN 2) (eCall d__law_parts [(eV 1)])) (sSeq (sAsg (gN 3) (e2 oIx (eV 2) (e2 oMod (eCall d__law_cell_at [(eV 0), (eK (.int 2))]) (e1 oLen (eV 2))))) (sSeq (sAsg (gN 4) (e2 oMod (eCall d__law_cell_at [(eV 0), (eK (.int 6))]) (e2 oPow (eK (.int 10)) (eK (.int 38))))) (sSeq (sAsg (gN 5) (e2 oMod (eCall d__law_cell_at [(eV 0), (eK (.int 3))]) (e1 oLen (eV 1)))) (sSeq (sAsg (gN 6) (eLst [(eK (.str "done")), (eK (.str "done")), (eK (.str "done")), (eK (.str "done"))])) (sSeq (sIf (e2 oEq (e2 oMod (eCall d__law_cell_at [(eV 0), (eK (.int 7))]) (eK (.int 3))) (eK (.int 1))) (sSeq (sAsg (gN 5) (e2 oIx (eLst [(e1 oNeg (eK (.int 1))), (e1 oLen (eV 1)), (e2 oSub (e1 oNeg (eK (.int 1))) (eV 4)), (e2 oAddS (e1 oLen (eV 1)) (eV 4))]) (e2 oMod (e2 oDiv (eCall d__law_cell_at [(eV 0), (eK (.int 7))]) (eK (.int 3))) (eK (.int 4))))) (sSetL 6 (eK (.int 2)) (eK (.str "element")))) sSkip) (sSeq (sIf (e2 oEq (e2 oMod (eCall d__law_cell_at [(eV 0), (eK (.int 8))]) (eK (.int 3))) (eK (.int 1))) (sSeq (sAsg (gN 3) (eCall d__law_bad_part [(eV 0), (eV 1), (eV 3), (e2 oMod (e2 oDiv (eCall d__law_cell_at [(eV 0), (eK (.int 8))]) (eK (.int 3))) (eK (.int 7)))])) (sSetL 6 (eK (.int 3)) (eK (.str "part")))) sSkip) (sSeq (sIf (e2 oEq (e2 oMod (eCall d__law_cell_at [(eV 0), (eK (.int 9))]) (eK (.int 4))) (eK (.int 1))) (sSeq (sAsg (gN 1) (eSl (eComp [10] (gN 10) (iR1 (e2 oAddS (e1 oLen (eV 1)) (eK (.int 1)))) eYes (eComp [11] (gN 11) (iR1 (e2 oAddS (e1 oLen (eV 1)) (eK (.int 1)))) eYes (e2 oMax2 (eV 10) (eV 11)))) none (some (eK (.int 12))))) (sSeq (sAsg (gN 1) (eComp [12] (gN 12) (iL (eV 1)) eYes (eSl (eV 12) none (some (e1 oLen (eV 1)))))) (sAsg (gN 6) (eLst [(eK (.str "done")), (eK (.str "folk")), (eK (.str "folk")), (eK (.str "folk"))])))) sSkip) (sSeq (sIf (e2 oEq (e2 oMod (eCall d__law_cell_at [(eV 0), (eK (.int 9))]) (eK (.int 4))) (eK (.int 2))) (sSeq (sAsg (gN 1) (eCall d__law_bad_table [(eV 0), (eV 1), (e2 oMod (e2 oDiv (eCall d__law_cell_at [(eV 0), (eK (.int 9))]) (eK (.int 4))) (eK (.int 6)))])) (sAsg (gN 6) (eLst [(eK (.str "table")), (eK (.str "table")), (eK (.str "table")), (eK (.str "table"))]))) sSkip) (sSeq (sFor (gN 7) (iR1 (eK (.int 17))) (sSeq (sAsg (gN 8) (e2 oIx (eV 6) (e2 oAddS (e2 oAddS (e1 oIntB (e2 oGt (eV 7) (eK (.int 1)))) (e1 oIntB (e2 oGt (eV 7) (eK (.int 5))))) (e1 oIntB (e2 oGt (eV 7) (eK (.int 9))))))) (sSeq (sIf (eAnd (e2 oGt (eV 7) (eK (.int 12))) (e2 oEq (eV 8) (eK (.str "part")))) (sAsg (gN 8) (eK (.str "done"))) sSkip) (sSeq (sAsg (gN 9) (eCall d__law_tried [(eV 7), (eCall d__law_copy [(eV 1)]), (eV 5), (e1 oListF (eV 3))])) (sSeq (sIf (eAnd (e2 oEq (eV 8) (eK (.str "done"))) (eOr (eAnd (e2 oEq (eV 7) (eK (.int 12))) (e2 oEq (eV 9) (eK (.str "loose")))) (eAnd (e2 oGt (eV 7) (eK (.int 14))) (e2 oEq (eV 9) (eK (.str "large")))))) (sAsg (gN 9) (eK (.str "done"))) sSkip) (sIf (e2 oNe (eV 9) (eV 8)) (sRet (eK (.bool false))) sSkip)))))) (sRet (eK (.bool true))))))))))))))
def d_law_k15 : List D → Rs D := runN 13 b_law_k15
end Tf
namespace Tf
open PySem
/-! ## Plain law: elements as Fin n, tables as functions -/
section
variable {n : Nat}
def fi (a : Fin n) : D := .int (a.val : Int)
def fl (xs : List (Fin n)) : D := .list (xs.map fi)
def rowD (f : Fin n → Fin n) : D := fl ((List.finRange n).map f)
def tab (m : Fin n → Fin n → Fin n) : D := .list ((List.finRange n).map fun a => rowD (m a))
def ll (xss : List (List (Fin n))) : D := .list (xss.map fl)

/-! ### slots -/
@[simp] theorem eV_zero (x : D) (e : En) : eV 0 (some x :: e) = .ok x := (rfl)
@[simp] theorem eV_succ (i : Nat) (x : Option D) (e : En) : eV (i + 1) (x :: e) = eV i e := (rfl)
theorem eV_ok {i : Nat} {e : En} {d : D} (h : e[i]? = some (some d)) : eV i e = .ok d := by unfold eV; rw [h]
@[simp] theorem eK_ok (d : D) (e : En) : eK d e = .ok d := (rfl)
@[simp] theorem e1_def (f : D → Rs D) (a : DE) (e : En) : e1 f a e = (a e).bind f := (rfl)
@[simp] theorem e2_def (f : D → D → Rs D) (a b : DE) (e : En) : e2 f a b e = (a e).bind fun x => (b e).bind fun y => f x y := (rfl)
@[simp] theorem eL_nil (e : En) : eL [] e = .ok [] := (rfl)
@[simp] theorem eL_cons (a : DE) (r : List DE) (e : En) : eL (a :: r) e = (a e).bind fun x => (eL r e).bind fun xs => .ok (x :: xs) := (rfl)
@[simp] theorem eCall_def (g : List D → Rs D) (es : List DE) (e : En) : eCall g es e = (eL es e).bind g := (rfl)
@[simp] theorem eLst_def (es : List DE) (e : En) : eLst es e = (eL es e).bind fun xs => .ok (.list xs) := (rfl)
@[simp] theorem eTup_def (es : List DE) (e : En) : eTup es e = (eL es e).bind fun xs => .ok (.tuple xs) := (rfl)
@[simp] theorem iL_def (a : DE) (e : En) : iL a e = (a e).bind fun x => match x with | .list xs => .ok xs | _ => .no := (rfl)
@[simp] theorem gN_def (j : Nat) (d : D) (e : En) : gN j d e = .ok (e.set j (some d)) := (rfl)
@[simp] theorem fl_okk {α : Type} (a : α) (k : α → Fl) : (Rs.ok a).fl k = k a := (rfl)
@[simp] theorem fl_ex {α : Type} (c : EC) (k : α → Fl) : (Rs.ex c : Rs α).fl k = .ex c := (rfl)
@[simp] theorem sSkip_def (e : En) : sSkip e = .nx e := (rfl)
@[simp] theorem sAsg_def (g : DG) (a : DE) (e : En) : sAsg g a e = (a e).fl fun d => (g d e).fl .nx := (rfl)
@[simp] theorem sRet_def (a : DE) (e : En) : sRet a e = (a e).fl .rt := (rfl)
@[simp] theorem sDrop_def (a : DE) (e : En) : sDrop a e = (a e).fl fun _ => .nx e := (rfl)
@[simp] theorem sFor_def (g : DG) (it : DI) (b : DS) (e : En) : sFor g it b e = (it e).fl fun ds => forL g b ds e := (rfl)
@[simp] theorem sRaise_def (c : EC) (e : En) : sRaise c e = .ex c := (rfl)
theorem sSeq_def (a b : DS) (e : En) : sSeq a b e = match a e with | .nx e' => b e' | r => r := rfl
theorem sSeq_nx {a b : DS} {e e' : En} (h : a e = .nx e') : sSeq a b e = b e' := by unfold sSeq; rw [h]
theorem sSeq_rt {a b : DS} {e : En} {d : D} (h : a e = .rt d) : sSeq a b e = .rt d := by unfold sSeq; rw [h]
theorem sSeq_ex {a b : DS} {e : En} {c : EC} (h : a e = .ex c) : sSeq a b e = .ex c := by unfold sSeq; rw [h]
theorem sIf_b {t : DE} {a b : DS} {e : En} {k : Bool} (h : t e = .ok (.bool k)) : sIf t a b e = if k then a e else b e := by
  unfold sIf; rw [h]; cases k <;> rfl
theorem runN_rt {n : Nat} {b : DS} {ds : List D} {d : D} (h : b (ds.map some ++ List.replicate (n - ds.length) none) = .rt d) : runN n b ds = .ok d := by unfold runN; rw [h]
theorem runN_ex {n : Nat} {b : DS} {ds : List D} {d : EC} (h : b (ds.map some ++ List.replicate (n - ds.length) none) = .ex d) : runN n b ds = .ex d := by unfold runN; rw [h]
theorem runB_rt {n : Nat} {b : DS} {ds : List D} {d : D} (h : b (ds.map some ++ List.replicate (n - ds.length) none) = .rt d) : runB n b ds = .ok d := by unfold runB; rw [h]
theorem runB_nx {n : Nat} {b : DS} {ds : List D} {d : En} (h : b (ds.map some ++ List.replicate (n - ds.length) none) = .nx d) : runB n b ds = .ok .none := by unfold runB; rw [h]
theorem runB_ex {n : Nat} {b : DS} {ds : List D} {d : EC} (h : b (ds.map some ++ List.replicate (n - ds.length) none) = .ex d) : runB n b ds = .ex d := by unfold runB; rw [h]
theorem eAnd_b {a b : DE} {e : En} {k : Bool} (h : a e = .ok (.bool k)) : eAnd a b e = if k then b e else .ok (.bool false) := by
  unfold eAnd; rw [h]; cases k <;> rfl
theorem eOr_b {a b : DE} {e : En} {k : Bool} (h : a e = .ok (.bool k)) : eOr a b e = if k then .ok (.bool true) else b e := by
  unfold eOr; rw [h]; cases k <;> rfl
theorem eAnd_bb {a b : DE} {e : En} {k l : Bool} (h : a e = .ok (.bool k)) (h2 : k = true → b e = .ok (.bool l)) : eAnd a b e = .ok (.bool (k && l)) := by
  rw [eAnd_b h]; cases k
  · rfl
  · exact h2 rfl
theorem eOr_bb {a b : DE} {e : En} {k l : Bool} (h : a e = .ok (.bool k)) (h2 : k = false → b e = .ok (.bool l)) : eOr a b e = .ok (.bool (k || l)) := by
  rw [eOr_b h]; cases k
  · exact h2 rfl
  · rfl
@[simp] theorem oNot_b (b : Bool) : oNot (.bool b) = .ok (.bool (!b)) := (rfl)
@[simp] theorem oFl_int (i : Int) : oFl (.int i) = .ok (.int i) := (rfl)
@[simp] theorem oFl_fi (a : Fin n) : oFl (fi a) = .ok (fi a) := (rfl)
@[simp] theorem oAddS_int (i j : Int) : oAddS (.int i) (.int j) = .ok (.int (i + j)) := (rfl)
@[simp] theorem oSub_int (i j : Int) : oSub (.int i) (.int j) = .ok (.int (i - j)) := (rfl)
@[simp] theorem oLt_int (i j : Int) : oLt (.int i) (.int j) = .ok (.bool (decide (i < j))) := (rfl)
@[simp] theorem oLe_int (i j : Int) : oLe (.int i) (.int j) = .ok (.bool (decide (i ≤ j))) := (rfl)
@[simp] theorem oGt_int (i j : Int) : oGt (.int i) (.int j) = .ok (.bool (decide (j < i))) := (rfl)
@[simp] theorem oGe_int (i j : Int) : oGe (.int i) (.int j) = .ok (.bool (decide (j ≤ i))) := (rfl)
theorem shp_int (i : Int) : shp (.int i) = true := rfl
theorem eqv_int (i j : Int) : PyData.eqv (.int i) (.int j) = decide (i = j) := by
  show (i == j) = _
  rw [Bool.eq_iff_iff]; simp
@[simp] theorem oEq_int (i j : Int) : oEq (.int i) (.int j) = .ok (.bool (decide (i = j))) := by
  unfold oEq; rw [shp_int, shp_int, eqv_int]; rfl
@[simp] theorem oNe_int (i j : Int) : oNe (.int i) (.int j) = .ok (.bool (!decide (i = j))) := by
  unfold oNe; rw [shp_int, shp_int, eqv_int]; rfl
@[simp] theorem oMod_int {i j : Int} (h : 0 < j) : oMod (.int i) (.int j) = .ok (.int (i % j)) := by
  show (if decide (0 < j) = true then Rs.ok (PyData.int (i % j)) else Rs.no) = _
  rw [if_pos (decide_eq_true h)]
@[simp] theorem oDiv_int {i j : Int} (h : 0 < j) (h2 : j < 1073741824) : oDiv (.int i) (.int j) = .ok (.int (i / j)) := by
  show (if (decide (0 < j) && decide (j < 1073741824)) = true then Rs.ok (PyData.int (i / j)) else Rs.no) = _
  rw [if_pos (by rw [decide_eq_true h, decide_eq_true h2]; rfl)]
theorem fi_inj {a b : Fin n} : (a.val : Int) = (b.val : Int) ↔ a = b := by
  rw [Int.ofNat_inj]; exact Fin.val_inj
@[simp] theorem oEq_fi (a b : Fin n) : oEq (fi a) (fi b) = .ok (.bool (decide (a = b))) := by
  unfold fi; rw [oEq_int]; simp only [fi_inj]
@[simp] theorem oNe_fi (a b : Fin n) : oNe (fi a) (fi b) = .ok (.bool (!decide (a = b))) := by
  unfold fi; rw [oNe_int]; simp only [fi_inj]

/-! ### items -/
theorem atI_nat {α : Type} (xs : List α) (i : Nat) : L2.atI xs (i : Int) = xs[i]? := by
  unfold L2.atI L2.ixN
  rw [if_pos (Int.natCast_nonneg i)]
  by_cases h : i < xs.length
  · rw [if_pos (by omega)]; rfl
  · rw [if_neg (by omega), List.getElem?_eq_none (by omega)]; rfl
theorem ixN_nat {m i : Nat} (h : i < m) : L2.ixN m (i : Int) = some i := by
  unfold L2.ixN
  rw [if_pos (Int.natCast_nonneg i), if_pos (by omega)]; rfl
theorem oIx_at {xs : List D} {i : Nat} {d : D} (h : xs[i]? = some d) : oIx (.list xs) (.int (i : Nat)) = .ok d := by
  unfold oIx; simp only [atI_nat, h]
theorem fr_get (a : Fin n) : (List.finRange n)[a.val]? = some a := by
  rw [List.getElem?_eq_getElem (by rw [List.length_finRange]; exact a.isLt), List.getElem_finRange]; rfl
theorem fr_map {α : Type} (f : Fin n → α) (a : Fin n) : ((List.finRange n).map f)[a.val]? = some (f a) := by
  rw [List.getElem?_map, fr_get]; rfl
@[simp] theorem oIx_tab (m : Fin n → Fin n → Fin n) (a : Fin n) : oIx (tab m) (fi a) = .ok (rowD (m a)) := oIx_at (fr_map _ a)
@[simp] theorem oIx_row (f : Fin n → Fin n) (a : Fin n) : oIx (rowD f) (fi a) = .ok (fi (f a)) := oIx_at (by rw [List.getElem?_map, fr_map]; rfl)
theorem oIx_fl {xs : List (Fin n)} {i : Nat} {a : Fin n} (h : xs[i]? = some a) : oIx (fl xs) (.int (i : Nat)) = .ok (fi a) := oIx_at (by rw [List.getElem?_map, h]; rfl)
theorem oIx_ll {xs : List (List (Fin n))} {i : Nat} {a : List (Fin n)} (h : xs[i]? = some a) : oIx (ll xs) (.int (i : Nat)) = .ok (fl a) := oIx_at (by rw [List.getElem?_map, h]; rfl)
@[simp] theorem oLen_list (xs : List D) : oLen (.list xs) = .ok (.int xs.length) := (rfl)
@[simp] theorem oLen_fl (xs : List (Fin n)) : oLen (fl xs) = .ok (.int xs.length) := by unfold fl; rw [oLen_list, List.length_map]
@[simp] theorem oLen_ll (xs : List (List (Fin n))) : oLen (ll xs) = .ok (.int xs.length) := by unfold ll; rw [oLen_list, List.length_map]
@[simp] theorem oLen_row (f : Fin n → Fin n) : oLen (rowD f) = .ok (.int n) := by unfold rowD; rw [oLen_fl, List.length_map, List.length_finRange]
@[simp] theorem oLen_tab (m : Fin n → Fin n → Fin n) : oLen (tab m) = .ok (.int n) := by unfold tab; rw [oLen_list, List.length_map, List.length_finRange]
theorem rng_fi : rng 0 n = (List.finRange n).map fi := by
  unfold rng
  apply List.ext_getElem?
  intro i
  rw [List.getElem?_map, List.getElem?_map]
  by_cases h : i < n
  · have := fr_get (⟨i, h⟩ : Fin n)
    rw [show (List.finRange n)[i]? = some ⟨i, h⟩ from this, List.getElem?_range h]
    simp [fi]
  · rw [List.getElem?_eq_none (by rw [List.length_range]; omega), List.getElem?_eq_none (by rw [List.length_finRange]; omega)]; rfl
theorem oLrg_n (hn : n ≤ 12) : oLrg (.int n) = .ok (fl (List.finRange n)) := by
  show (if (decide (0 ≤ (n : Int)) && decide ((n : Int) ≤ 100000)) = true then Rs.ok (PyData.list (rng 0 (Int.toNat n))) else Rs.no) = _
  rw [if_pos (by rw [decide_eq_true (Int.natCast_nonneg n), decide_eq_true (show (n : Int) ≤ 100000 by omega)]; rfl), Int.toNat_natCast, rng_fi]; rfl
theorem iR1_n {a : DE} {e : En} (h : a e = .ok (.int n)) (hn : n ≤ 1000000) : iR1 a e = .ok ((List.finRange n).map fi) := by
  unfold iR1
  rw [h, bind_ok]
  simp only
  rw [if_pos ⟨by omega, by omega⟩, Int.toNat_natCast, rng_fi]

/-! ### loops and comprehensions -/
theorem compL_map {α : Type} {own : List Nat} {g : DG} {t a : DE} {e : En} {xs : List α} {i : α → D} {P : α → Bool} {F : α → D}
    (h : ∀ x ∈ xs, ∃ e', g (i x) (wipeE e own) = .ok e' ∧ t e' = .ok (.bool (P x)) ∧ (P x = true → a e' = .ok (F x))) : compL own g t a e (xs.map i) = .ok ((xs.filter P).map F) := by
  induction xs with
  | nil => rfl
  | cons x xs ih =>
    obtain ⟨e', h1, h2, h3⟩ := h x (List.mem_cons_self ..)
    have ih := ih fun y hy => h y (List.mem_cons_of_mem _ hy)
    rw [List.map_cons]
    unfold compL
    rw [h1, bind_ok, h2, bind_ok]
    cases hp : P x with
    | true =>
      simp only
      rw [h3 hp, bind_ok, ih, bind_ok, List.filter_cons_of_pos hp, List.map_cons]
    | false =>
      simp only
      rw [ih, List.filter_cons_of_neg (by rw [hp]; exact Bool.false_ne_true)]
theorem eComp_map {α : Type} {own : List Nat} {g : DG} {it : DI} {t a : DE} {e : En} {xs : List α} {i : α → D} {P : α → Bool} {F : α → D} (hi : it e = .ok (xs.map i)) (hl : xs.length ≤ 100000)
    (h : ∀ x ∈ xs, ∃ e', g (i x) (wipeE e own) = .ok e' ∧ t e' = .ok (.bool (P x)) ∧ (P x = true → a e' = .ok (F x))) : eComp own g it t a e = .ok (.list ((xs.filter P).map F)) := by
  unfold eComp
  rw [hi, bind_ok, if_pos (by rw [List.length_map]; exact hl), compL_map h]; rfl
/-- what a block does: it returns what r says, or goes on with an environment of I -/
def FlOk (I : En → Prop) (r : Option D) (f : Fl) : Prop := match r with
  | some d => f = .rt d
  | none => ∃ e, f = .nx e ∧ I e
theorem FlOk.imp {I J : En → Prop} {r : Option D} {f : Fl} (h : FlOk I r f) (hj : ∀ e, I e → J e) : FlOk J r f := by
  cases r with
  | some d => exact h
  | none => obtain ⟨e, h1, h2⟩ := h; exact ⟨e, h1, hj e h2⟩
theorem forL_ind {g : DG} {b : DS} {ds : List D} (I : Nat → En → Prop) (h : ∀ (i : Nat) (d : D), ds[i]? = some d → ∀ e, I i e → ∃ e' e2, g d e = .ok e' ∧ b e' = .nx e2 ∧ I (i + 1) e2) {e : En} (h0 : I 0 e) : ∃ e2, forL g b ds e = .nx e2 ∧ I ds.length e2 := by
  induction ds generalizing e I with
  | nil => exact ⟨e, rfl, h0⟩
  | cons d ds ih =>
    obtain ⟨e', e2, h1, h2, h3⟩ := h 0 d rfl e h0
    obtain ⟨e3, h4, h5⟩ := ih (fun i e => I (i + 1) e) (fun i d hd e hi => h (i + 1) d (by simpa using hd) e hi) h3
    exact ⟨e3, by unfold forL; rw [h1, fl_okk, h2]; exact h4, h5⟩
/-- the first that makes the body return -/
theorem forL_first {α : Type} {g : DG} {b : DS} {i : α → D} {I : En → Prop} {V : α → Option D} {xs : List α}
    (h : ∀ x ∈ xs, ∀ e, I e → ∃ e', g (i x) e = .ok e' ∧ FlOk I (V x) (b e')) {e : En} (h0 : I e) : FlOk I (xs.findSome? V) (forL g b (xs.map i) e) := by
  induction xs generalizing e with
  | nil => exact ⟨e, rfl, h0⟩
  | cons x xs ih =>
    obtain ⟨e', h1, h2⟩ := h x (List.mem_cons_self ..) e h0
    rw [List.map_cons, List.findSome?_cons]
    unfold forL
    rw [h1, fl_okk]
    cases hv : V x with
    | some d => rw [hv] at h2; have h2 : b e' = .rt d := h2; rw [h2]; rfl
    | none =>
      rw [hv] at h2
      obtain ⟨e2, h3, h4⟩ := h2
      rw [h3]
      exact ih (fun y hy => h y (List.mem_cons_of_mem _ hy)) h4
end
end Tf
namespace Tf
open PySem
/-! ### shape and equality -/
def sh (k : Nat) (d : D) : Prop := d.canLay0 = true ∧ d.depth ≤ k
theorem sh_int (k : Nat) (i : Int) : sh k (.int i) := ⟨rfl, Nat.zero_le _⟩
theorem sh_bool (k : Nat) (i : Bool) : sh k (.bool i) := ⟨rfl, Nat.zero_le _⟩
theorem sh_none (k : Nat) : sh k .none := ⟨rfl, Nat.zero_le _⟩
theorem sh_all {k : Nat} : ∀ {xs : List D}, (∀ d ∈ xs, sh k d) → PyData.canLayAll0 xs = true ∧ PyData.depthAll xs ≤ k
  | [], _ => ⟨rfl, Nat.zero_le _⟩
  | x :: xs, h => by
    obtain ⟨a, b⟩ := sh_all fun d hd => h d (List.mem_cons_of_mem _ hd)
    obtain ⟨c, d⟩ := h x (List.mem_cons_self ..)
    exact ⟨by unfold PyData.canLayAll0; rw [c, a]; rfl, by unfold PyData.depthAll; exact Nat.max_le.mpr ⟨d, b⟩⟩
theorem sh_list {k : Nat} {xs : List D} (h : ∀ d ∈ xs, sh k d) : sh (k + 1) (.list xs) := by
  obtain ⟨a, b⟩ := sh_all h
  exact ⟨by unfold PyData.canLay0; exact a, by unfold PyData.depth; omega⟩
theorem sh_tup {k : Nat} {xs : List D} (h : ∀ d ∈ xs, sh k d) : sh (k + 1) (.tuple xs) := by
  obtain ⟨a, b⟩ := sh_all h
  exact ⟨by unfold PyData.canLay0; exact a, by unfold PyData.depth; omega⟩
theorem sh_map {α : Type} {k : Nat} {xs : List α} {f : α → D} (h : ∀ x ∈ xs, sh k (f x)) : sh (k + 1) (.list (xs.map f)) := by
  refine sh_list fun d hd => ?_
  obtain ⟨x, hx, rfl⟩ := List.mem_map.mp hd
  exact h x hx
theorem sh.shp {k : Nat} {d : D} (h : sh k d) (hk : k ≤ 64 := by decide) : shp d = true := by
  show (d.canLay0 && decide (d.depth ≤ 64)) = true
  rw [h.1, decide_eq_true (Nat.le_trans h.2 hk)]; rfl
theorem eqvAll_map {α : Type} {f : α → D} [DecidableEq α] (h : ∀ x y, PyData.eqv (f x) (f y) = decide (x = y)) : ∀ xs ys : List α, PyData.eqvAll (xs.map f) (ys.map f) = decide (xs = ys)
  | [], [] => rfl
  | [], _ :: _ => rfl
  | _ :: _, [] => rfl
  | x :: xs, y :: ys => by
    show (PyData.eqv (f x) (f y) && PyData.eqvAll (xs.map f) (ys.map f)) = _
    rw [h, eqvAll_map h xs ys, Bool.eq_iff_iff]
    simp
theorem eqv_list (xs ys : List D) : PyData.eqv (.list xs) (.list ys) = PyData.eqvAll xs ys := by rw [PyData.eqv]
theorem eqv_listmap {α : Type} {f : α → D} [DecidableEq α] (h : ∀ x y, PyData.eqv (f x) (f y) = decide (x = y)) (xs ys : List α) : PyData.eqv (.list (xs.map f)) (.list (ys.map f)) = decide (xs = ys) := by
  rw [eqv_list]; exact eqvAll_map h xs ys
theorem oEq_of {x y : D} {k j : Nat} {b : Bool} (hx : sh k x) (hy : sh j y) (h : PyData.eqv x y = b) (hk : k ≤ 64 := by decide) (hj : j ≤ 64 := by decide) : oEq x y = .ok (.bool b) := by
  unfold oEq; rw [hx.shp hk, hy.shp hj, h]; rfl
theorem oNe_of {x y : D} {k j : Nat} {b : Bool} (hx : sh k x) (hy : sh j y) (h : PyData.eqv x y = b) (hk : k ≤ 64 := by decide) (hj : j ≤ 64 := by decide) : oNe x y = .ok (.bool (!b)) := by
  unfold oNe; rw [hx.shp hk, hy.shp hj, h]; rfl
mutual
theorem eqv_refl : ∀ d : D, d.canLay0 = true → PyData.eqv d d = true
  | .none, _ => rfl
  | .bool b, _ => by show (b == b) = true; simp
  | .int b, _ => by show (b == b) = true; simp
  | .str b, _ => by show (b == b) = true; simp
  | .list xs, h => by rw [eqv_list]; exact eqvAll_refl xs (by rw [PyData.canLay0] at h; exact h)
  | .tuple xs, h => by rw [PyData.eqv]; exact eqvAll_refl xs (by rw [PyData.canLay0] at h; exact h)
  | .dict _, h => by rw [PyData.canLay0] at h; cases h
theorem eqvAll_refl : ∀ xs : List D, PyData.canLayAll0 xs = true → PyData.eqvAll xs xs = true
  | [], _ => rfl
  | x :: xs, h => by
    rw [PyData.canLayAll0, Bool.and_eq_true] at h
    show (PyData.eqv x x && PyData.eqvAll xs xs) = true
    rw [eqv_refl x h.1, eqvAll_refl xs h.2]; rfl
end
theorem oEq_self {x : D} {k : Nat} (h : sh k x) (hk : k ≤ 64 := by decide) : oEq x x = .ok (.bool true) := oEq_of h h (eqv_refl x h.1) hk hk
theorem oNe_self {x : D} {k : Nat} (h : sh k x) (hk : k ≤ 64 := by decide) : oNe x x = .ok (.bool false) := oNe_of h h (eqv_refl x h.1) hk hk
section
variable {n : Nat} {m : Fin n → Fin n → Fin n}
theorem sh_fi (a : Fin n) : sh 0 (fi a) := sh_int 0 _
theorem sh_fl (xs : List (Fin n)) : sh 1 (fl xs) := sh_map fun _ _ => sh_fi _
theorem sh_ll (xs : List (List (Fin n))) : sh 2 (ll xs) := sh_map fun _ _ => sh_fl _
theorem sh_tab : sh 2 (tab m) := sh_map fun _ _ => sh_fl _
theorem eqv_fi (a b : Fin n) : PyData.eqv (fi a) (fi b) = decide (a = b) := by unfold fi; rw [eqv_int]; simp only [fi_inj]
theorem eqv_fl (a b : List (Fin n)) : PyData.eqv (fl a) (fl b) = decide (a = b) := eqv_listmap eqv_fi a b
theorem eqv_ll (a b : List (List (Fin n))) : PyData.eqv (ll a) (ll b) = decide (a = b) := eqv_listmap eqv_fl a b
@[simp] theorem oEq_fl (a b : List (Fin n)) : oEq (fl a) (fl b) = .ok (.bool (decide (a = b))) := oEq_of (sh_fl a) (sh_fl b) (eqv_fl a b)
@[simp] theorem oNe_fl (a b : List (Fin n)) : oNe (fl a) (fl b) = .ok (.bool (!decide (a = b))) := oNe_of (sh_fl a) (sh_fl b) (eqv_fl a b)
@[simp] theorem oEq_ll (a b : List (List (Fin n))) : oEq (ll a) (ll b) = .ok (.bool (decide (a = b))) := oEq_of (sh_ll a) (sh_ll b) (eqv_ll a b)
@[simp] theorem oNe_ll (a b : List (List (Fin n))) : oNe (ll a) (ll b) = .ok (.bool (!decide (a = b))) := oNe_of (sh_ll a) (sh_ll b) (eqv_ll a b)
theorem any_fi (xs : List (Fin n)) (a : Fin n) : ((xs.map fi).any fun z => PyData.eqv z (fi a)) = decide (a ∈ xs) := by
  rw [Bool.eq_iff_iff, List.any_eq_true, decide_eq_true_eq]
  constructor
  · rintro ⟨d, hd, h⟩
    obtain ⟨x, hx, rfl⟩ := List.mem_map.mp hd
    rw [eqv_fi, decide_eq_true_eq] at h
    rw [← h]; exact hx
  · intro h
    exact ⟨fi a, List.mem_map_of_mem h, by rw [eqv_fi, decide_eq_true rfl]⟩
theorem any_fl (xs : List (List (Fin n))) (a : List (Fin n)) : ((xs.map fl).any fun z => PyData.eqv z (fl a)) = decide (a ∈ xs) := by
  rw [Bool.eq_iff_iff, List.any_eq_true, decide_eq_true_eq]
  constructor
  · rintro ⟨d, hd, h⟩
    obtain ⟨x, hx, rfl⟩ := List.mem_map.mp hd
    rw [eqv_fl, decide_eq_true_eq] at h
    rw [← h]; exact hx
  · intro h
    exact ⟨fl a, List.mem_map_of_mem h, by rw [eqv_fl, decide_eq_true rfl]⟩
@[simp] theorem oIn_fl (a : Fin n) (xs : List (Fin n)) : oIn (fi a) (fl xs) = .ok (.bool (decide (a ∈ xs))) := by
  show (if shp (fi a) && shp (fl xs) then Rs.ok (PyData.bool ((xs.map fi).any fun z => PyData.eqv z (fi a))) else .no) = _
  rw [(sh_fi a).shp, (sh_fl xs).shp, any_fi]; rfl
@[simp] theorem oNi_fl (a : Fin n) (xs : List (Fin n)) : oNi (fi a) (fl xs) = .ok (.bool (!decide (a ∈ xs))) := by
  show (if shp (fi a) && shp (fl xs) then Rs.ok (PyData.bool (!(xs.map fi).any fun z => PyData.eqv z (fi a))) else .no) = _
  rw [(sh_fi a).shp, (sh_fl xs).shp, any_fi]; rfl
@[simp] theorem oIn_ll (a : List (Fin n)) (xs : List (List (Fin n))) : oIn (fl a) (ll xs) = .ok (.bool (decide (a ∈ xs))) := by
  show (if shp (fl a) && shp (ll xs) then Rs.ok (PyData.bool ((xs.map fl).any fun z => PyData.eqv z (fl a))) else .no) = _
  rw [(sh_fl a).shp, (sh_ll xs).shp, any_fl]; rfl
@[simp] theorem oNi_ll (a : List (Fin n)) (xs : List (List (Fin n))) : oNi (fl a) (ll xs) = .ok (.bool (!decide (a ∈ xs))) := by
  show (if shp (fl a) && shp (ll xs) then Rs.ok (PyData.bool (!(xs.map fl).any fun z => PyData.eqv z (fl a))) else .no) = _
  rw [(sh_fl a).shp, (sh_ll xs).shp, any_fl]; rfl
theorem rowD_inj {f g : Fin n → Fin n} (h : rowD f = rowD g) : f = g := by
  funext a
  have h1 := oIx_row f a
  rw [h, oIx_row] at h1
  have h2 : fi (g a) = fi (f a) := by injection h1
  unfold fi at h2
  injection h2 with h3
  exact (fi_inj.mp h3).symm
theorem row_eq {f g : Fin n → Fin n} : (List.finRange n).map f = (List.finRange n).map g ↔ f = g :=
  ⟨fun h => rowD_inj (by unfold rowD; rw [h]), fun h => by rw [h]⟩
end

/-! ### whole numbers in lists; tables at all -/
def il (xs : List Int) : D := .list (xs.map .int)
def it (rows : List (List Int)) : D := .list (rows.map il)
theorem asInts_map (xs : List Int) : asInts (xs.map .int) = some xs := by
  induction xs with
  | nil => rfl
  | cons x xs ih => rw [List.map_cons]; unfold asInts; rw [ih]; rfl
theorem sh_il (xs : List Int) : sh 1 (il xs) := sh_map fun _ _ => sh_int 0 _
theorem sh_it (xs : List (List Int)) : sh 2 (it xs) := sh_map fun _ _ => sh_il _
theorem eqv_il (a b : List Int) : PyData.eqv (il a) (il b) = decide (a = b) := eqv_listmap eqv_int a b
theorem eqv_it (a b : List (List Int)) : PyData.eqv (it a) (it b) = decide (a = b) := eqv_listmap eqv_il a b
@[simp] theorem oEq_il (a b : List Int) : oEq (il a) (il b) = .ok (.bool (decide (a = b))) := oEq_of (sh_il a) (sh_il b) (eqv_il a b)
@[simp] theorem oNe_il (a b : List Int) : oNe (il a) (il b) = .ok (.bool (!decide (a = b))) := oNe_of (sh_il a) (sh_il b) (eqv_il a b)
@[simp] theorem oEq_it (a b : List (List Int)) : oEq (it a) (it b) = .ok (.bool (decide (a = b))) := oEq_of (sh_it a) (sh_it b) (eqv_it a b)
@[simp] theorem oNe_it (a b : List (List Int)) : oNe (it a) (it b) = .ok (.bool (!decide (a = b))) := oNe_of (sh_it a) (sh_it b) (eqv_it a b)
@[simp] theorem oLen_il (xs : List Int) : oLen (il xs) = .ok (.int xs.length) := by unfold il; rw [oLen_list, List.length_map]
@[simp] theorem oLen_it (xs : List (List Int)) : oLen (it xs) = .ok (.int xs.length) := by unfold it; rw [oLen_list, List.length_map]
theorem oMin_il (x : Int) (xs : List Int) : oMin (il (x :: xs)) = .ok (.int (xs.foldl min x)) := by
  show (match asInts ((x :: xs).map .int) with | some (n :: ns) => Rs.ok (PyData.int (ns.foldl min n)) | _ => .no) = _
  rw [asInts_map]
theorem oMax_il (x : Int) (xs : List Int) : oMax (il (x :: xs)) = .ok (.int (xs.foldl max x)) := by
  show (match asInts ((x :: xs).map .int) with | some (n :: ns) => Rs.ok (PyData.int (ns.foldl max n)) | _ => .no) = _
  rw [asInts_map]
theorem foldl_min_lt (b : Int) : ∀ (xs : List Int) (x : Int), xs.foldl min x < b ↔ x < b ∨ ∃ y ∈ xs, y < b
  | [], x => by simp
  | y :: xs, x => by
    rw [List.foldl_cons, foldl_min_lt b xs]
    simp only [List.mem_cons, exists_eq_or_imp]
    rw [← or_assoc]
    exact or_congr (by omega) Iff.rfl
theorem foldl_max_le (b : Int) : ∀ (xs : List Int) (x : Int), b ≤ xs.foldl max x ↔ b ≤ x ∨ ∃ y ∈ xs, b ≤ y
  | [], x => by simp
  | y :: xs, x => by
    rw [List.foldl_cons, foldl_max_le b xs]
    simp only [List.mem_cons, exists_eq_or_imp]
    rw [← or_assoc]
    exact or_congr (by omega) Iff.rfl
/-- a row of s numbers from nought on below s -/
def okRow (s : Nat) (row : List Int) : Bool := decide (row.length = s) && row.all fun x => decide (0 ≤ x) && decide (x < s)
def isT (rows : List (List Int)) : Bool := decide (1 ≤ rows.length) && decide (rows.length ≤ 12) && rows.all (okRow rows.length)
theorem okRow_test (s : Nat) (hs : 1 ≤ s) (row : List Int) (e : En) (a : DE) (h1 : ∀ f, e1 f a e = f (il row)) (b : DE) (h2 : b e = .ok (.int s)) :
    eOr (e2 oNe (e1 oLen a) b) (eOr (e2 oLt (e1 oMin a) (eK (.int 0))) (e2 oGe (e1 oMax a) b)) e = .ok (.bool (!okRow s row)) := by
  have c1 : e2 oNe (e1 oLen a) b e = .ok (.bool (!decide (row.length = s))) := by
    rw [e2_def, h1, oLen_il, bind_ok, h2, bind_ok, oNe_int]; simp only [Int.ofNat_inj]
  by_cases hl : row.length = s
  · cases row with
    | nil => simp at hl; omega
    | cons x xs =>
      have c2 : e2 oLt (e1 oMin a) (eK (.int 0)) e = .ok (.bool (decide (xs.foldl min x < 0))) := by
        rw [e2_def, h1, oMin_il, bind_ok, eK_ok, bind_ok, oLt_int]
      have c3 : e2 oGe (e1 oMax a) b e = .ok (.bool (decide ((s : Int) ≤ xs.foldl max x))) := by
        rw [e2_def, h1, oMax_il, bind_ok, h2, bind_ok, oGe_int]
      rw [eOr_bb c1 fun _ => eOr_bb c2 fun _ => c3]
      congr 2
      rw [Bool.eq_iff_iff]
      unfold okRow
      simp only [Bool.or_eq_true, Bool.not_eq_true', Bool.not_eq_true, decide_eq_true_eq, decide_eq_false_iff_not, foldl_min_lt, foldl_max_le, Bool.and_eq_false_imp, List.all_eq_false, Bool.and_eq_true, not_and, List.mem_cons, exists_eq_or_imp]
      constructor
      · rintro (h | h | h)
        · exact fun z => absurd z h
        · intro _
          rcases h with h | ⟨y, hy, h⟩
          · exact .inl fun z => by omega
          · exact .inr ⟨y, hy, fun z => by omega⟩
        · intro _
          rcases h with h | ⟨y, hy, h⟩
          · exact .inl fun z => by omega
          · exact .inr ⟨y, hy, fun z => by omega⟩
      · intro h
        rcases h hl with h | ⟨y, hy, h⟩
        · by_cases z : 0 ≤ x
          · exact .inr (.inr (.inl (by have := h z; omega)))
          · exact .inr (.inl (.inl (by omega)))
        · by_cases z : 0 ≤ y
          · exact .inr (.inr (.inr ⟨y, hy, by have := h z; omega⟩))
          · exact .inr (.inl (.inr ⟨y, hy, by omega⟩))
  · rw [eOr_b c1, if_pos (by simp [hl])]
    unfold okRow
    simp [hl]
theorem findSome_all {α β : Type} (p : α → Bool) (c : β) (xs : List α) : xs.findSome? (fun x => if p x then none else some c) = if xs.all p then none else some c := by
  induction xs with
  | nil => rfl
  | cons x xs ih =>
    rw [List.findSome?_cons, List.all_cons]
    cases p x <;> simp [ih]
theorem d_is_table_eq (rows : List (List Int)) : d_is_table [it rows] = .ok (.bool (isT rows)) := by
  apply runN_rt
  show sSeq (sAsg _ _) _ [some (it rows), none, none] = _
  rw [sSeq_nx (show sAsg _ _ _ = .nx [some (it rows), some (.int rows.length), none] by simp)]
  have t1 : eOr (e2 oLt (eV 1) (eK (.int 1))) (e2 oGt (eV 1) (eK (.int 12))) [some (it rows), some (.int rows.length), none] = .ok (.bool (decide ((rows.length : Int) < 1) || decide ((12 : Int) < rows.length))) :=
    eOr_bb (by simp) fun _ => by simp
  by_cases hs : 1 ≤ rows.length ∧ rows.length ≤ 12
  · rw [sSeq_nx (show sIf _ _ _ _ = .nx [some (it rows), some (.int rows.length), none] by
      rw [sIf_b t1, if_neg (by simp; omega)]; rfl)]
    have L := forL_first (α := List Int) (g := gN 2) (i := il) (I := fun e => ∃ x, e = [some (it rows), some (.int rows.length), x]) (V := fun row => if okRow rows.length row then none else some (.bool false)) (xs := rows)
      (b := sIf (eOr (e2 oNe (e1 oLen (eV 2)) (eV 1)) (eOr (e2 oLt (e1 oMin (eV 2)) (eK (.int 0))) (e2 oGe (e1 oMax (eV 2)) (eV 1)))) (sRet (eK (.bool false))) sSkip)
      (fun row hr e he => by
        obtain ⟨x, rfl⟩ := he
        refine ⟨[some (it rows), some (.int rows.length), some (il row)], rfl, ?_⟩
        rw [sIf_b (okRow_test rows.length hs.1 row _ _ (fun _ => rfl) _ rfl)]
        cases okRow rows.length row with
        | true => exact ⟨_, rfl, _, rfl⟩
        | false => rfl) (e := [some (it rows), some (.int rows.length), none]) ⟨_, rfl⟩
    rw [findSome_all] at L
    have ei : isT rows = rows.all (okRow rows.length) := by unfold isT; rw [decide_eq_true hs.1, decide_eq_true hs.2]; rfl
    rw [ei]
    have ef : sFor (gN 2) (iL (eV 0)) (sIf (eOr (e2 oNe (e1 oLen (eV 2)) (eV 1)) (eOr (e2 oLt (e1 oMin (eV 2)) (eK (.int 0))) (e2 oGe (e1 oMax (eV 2)) (eV 1)))) (sRet (eK (.bool false))) sSkip) [some (it rows), some (.int rows.length), none] = forL (gN 2) (sIf (eOr (e2 oNe (e1 oLen (eV 2)) (eV 1)) (eOr (e2 oLt (e1 oMin (eV 2)) (eK (.int 0))) (e2 oGe (e1 oMax (eV 2)) (eV 1)))) (sRet (eK (.bool false))) sSkip) (rows.map il) [some (it rows), some (.int rows.length), none] := rfl
    cases ha : rows.all (okRow rows.length) with
    | true =>
      rw [ha] at L
      obtain ⟨e, h1, _⟩ := L
      rw [sSeq_nx (ef.trans h1)]; rfl
    | false =>
      rw [ha] at L
      rw [sSeq_rt (ef.trans L)]
  · have ei : isT rows = false := by
      unfold isT
      cases h : (decide (1 ≤ rows.length) && decide (rows.length ≤ 12)) with
      | false => rfl
      | true =>
        simp at h
        exact absurd h hs
    rw [sSeq_rt (show sIf _ _ _ _ = .rt (.bool false) by rw [sIf_b t1, if_pos (by simp; omega)]; rfl), ei]
theorem d_asked_table_eq (rows : List (List Int)) : d_asked_table [it rows] = if isT rows then .ok .none else .ex .NoTable := by
  have t : e1 oNot (eCall d_is_table [eV 0]) [some (it rows)] = .ok (.bool (!isT rows)) := by
    show ((eCall d_is_table [eV 0]) [some (it rows)]).bind oNot = _
    rw [show eCall d_is_table [eV 0] [some (it rows)] = d_is_table [it rows] from rfl, d_is_table_eq]; rfl
  have q : b_asked_table [some (it rows)] = if isT rows then .nx [some (it rows)] else .ex .NoTable := by
    show sIf _ _ _ _ = _
    rw [sIf_b t]
    cases isT rows <;> rfl
  cases h : isT rows with
  | true => rw [h] at q; exact runB_nx q
  | false => rw [h] at q; exact runB_ex q
end Tf
namespace Tf
open PySem
section
variable {n : Nat} {m : Fin n → Fin n → Fin n}
theorem tab_it : tab m = it ((List.finRange n).map fun a => (List.finRange n).map fun b => ((m a b).val : Int)) := by
  unfold tab it rowD fl il
  rw [List.map_map]
  congr 1
  apply List.map_congr_left
  intro a _
  simp only [Function.comp, List.map_map]
  congr 1
theorem isT_tab (h0 : 1 ≤ n) (hn : n ≤ 12) : isT ((List.finRange n).map fun a => (List.finRange n).map fun b => ((m a b).val : Int)) = true := by
  unfold isT
  rw [List.length_map, List.length_finRange, decide_eq_true h0, decide_eq_true hn, Bool.and_self, Bool.true_and, List.all_map, List.all_eq_true]
  intro a _
  show okRow n _ = true
  unfold okRow
  rw [List.length_map, List.length_finRange, decide_eq_true rfl, Bool.true_and, List.all_map, List.all_eq_true]
  intro b _
  show (decide (0 ≤ ((m a b).val : Int)) && decide (((m a b).val : Int) < (n : Int))) = true
  rw [decide_eq_true (Int.natCast_nonneg _), decide_eq_true (by have := (m a b).isLt; omega)]; rfl
theorem d_is_table_tab (h0 : 1 ≤ n) (hn : n ≤ 12) : d_is_table [tab m] = .ok (.bool true) := by
  rw [tab_it, d_is_table_eq, isT_tab h0 hn]
theorem d_asked_table_tab (h0 : 1 ≤ n) (hn : n ≤ 12) : d_asked_table [tab m] = .ok .none := by
  rw [tab_it, d_asked_table_eq, isT_tab h0 hn]; rfl

/-! ### backs, rests, the first three -/
def backL (m : Fin n → Fin n → Fin n) (s a : Fin n) : List (Fin n) := (List.finRange n).filter fun x => decide (m x a = s) && decide (m a x = s)
theorem d_backs_eq (hn : n ≤ 12) (s a : Fin n) : d_backs [tab m, fi s, fi a] = .ok (fl (backL m s a)) := by
  apply runN_rt
  show sRet _ [some (tab m), some (fi s), some (fi a), none] = _
  rw [sRet_def, eComp_map (xs := List.finRange n) (i := fi) (P := fun x => decide (m x a = s) && decide (m a x = s)) (F := fi)]
  · rfl
  · exact iR1_n (by simp) (by omega)
  · rw [List.length_finRange]; omega
  · intro x _
    refine ⟨_, rfl, ?_, ?_⟩
    · apply eAnd_bb
      · simp [wipeE]
      · intro; simp [wipeE]
    · intro; rfl
def restL (m : Fin n → Fin n → Fin n) : List (Fin n) := (List.finRange n).filter fun e => decide ((List.finRange n).map (m e) = List.finRange n) && decide ((List.finRange n).map (fun a => m a e) = List.finRange n)
theorem filter_yes {α : Type} (xs : List α) : xs.filter (fun _ => true) = xs := by simp
theorem d_rests_eq (hn : n ≤ 12) : d_rests [tab m] = .ok (fl (restL m)) := by
  apply runN_rt
  show sSeq _ _ [some (tab m), none, none, none] = _
  rw [sSeq_nx (show sAsg _ _ _ = .nx [some (tab m), some (fl (List.finRange n)), none, none] by simp [oLrg_n hn]), sRet_def,
    eComp_map (xs := List.finRange n) (i := fi) (P := fun e => decide ((List.finRange n).map (m e) = List.finRange n) && decide ((List.finRange n).map (fun a => m a e) = List.finRange n)) (F := fi)]
  · rfl
  · rfl
  · rw [List.length_finRange]; omega
  · intro x _
    refine ⟨_, rfl, ?_, ?_⟩
    · apply eAnd_bb
      · simp [wipeE, rowD]
      · intro
        rw [e2_def, eComp_map (xs := List.finRange n) (i := fi) (P := fun _ => true) (F := fun a => fi (m a x))]
        · rw [filter_yes, show PyData.list ((List.finRange n).map fun a => fi (m a x)) = fl ((List.finRange n).map fun a => m a x) by unfold fl; rw [List.map_map]; rfl]
          simp [wipeE]
        · rfl
        · rw [List.length_finRange]; omega
        · intro y _
          exact ⟨_, rfl, rfl, fun _ => by simp [wipeE]⟩
    · intro; rfl
def oddV (m : Fin n → Fin n → Fin n) (a b c : Fin n) : Option D := if m (m a b) c = m a (m b c) then none else some (.tuple [.str "three", fi a, fi b, fi c])
def oddO (m : Fin n → Fin n → Fin n) : Option D := (List.finRange n).findSome? fun a => (List.finRange n).findSome? fun b => (List.finRange n).findSome? fun c => oddV m a b c
theorem odd_loops (rest : En) : FlOk (fun e => ∃ x y z, e = some (tab m) :: some (fl (List.finRange n)) :: x :: y :: z :: rest) (oddO m) (sFor (gN 2) (iL (eV 1)) (sFor (gN 3) (iL (eV 1)) (sFor (gN 4) (iL (eV 1)) (sIf (e2 oNe (e2 oIx (e2 oIx (eV 0) (e2 oIx (e2 oIx (eV 0) (eV 2)) (eV 3))) (eV 4)) (e2 oIx (e2 oIx (eV 0) (eV 2)) (e2 oIx (e2 oIx (eV 0) (eV 3)) (eV 4)))) (sRet (eTup [(eK (.str "three")), (eV 2), (eV 3), (eV 4)])) sSkip))) (some (tab m) :: some (fl (List.finRange n)) :: none :: none :: none :: rest)) := by
  refine forL_first (i := fi) (I := fun e => ∃ x y z, e = some (tab m) :: some (fl (List.finRange n)) :: x :: y :: z :: rest) (fun a _ e he => ?_) ⟨_, _, _, rfl⟩
  obtain ⟨x, y, z, rfl⟩ := he
  refine ⟨_, rfl, ?_⟩
  refine FlOk.imp (forL_first (i := fi) (I := fun e => ∃ y z, e = some (tab m) :: some (fl (List.finRange n)) :: some (fi a) :: y :: z :: rest) (fun b _ e he => ?_) ⟨_, _, rfl⟩) fun e ⟨y, z, h⟩ => ⟨_, y, z, h⟩
  obtain ⟨y, z, rfl⟩ := he
  refine ⟨_, rfl, ?_⟩
  refine FlOk.imp (forL_first (i := fi) (I := fun e => ∃ z, e = some (tab m) :: some (fl (List.finRange n)) :: some (fi a) :: some (fi b) :: z :: rest) (fun c _ e he => ?_) ⟨_, rfl⟩) fun e ⟨z, h⟩ => ⟨_, z, h⟩
  obtain ⟨z, rfl⟩ := he
  refine ⟨_, rfl, ?_⟩
  rw [sIf_b (k := !decide (m (m a b) c = m a (m b c))) (by simp)]
  unfold oddV
  by_cases h : m (m a b) c = m a (m b c)
  · rw [decide_eq_true h, if_pos h]; exact ⟨_, rfl, _, rfl⟩
  · rw [decide_eq_false h, if_neg h]; rfl
theorem d_odd_three_eq (hn : n ≤ 12) : d_odd_three [tab m] = .ok ((oddO m).getD .none) := by
  apply runN_rt
  show sSeq _ _ [some (tab m), none, none, none, none] = _
  rw [sSeq_nx (show sAsg _ _ _ = .nx [some (tab m), some (fl (List.finRange n)), none, none, none] by simp [oLrg_n hn])]
  have L := odd_loops (m := m) []
  cases ho : oddO m with
  | some d => rw [ho] at L; rw [sSeq_rt L]; rfl
  | none =>
    rw [ho] at L
    obtain ⟨e, h, x, y, z, rfl⟩ := L
    rw [sSeq_nx h]; rfl
end
end Tf
namespace Tf
open PySem
section
variable {n : Nat} {m : Fin n → Fin n → Fin n} {e : Fin n} {v : Fin n → Fin n}
/-- a folk -/
structure Gr (m : Fin n → Fin n → Fin n) (e : Fin n) (v : Fin n → Fin n) : Prop where
  as : ∀ a b c, m (m a b) c = m a (m b c)
  el : ∀ a, m e a = a
  er : ∀ a, m a e = a
  vl : ∀ a, m (v a) a = e
  vr : ∀ a, m a (v a) = e
theorem filter_one {α : Type} {P : α → Bool} {a : α} : ∀ {xs : List α}, xs.Nodup → a ∈ xs → (∀ x ∈ xs, P x = true ↔ x = a) → xs.filter P = [a]
  | [], _, h, _ => by cases h
  | x :: xs, nd, h, hp => by
    obtain ⟨n1, n2⟩ := List.nodup_cons.mp nd
    by_cases hx : x = a
    · subst hx
      rw [List.filter_cons_of_pos ((hp x (List.mem_cons_self ..)).mpr rfl)]
      congr 1
      rw [List.filter_eq_nil_iff]
      intro y hy hpy
      have := (hp y (List.mem_cons_of_mem _ hy)).mp hpy
      subst this
      exact n1 hy
    · rw [List.filter_cons_of_neg (fun z => hx ((hp x (List.mem_cons_self ..)).mp z))]
      refine filter_one n2 ?_ fun y hy => hp y (List.mem_cons_of_mem _ hy)
      rcases List.mem_cons.mp h with z | z
      · exact absurd z.symm hx
      · exact z
theorem fr_one {P : Fin n → Bool} {a : Fin n} (h : ∀ x, P x = true ↔ x = a) : (List.finRange n).filter P = [a] := filter_one (List.nodup_finRange n) (List.mem_finRange a) fun x _ => h x
theorem map_id_iff {f : Fin n → Fin n} : (List.finRange n).map f = List.finRange n ↔ ∀ a, f a = a := by
  have := row_eq (f := f) (g := id)
  rw [List.map_id] at this
  rw [this]
  exact ⟨fun h a => by rw [h]; rfl, fun h => funext h⟩
namespace Gr
variable (G : Gr m e v)
include G
theorem unit_l {x : Fin n} (h : ∀ a, m x a = a) : x = e := by rw [← G.er x]; exact h e
theorem inv_u {a b : Fin n} (h : m a b = e) : b = v a := by rw [← G.el b, ← G.vl a, G.as, h, G.er]
theorem inv_u' {a b : Fin n} (h : m b a = e) : b = v a := by rw [← G.er b, ← G.vr a, ← G.as, h, G.el]
theorem can_l {a b c : Fin n} (h : m a b = m a c) : b = c := by
  have := congrArg (m (v a)) h
  rwa [← G.as, ← G.as, G.vl, G.el, G.el] at this
theorem can_r {a b c : Fin n} (h : m b a = m c a) : b = c := by
  have := congrArg (fun z => m z (v a)) h
  simp only [G.as, G.vr, G.er] at this
  exact this
theorem vv (a : Fin n) : v (v a) = a := (G.inv_u (G.vl a)).symm
theorem ve : v e = e := (G.inv_u (G.el e)).symm
theorem vm (a b : Fin n) : v (m a b) = m (v b) (v a) := (G.inv_u (by rw [G.as, ← G.as b, G.vr, G.el, G.vr])).symm
theorem rest1 : restL m = [e] := fr_one fun x => by
  rw [Bool.and_eq_true, decide_eq_true_eq, decide_eq_true_eq, map_id_iff, map_id_iff]
  exact ⟨fun h => G.unit_l h.1, fun h => by subst h; exact ⟨G.el, G.er⟩⟩
theorem back1 (a : Fin n) : backL m e a = [v a] := fr_one fun x => by
  rw [Bool.and_eq_true, decide_eq_true_eq, decide_eq_true_eq]
  exact ⟨fun h => G.inv_u h.2, fun h => by subst h; exact ⟨G.vl a, G.vr a⟩⟩
theorem odd0 : oddO m = none := by
  unfold oddO
  rw [List.findSome?_eq_none_iff]
  intro a _
  rw [List.findSome?_eq_none_iff]
  intro b _
  rw [List.findSome?_eq_none_iff]
  intro c _
  unfold oddV
  rw [if_pos (G.as a b c)]
end Gr
/-- a flaw, as the program looks for it -/
def flawO (m : Fin n → Fin n → Fin n) : Option D := match oddO m with
  | some d => some d
  | none => match restL m with
    | [] => some (.tuple [.str "rest"])
    | s :: _ => (List.finRange n).findSome? fun a => if (backL m s a).length = 0 then some (.tuple [.str "back", fi a]) else none
theorem oddO_tup {d : D} (h : oddO m = some d) : ∃ a b c : Fin n, d = .tuple [.str "three", fi a, fi b, fi c] := by
  unfold oddO at h
  obtain ⟨a, _, h⟩ := List.exists_of_findSome?_eq_some h
  obtain ⟨b, _, h⟩ := List.exists_of_findSome?_eq_some h
  obtain ⟨c, _, h⟩ := List.exists_of_findSome?_eq_some h
  unfold oddV at h
  split at h
  · cases h
  · injection h with h; exact ⟨a, b, c, h.symm⟩
theorem d_flaw_of_eq (hn : n ≤ 12) : d_flaw_of [tab m] = .ok ((flawO m).getD .none) := by
  apply runN_rt
  show sSeq _ _ [some (tab m), none, none, none] = _
  rw [sSeq_nx (show sAsg _ _ _ = .nx [some (tab m), some ((oddO m).getD .none), none, none] by simp [d_odd_three_eq hn])]
  have t : e2 oNoN (eV 1) (eK .none) [some (tab m), some ((oddO m).getD .none), none, none] = .ok (.bool (oddO m).isSome) := by
    cases h : oddO m with
    | none => rfl
    | some d =>
      obtain ⟨a, b, c, rfl⟩ := oddO_tup h
      rfl
  cases ho : oddO m with
  | some d =>
    rw [ho] at t
    rw [sSeq_rt (show sIf _ _ _ _ = .rt d by rw [sIf_b t]; rfl)]
    unfold flawO; rw [ho]; rfl
  | none =>
    rw [ho] at t
    rw [sSeq_nx (show sIf _ _ _ _ = .nx [some (tab m), some .none, none, none] by rw [sIf_b t]; rfl)]
    rw [sSeq_nx (show sAsg _ _ _ = .nx [some (tab m), some .none, some (fl (restL m)), none] by simp [d_rests_eq hn])]
    have t2 : e2 oEq (e1 oLen (eV 2)) (eK (.int 0)) [some (tab m), some .none, some (fl (restL m)), none] = .ok (.bool (decide (((restL m).length : Int) = 0))) := by simp
    unfold flawO; rw [ho]
    cases hr : restL m with
    | nil =>
      rw [hr] at t2
      rw [sSeq_rt (show sIf _ _ _ _ = .rt (.tuple [.str "rest"]) by rw [sIf_b t2]; rfl)]; rfl
    | cons s r =>
      rw [hr] at t2
      rw [sSeq_nx (show sIf _ _ _ _ = .nx [some (tab m), some .none, some (fl (s :: r)), none] by rw [sIf_b t2, if_neg (by simp; omega)]; rfl)]
      have L : FlOk (fun e => ∃ x, e = [some (tab m), some .none, some (fl (s :: r)), x]) ((List.finRange n).findSome? fun a => if (backL m s a).length = 0 then some (.tuple [.str "back", fi a]) else none)
          (sFor (gN 3) (iR1 (e1 oLen (eV 0))) (sIf (e2 oEq (e1 oLen (eCall d_backs [(eV 0), (e2 oIx (eV 2) (eK (.int 0))), (eV 3)])) (eK (.int 0))) (sRet (eTup [(eK (.str "back")), (eV 3)])) sSkip) [some (tab m), some .none, some (fl (s :: r)), none]) := by
        rw [sFor_def, iR1_n (n := n) (by simp) (by omega), fl_okk]
        refine forL_first (i := fi) (I := fun e => ∃ x, e = [some (tab m), some .none, some (fl (s :: r)), x]) (fun a _ e he => ?_) ⟨_, rfl⟩
        obtain ⟨x, rfl⟩ := he
        refine ⟨_, rfl, ?_⟩
        have i0 : oIx (fl (s :: r)) (.int 0) = .ok (fi s) := oIx_fl (i := 0) rfl
        rw [sIf_b (k := decide (((backL m s a).length : Int) = 0)) (by simp [i0, d_backs_eq hn])]
        by_cases h : (backL m s a).length = 0
        · rw [decide_eq_true (show ((backL m s a).length : Int) = 0 by omega), if_pos h]; rfl
        · rw [decide_eq_false (show ¬ ((backL m s a).length : Int) = 0 by omega), if_neg h]; exact ⟨_, rfl, _, rfl⟩
      show _ = Fl.rt (((List.finRange n).findSome? fun a => if (backL m s a).length = 0 then some (PyData.tuple [.str "back", fi a]) else none).getD .none)
      revert L
      cases ((List.finRange n).findSome? fun a => if (backL m s a).length = 0 then some (PyData.tuple [.str "back", fi a]) else none) with
      | some d => exact fun L => by rw [sSeq_rt L]; rfl
      | none => exact fun ⟨e, L, _⟩ => by rw [sSeq_nx L]; rfl
theorem d_flaw_tab (h0 : 1 ≤ n) (hn : n ≤ 12) : d_flaw_of [tab m] = .ok ((flawO m).getD .none) := d_flaw_of_eq hn
theorem Gr.flaw0 (G : Gr m e v) : flawO m = none := by
  unfold flawO
  rw [G.odd0, G.rest1]
  show ((List.finRange n).findSome? fun a => if (backL m e a).length = 0 then some (PyData.tuple [.str "back", fi a]) else none) = none
  rw [List.findSome?_eq_none_iff]
  intro a _
  rw [G.back1, if_neg (by simp)]
theorem flawO_tup {d : D} (h : flawO m = some d) : isNone d = false := by
  unfold flawO at h
  split at h
  · rename_i d' ho
    obtain ⟨a, b, c, rfl⟩ := oddO_tup ho
    cases h; rfl
  · split at h
    · cases h; rfl
    · obtain ⟨a, _, h⟩ := List.exists_of_findSome?_eq_some h
      split at h
      · cases h; rfl
      · cases h
theorem d_asked_folk_eq (h0 : 1 ≤ n) (hn : n ≤ 12) : d_asked_folk [tab m] = match flawO m with | none => .ok .none | some _ => .ex .NoFolk := by
  have t : e2 oNoN (eCall d_flaw_of [(eV 0)]) (eK .none) [some (tab m)] = .ok (.bool (flawO m).isSome) := by
    show (eCall d_flaw_of [(eV 0)] [some (tab m)]).bind _ = _
    rw [show eCall d_flaw_of [(eV 0)] [some (tab m)] = d_flaw_of [tab m] from rfl, d_flaw_of_eq hn]
    cases h : flawO m with
    | none => rfl
    | some d =>
      show Rs.ok (PyData.bool (!isNone d)) = _
      rw [flawO_tup h]; rfl
  have q : b_asked_folk [some (tab m)] = if (flawO m).isSome then .ex .NoFolk else .nx [some (tab m)] := by
    show sSeq _ _ _ = _
    rw [sSeq_nx (show sDrop _ _ = .nx [some (tab m)] by simp [d_asked_table_tab h0 hn]), sIf_b t]
    cases (flawO m).isSome <;> rfl
  cases h : flawO m with
  | none => rw [h] at q; exact runB_nx q
  | some d => rw [h] at q; exact runB_ex q
theorem Gr.d_asked_folk (G : Gr m e v) (h0 : 1 ≤ n) (hn : n ≤ 12) : d_asked_folk [tab m] = .ok .none := by rw [d_asked_folk_eq h0 hn, G.flaw0]
theorem d_asked_element_fi (a : Fin n) : d_asked_element [tab m, fi a] = .ok .none := by
  refine runB_nx (show sIf _ _ _ [some (tab m), some (fi a)] = .nx [some (tab m), some (fi a)] from ?_)
  have t : eOr (e2 oLt (eV 1) (eK (.int 0))) (e2 oGe (eV 1) (e1 oLen (eV 0))) [some (tab m), some (fi a)] = .ok (.bool false) := by
    have := a.isLt
    rw [eOr_bb (k := false) (l := false) (by simp [fi]) (fun _ => by simp [fi])]; rfl
  rw [sIf_b t]; rfl
theorem Gr.d_rest (G : Gr m e v) (h0 : 1 ≤ n) (hn : n ≤ 12) : d_rest [tab m] = .ok (fi e) := by
  apply runN_rt
  show sSeq _ _ [some (tab m)] = _
  have i0 : oIx (fl [e]) (.int 0) = .ok (fi e) := oIx_fl (i := 0) rfl
  rw [sSeq_nx (show sDrop _ _ = .nx [some (tab m)] by simp [G.d_asked_folk h0 hn])]
  simp [d_rests_eq hn, G.rest1, i0]
theorem Gr.d_back (G : Gr m e v) (h0 : 1 ≤ n) (hn : n ≤ 12) (a : Fin n) : d_back [tab m, fi a] = .ok (fi (v a)) := by
  apply runN_rt
  show sSeq _ _ [some (tab m), some (fi a)] = _
  have i0 : ∀ x : Fin n, oIx (fl [x]) (.int 0) = .ok (fi x) := fun x => oIx_fl (i := 0) rfl
  rw [sSeq_nx (show sDrop _ _ = .nx [some (tab m), some (fi a)] by simp [G.d_asked_folk h0 hn])]
  rw [sSeq_nx (show sDrop _ _ = .nx [some (tab m), some (fi a)] by simp [d_asked_element_fi])]
  simp [d_rests_eq hn, G.rest1, i0, d_backs_eq hn, G.back1]
end
end Tf
namespace Tf
open PySem
/-! ### cells, draws, copies -/
theorem ints_get (ns : List Int) (k : Nat) : (ns.map PyData.int)[k]? = (ns[k]?).map .int := by rw [List.getElem?_map]
theorem d_cell (ns : List Int) (k : Nat) : ∃ c : Int, d__law_cell_at [il ns, .int (k : Nat)] = .ok (.int c) := by
  have t : e2 oLt (eV 1) (e1 oLen (eV 0)) [some (il ns), some (.int (k : Nat))] = .ok (.bool (decide ((k : Int) < ns.length))) := by simp
  by_cases h : k < ns.length
  · refine ⟨ns[k], runN_rt ?_⟩
    show sSeq _ _ [some (il ns), some (.int (k : Nat))] = _
    have hi : oIx (il ns) (.int (k : Nat)) = .ok (.int ns[k]) := oIx_at (by rw [ints_get, List.getElem?_eq_getElem h]; rfl)
    rw [sSeq_rt (show sIf _ _ _ _ = .rt (.int ns[k]) by rw [sIf_b t, if_pos (by simp; exact h)]; simp [hi])]
  · refine ⟨0, runN_rt ?_⟩
    show sSeq _ _ [some (il ns), some (.int (k : Nat))] = _
    rw [sSeq_nx (show sIf _ _ _ _ = .nx [some (il ns), some (.int (k : Nat))] by rw [sIf_b t, if_neg (by simp; omega)]; simp)]
    simp
theorem oMul_small {i j : Int} (h : small64 i = true ∨ small64 j = true) : oMul (.int i) (.int j) = .ok (.int (i * j)) := by
  show (if small64 i || small64 j then Rs.ok (PyData.int (i * j)) else .no) = _
  rw [if_pos (by rw [Bool.or_eq_true]; exact h)]
theorem small_of {i : Int} (h : 0 ≤ i) (h2 : i < 1000000000000) : small64 i = true := by
  unfold small64; simp; omega
theorem d_draw (c : Int) (k b : Nat) (hk : k ≤ 1000) (hb : 0 < b) (hb2 : b ≤ 1000) : ∃ r : Nat, r < b ∧ d__law_draw [.int c, .int (k : Nat), .int (b : Nat)] = .ok (.int (r : Nat)) := by
  have fin : ∀ x : Int, ∃ r : Nat, r < b ∧ (x % (b : Int)) = (r : Nat) := fun x => by
    refine ⟨(x % (b : Int)).toNat, ?_, ?_⟩
    · have := Int.emod_lt_of_pos x (show (0 : Int) < b by omega)
      have := Int.emod_nonneg x (show (b : Int) ≠ 0 by omega)
      omega
    · have := Int.emod_nonneg x (show (b : Int) ≠ 0 by omega)
      omega
  have hb' : (0 : Int) < (b : Nat) := by omega
  have hb2' : ((b : Nat) : Int) < 1073741824 := by omega
  have t : e2 oEq (e2 oMod (eV 0) (eK (.int 2))) (eK (.int 0)) [some (.int c), some (.int (k : Nat)), some (.int (b : Nat)), none, none, none] = .ok (.bool (decide (c % 2 = 0))) := by simp
  by_cases h : c % 2 = 0
  · -- the loop
    have L : ∃ e', sFor (gN 4) (iR1 (eV 1)) (sAsg (gN 3) (e2 oDiv (eV 3) (eV 2))) [some (.int c), some (.int (k : Nat)), some (.int (b : Nat)), some (.int (c / 2)), none, none] = .nx e' ∧ ∃ x y, e' = [some (.int c), some (.int (k : Nat)), some (.int (b : Nat)), some (.int x), y, none] := by
      rw [sFor_def, iR1_n (n := k) (by simp) (by omega), fl_okk]
      refine (fun ⟨e, a, b⟩ => ⟨e, a, b⟩ : _ → _) (forL_ind (fun _ e => ∃ x y, e = [some (.int c), some (.int (k : Nat)), some (.int (b : Nat)), some (.int x), y, none]) (fun i d hd e he => ?_) ⟨_, _, rfl⟩)
      obtain ⟨x, y, rfl⟩ := he
      exact ⟨_, [some (.int c), some (.int (k : Nat)), some (.int (b : Nat)), some (.int (x / (b : Int))), some d, none], rfl, by simp [oDiv_int hb' hb2'], _, _, rfl⟩
    obtain ⟨_, h1, x, y, rfl⟩ := L
    obtain ⟨r, hr, er⟩ := fin x
    refine ⟨r, hr, runN_rt ?_⟩
    show sSeq _ _ [some (.int c), some (.int (k : Nat)), some (.int (b : Nat)), none, none, none] = _
    rw [sSeq_rt]
    rw [sIf_b t, decide_eq_true h, if_pos rfl, sSeq_nx (show sAsg _ _ _ = .nx [some (.int c), some (.int (k : Nat)), some (.int (b : Nat)), some (.int (c / 2)), none, none] by simp), sSeq_nx h1]
    simp [oMod_int hb', er]
  · have s1 : ∀ x : Int, small64 (x % 2147483647) = true := fun x => small_of (by omega) (by omega)
    have s2 : ∀ x : Int, small64 (x % 2147483629) = true := fun x => small_of (by omega) (by omega)
    have sk : small64 ((k : Int) + 3) = true := small_of (by omega) (by omega)
    have sc : ∀ i : Int, 0 ≤ i → i < 1000000000000 → small64 i = true := fun i => small_of
    let s0 : Int := (c % 2147483647 + 977 * (k : Int) + 1) * 48271 % 2147483647
    let s3 : Int := s0 * s0 % 2147483629
    let s4 : Int := (s3 + 40692 * ((k : Int) + 3)) * 69621 % 2147483647
    obtain ⟨r, hr, er⟩ := fin (s4 / 8)
    refine ⟨r, hr, runN_rt ?_⟩
    show sSeq _ _ [some (.int c), some (.int (k : Nat)), some (.int (b : Nat)), none, none, none] = _
    rw [sSeq_nx (show sIf _ _ _ _ = .nx [some (.int c), some (.int (k : Nat)), some (.int (b : Nat)), none, none, none] by rw [sIf_b t, decide_eq_false h]; simp)]
    rw [sSeq_nx (show sAsg _ _ _ = .nx [some (.int c), some (.int (k : Nat)), some (.int (b : Nat)), none, none, some (.int s0)] by
      simp [oMul_small (i := 977) (j := k) (.inl (by decide)), oMul_small (j := 48271) (.inr (by decide)), s0])]
    rw [sSeq_nx (show sAsg _ _ _ = .nx [some (.int c), some (.int (k : Nat)), some (.int (b : Nat)), none, none, some (.int s3)] by
      simp [oMul_small (i := s0) (j := s0) (.inl (s1 _)), s3])]
    rw [sSeq_nx (show sAsg _ _ _ = .nx [some (.int c), some (.int (k : Nat)), some (.int (b : Nat)), none, none, some (.int s4)] by
      simp [oMul_small (i := 40692) (.inl (by decide)), oMul_small (j := 69621) (.inr (by decide)), s4])]
    simp [oMod_int hb', er]
theorem listF_il (row : List Int) : oListF (il row) = .ok (il row) := by
  show (if (row.map PyData.int).all flat then Rs.ok (PyData.list (row.map .int)) else .no) = _
  rw [if_pos (by rw [List.all_map, List.all_eq_true]; intro x _; rfl)]; rfl
theorem copy_comp {i : Nat} {e : En} {a : DE} {rows : List (List Int)} (hi : i < e.length) (ha : a e = .ok (it rows)) (hl : rows.length ≤ 100000) : eComp [i] (gN i) (iL a) eYes (e1 oListF (eV i)) e = .ok (it rows) := by
  rw [eComp_map (xs := rows) (i := il) (P := fun _ => true) (F := il)]
  · rw [filter_yes]; rfl
  · rw [iL_def, ha]; rfl
  · exact hl
  · intro x _
    refine ⟨_, rfl, rfl, fun _ => ?_⟩
    rw [e1_def, eV_ok (d := il x)]
    · rw [bind_ok, listF_il]
    · rw [List.getElem?_set_self (by rw [wipeE_len]; exact hi)]
theorem d_copy_it (rows : List (List Int)) (hl : rows.length ≤ 100000) : d__law_copy [it rows] = .ok (it rows) := by
  apply runN_rt
  show sRet _ [some (it rows), none] = _
  rw [sRet_def, copy_comp (rows := rows) (show 1 < 2 by decide) rfl hl]; rfl
theorem d_copy {n : Nat} (hn : n ≤ 12) (m : Fin n → Fin n → Fin n) : d__law_copy [tab m] = .ok (tab m) := by
  rw [tab_it]; exact d_copy_it _ (by rw [List.length_map, List.length_finRange]; omega)
end Tf
namespace Tf
open PySem
/-! ### the twenty-four -/
def bT : Nat → List (List Nat)
  | 0 => [[0]]
  | 1 => [[0, 1], [1, 0]]
  | 2 => [[0, 1, 2], [1, 2, 0], [2, 0, 1]]
  | 3 => [[0, 1, 2, 3], [1, 2, 3, 0], [2, 3, 0, 1], [3, 0, 1, 2]]
  | 4 => [[0, 1, 2, 3], [1, 0, 3, 2], [2, 3, 0, 1], [3, 2, 1, 0]]
  | 5 => [[0, 1, 2, 3, 4], [1, 2, 3, 4, 0], [2, 3, 4, 0, 1], [3, 4, 0, 1, 2], [4, 0, 1, 2, 3]]
  | 6 => [[0, 1, 2, 3, 4, 5], [1, 2, 3, 4, 5, 0], [2, 3, 4, 5, 0, 1], [3, 4, 5, 0, 1, 2], [4, 5, 0, 1, 2, 3], [5, 0, 1, 2, 3, 4]]
  | 7 => [[0, 1, 2, 3, 4, 5, 6], [1, 2, 3, 4, 5, 6, 0], [2, 3, 4, 5, 6, 0, 1], [3, 4, 5, 6, 0, 1, 2], [4, 5, 6, 0, 1, 2, 3], [5, 6, 0, 1, 2, 3, 4], [6, 0, 1, 2, 3, 4, 5]]
  | 8 => [[0, 1, 2, 3, 4, 5, 6, 7], [1, 2, 3, 4, 5, 6, 7, 0], [2, 3, 4, 5, 6, 7, 0, 1], [3, 4, 5, 6, 7, 0, 1, 2], [4, 5, 6, 7, 0, 1, 2, 3], [5, 6, 7, 0, 1, 2, 3, 4], [6, 7, 0, 1, 2, 3, 4, 5], [7, 0, 1, 2, 3, 4, 5, 6]]
  | 9 => [[0, 1, 2, 3, 4, 5, 6, 7], [1, 0, 3, 2, 5, 4, 7, 6], [2, 3, 4, 5, 6, 7, 0, 1], [3, 2, 5, 4, 7, 6, 1, 0], [4, 5, 6, 7, 0, 1, 2, 3], [5, 4, 7, 6, 1, 0, 3, 2], [6, 7, 0, 1, 2, 3, 4, 5], [7, 6, 1, 0, 3, 2, 5, 4]]
  | 10 => [[0, 1, 2, 3, 4, 5, 6, 7], [1, 0, 3, 2, 5, 4, 7, 6], [2, 3, 0, 1, 6, 7, 4, 5], [3, 2, 1, 0, 7, 6, 5, 4], [4, 5, 6, 7, 0, 1, 2, 3], [5, 4, 7, 6, 1, 0, 3, 2], [6, 7, 4, 5, 2, 3, 0, 1], [7, 6, 5, 4, 3, 2, 1, 0]]
  | 11 => [[0, 1, 2, 3, 4, 5, 6, 7, 8], [1, 2, 3, 4, 5, 6, 7, 8, 0], [2, 3, 4, 5, 6, 7, 8, 0, 1], [3, 4, 5, 6, 7, 8, 0, 1, 2], [4, 5, 6, 7, 8, 0, 1, 2, 3], [5, 6, 7, 8, 0, 1, 2, 3, 4], [6, 7, 8, 0, 1, 2, 3, 4, 5], [7, 8, 0, 1, 2, 3, 4, 5, 6], [8, 0, 1, 2, 3, 4, 5, 6, 7]]
  | 12 => [[0, 1, 2, 3, 4, 5, 6, 7, 8], [1, 2, 0, 4, 5, 3, 7, 8, 6], [2, 0, 1, 5, 3, 4, 8, 6, 7], [3, 4, 5, 6, 7, 8, 0, 1, 2], [4, 5, 3, 7, 8, 6, 1, 2, 0], [5, 3, 4, 8, 6, 7, 2, 0, 1], [6, 7, 8, 0, 1, 2, 3, 4, 5], [7, 8, 6, 1, 2, 0, 4, 5, 3], [8, 6, 7, 2, 0, 1, 5, 3, 4]]
  | 13 => [[0, 1, 2, 3, 4, 5, 6, 7, 8, 9], [1, 2, 3, 4, 5, 6, 7, 8, 9, 0], [2, 3, 4, 5, 6, 7, 8, 9, 0, 1], [3, 4, 5, 6, 7, 8, 9, 0, 1, 2], [4, 5, 6, 7, 8, 9, 0, 1, 2, 3], [5, 6, 7, 8, 9, 0, 1, 2, 3, 4], [6, 7, 8, 9, 0, 1, 2, 3, 4, 5], [7, 8, 9, 0, 1, 2, 3, 4, 5, 6], [8, 9, 0, 1, 2, 3, 4, 5, 6, 7], [9, 0, 1, 2, 3, 4, 5, 6, 7, 8]]
  | 14 => [[0, 1, 2, 3, 4, 5, 6, 7, 8, 9, 10], [1, 2, 3, 4, 5, 6, 7, 8, 9, 10, 0], [2, 3, 4, 5, 6, 7, 8, 9, 10, 0, 1], [3, 4, 5, 6, 7, 8, 9, 10, 0, 1, 2], [4, 5, 6, 7, 8, 9, 10, 0, 1, 2, 3], [5, 6, 7, 8, 9, 10, 0, 1, 2, 3, 4], [6, 7, 8, 9, 10, 0, 1, 2, 3, 4, 5], [7, 8, 9, 10, 0, 1, 2, 3, 4, 5, 6], [8, 9, 10, 0, 1, 2, 3, 4, 5, 6, 7], [9, 10, 0, 1, 2, 3, 4, 5, 6, 7, 8], [10, 0, 1, 2, 3, 4, 5, 6, 7, 8, 9]]
  | 15 => [[0, 1, 2, 3, 4, 5, 6, 7, 8, 9, 10, 11], [1, 2, 3, 4, 5, 6, 7, 8, 9, 10, 11, 0], [2, 3, 4, 5, 6, 7, 8, 9, 10, 11, 0, 1], [3, 4, 5, 6, 7, 8, 9, 10, 11, 0, 1, 2], [4, 5, 6, 7, 8, 9, 10, 11, 0, 1, 2, 3], [5, 6, 7, 8, 9, 10, 11, 0, 1, 2, 3, 4], [6, 7, 8, 9, 10, 11, 0, 1, 2, 3, 4, 5], [7, 8, 9, 10, 11, 0, 1, 2, 3, 4, 5, 6], [8, 9, 10, 11, 0, 1, 2, 3, 4, 5, 6, 7], [9, 10, 11, 0, 1, 2, 3, 4, 5, 6, 7, 8], [10, 11, 0, 1, 2, 3, 4, 5, 6, 7, 8, 9], [11, 0, 1, 2, 3, 4, 5, 6, 7, 8, 9, 10]]
  | 16 => [[0, 1, 2, 3, 4, 5, 6, 7, 8, 9, 10, 11], [1, 0, 3, 2, 5, 4, 7, 6, 9, 8, 11, 10], [2, 3, 4, 5, 6, 7, 8, 9, 10, 11, 0, 1], [3, 2, 5, 4, 7, 6, 9, 8, 11, 10, 1, 0], [4, 5, 6, 7, 8, 9, 10, 11, 0, 1, 2, 3], [5, 4, 7, 6, 9, 8, 11, 10, 1, 0, 3, 2], [6, 7, 8, 9, 10, 11, 0, 1, 2, 3, 4, 5], [7, 6, 9, 8, 11, 10, 1, 0, 3, 2, 5, 4], [8, 9, 10, 11, 0, 1, 2, 3, 4, 5, 6, 7], [9, 8, 11, 10, 1, 0, 3, 2, 5, 4, 7, 6], [10, 11, 0, 1, 2, 3, 4, 5, 6, 7, 8, 9], [11, 10, 1, 0, 3, 2, 5, 4, 7, 6, 9, 8]]
  | 17 => [[0, 1, 2, 3, 4, 5], [1, 2, 0, 4, 5, 3], [2, 0, 1, 5, 3, 4], [3, 5, 4, 0, 2, 1], [4, 3, 5, 1, 0, 2], [5, 4, 3, 2, 1, 0]]
  | 18 => [[0, 1, 2, 3, 4, 5, 6, 7], [1, 2, 3, 0, 5, 6, 7, 4], [2, 3, 0, 1, 6, 7, 4, 5], [3, 0, 1, 2, 7, 4, 5, 6], [4, 7, 6, 5, 0, 3, 2, 1], [5, 4, 7, 6, 1, 0, 3, 2], [6, 5, 4, 7, 2, 1, 0, 3], [7, 6, 5, 4, 3, 2, 1, 0]]
  | 19 => [[0, 1, 2, 3, 4, 5, 6, 7, 8, 9], [1, 2, 3, 4, 0, 6, 7, 8, 9, 5], [2, 3, 4, 0, 1, 7, 8, 9, 5, 6], [3, 4, 0, 1, 2, 8, 9, 5, 6, 7], [4, 0, 1, 2, 3, 9, 5, 6, 7, 8], [5, 9, 8, 7, 6, 0, 4, 3, 2, 1], [6, 5, 9, 8, 7, 1, 0, 4, 3, 2], [7, 6, 5, 9, 8, 2, 1, 0, 4, 3], [8, 7, 6, 5, 9, 3, 2, 1, 0, 4], [9, 8, 7, 6, 5, 4, 3, 2, 1, 0]]
  | 20 => [[0, 1, 2, 3, 4, 5, 6, 7, 8, 9, 10, 11], [1, 2, 3, 4, 5, 0, 7, 8, 9, 10, 11, 6], [2, 3, 4, 5, 0, 1, 8, 9, 10, 11, 6, 7], [3, 4, 5, 0, 1, 2, 9, 10, 11, 6, 7, 8], [4, 5, 0, 1, 2, 3, 10, 11, 6, 7, 8, 9], [5, 0, 1, 2, 3, 4, 11, 6, 7, 8, 9, 10], [6, 11, 10, 9, 8, 7, 0, 5, 4, 3, 2, 1], [7, 6, 11, 10, 9, 8, 1, 0, 5, 4, 3, 2], [8, 7, 6, 11, 10, 9, 2, 1, 0, 5, 4, 3], [9, 8, 7, 6, 11, 10, 3, 2, 1, 0, 5, 4], [10, 9, 8, 7, 6, 11, 4, 3, 2, 1, 0, 5], [11, 10, 9, 8, 7, 6, 5, 4, 3, 2, 1, 0]]
  | 21 => [[0, 1, 2, 3, 4, 5, 6, 7], [1, 2, 3, 0, 5, 6, 7, 4], [2, 3, 0, 1, 6, 7, 4, 5], [3, 0, 1, 2, 7, 4, 5, 6], [4, 7, 6, 5, 2, 1, 0, 3], [5, 4, 7, 6, 3, 2, 1, 0], [6, 5, 4, 7, 0, 3, 2, 1], [7, 6, 5, 4, 1, 0, 3, 2]]
  | 22 => [[0, 1, 2, 3, 4, 5, 6, 7, 8, 9, 10, 11], [1, 2, 3, 4, 5, 0, 7, 8, 9, 10, 11, 6], [2, 3, 4, 5, 0, 1, 8, 9, 10, 11, 6, 7], [3, 4, 5, 0, 1, 2, 9, 10, 11, 6, 7, 8], [4, 5, 0, 1, 2, 3, 10, 11, 6, 7, 8, 9], [5, 0, 1, 2, 3, 4, 11, 6, 7, 8, 9, 10], [6, 11, 10, 9, 8, 7, 3, 2, 1, 0, 5, 4], [7, 6, 11, 10, 9, 8, 4, 3, 2, 1, 0, 5], [8, 7, 6, 11, 10, 9, 5, 4, 3, 2, 1, 0], [9, 8, 7, 6, 11, 10, 0, 5, 4, 3, 2, 1], [10, 9, 8, 7, 6, 11, 1, 0, 5, 4, 3, 2], [11, 10, 9, 8, 7, 6, 2, 1, 0, 5, 4, 3]]
  | 23 => [[0, 1, 2, 3, 4, 5, 6, 7, 8, 9, 10, 11], [1, 2, 0, 5, 3, 4, 7, 8, 6, 11, 9, 10], [2, 0, 1, 4, 5, 3, 8, 6, 7, 10, 11, 9], [3, 6, 9, 0, 7, 10, 1, 4, 11, 2, 5, 8], [4, 8, 10, 2, 6, 11, 0, 5, 9, 1, 3, 7], [5, 7, 11, 1, 8, 9, 2, 3, 10, 0, 4, 6], [6, 9, 3, 10, 0, 7, 4, 11, 1, 8, 2, 5], [7, 11, 5, 9, 1, 8, 3, 10, 2, 6, 0, 4], [8, 10, 4, 11, 2, 6, 5, 9, 0, 7, 1, 3], [9, 3, 6, 7, 10, 0, 11, 1, 4, 5, 8, 2], [10, 4, 8, 6, 11, 2, 9, 0, 5, 3, 7, 1], [11, 5, 7, 8, 9, 1, 10, 2, 3, 4, 6, 0]]
  | _ => [[0]]
def bn (k : Nat) : Nat := (bT k).length - 1
def bm (k : Nat) (a b : Fin (bn k + 1)) : Fin (bn k + 1) := Fin.ofNat _ (((bT k).getD a.val []).getD b.val 0)
def bv (k : Nat) (a : Fin (bn k + 1)) : Fin (bn k + 1) := Fin.ofNat _ (((bT k).getD a.val []).idxOf 0)
/-- that a table of Nat is a folk, by going through -/
def chkG (k : Nat) : Bool := (List.finRange (bn k + 1)).all fun a => decide (bm k 0 a = a) && decide (bm k a 0 = a) && decide (bm k (bv k a) a = 0) && decide (bm k a (bv k a) = 0) && (List.finRange (bn k + 1)).all fun b => (List.finRange (bn k + 1)).all fun c => decide (bm k (bm k a b) c = bm k a (bm k b c))
theorem chkG_gr {k : Nat} (h : chkG k = true) : Gr (bm k) 0 (bv k) := by
  unfold chkG at h
  rw [List.all_eq_true] at h
  have h1 : ∀ a, bm k 0 a = a ∧ bm k a 0 = a ∧ bm k (bv k a) a = 0 ∧ bm k a (bv k a) = 0 ∧ ∀ b c, bm k (bm k a b) c = bm k a (bm k b c) := fun a => by
    have := h a (List.mem_finRange a)
    simp only [Bool.and_eq_true, decide_eq_true_eq, List.all_eq_true] at this
    obtain ⟨⟨⟨⟨a1, a2⟩, a3⟩, a4⟩, a5⟩ := this
    exact ⟨a1, a2, a3, a4, fun b c => a5 b (List.mem_finRange b) c (List.mem_finRange c)⟩
  exact ⟨fun a b c => (h1 a).2.2.2.2 b c, fun a => (h1 a).1, fun a => (h1 a).2.1, fun a => (h1 a).2.2.1, fun a => (h1 a).2.2.2.1⟩
theorem chk_all : ((List.range 24).all fun k => chkG k && decide (bn k + 1 ≤ 12)) = true := by decide +kernel
theorem base_0 : d__law_base [.int 0] = .ok (tab (bm 0)) := by kernel_rfl
theorem base_1 : d__law_base [.int 1] = .ok (tab (bm 1)) := by kernel_rfl
theorem base_2 : d__law_base [.int 2] = .ok (tab (bm 2)) := by kernel_rfl
theorem base_3 : d__law_base [.int 3] = .ok (tab (bm 3)) := by kernel_rfl
theorem base_4 : d__law_base [.int 4] = .ok (tab (bm 4)) := by kernel_rfl
theorem base_5 : d__law_base [.int 5] = .ok (tab (bm 5)) := by kernel_rfl
theorem base_6 : d__law_base [.int 6] = .ok (tab (bm 6)) := by kernel_rfl
theorem base_7 : d__law_base [.int 7] = .ok (tab (bm 7)) := by kernel_rfl
theorem base_8 : d__law_base [.int 8] = .ok (tab (bm 8)) := by kernel_rfl
theorem base_9 : d__law_base [.int 9] = .ok (tab (bm 9)) := by kernel_rfl
theorem base_10 : d__law_base [.int 10] = .ok (tab (bm 10)) := by kernel_rfl
theorem base_11 : d__law_base [.int 11] = .ok (tab (bm 11)) := by kernel_rfl
theorem base_12 : d__law_base [.int 12] = .ok (tab (bm 12)) := by kernel_rfl
theorem base_13 : d__law_base [.int 13] = .ok (tab (bm 13)) := by kernel_rfl
theorem base_14 : d__law_base [.int 14] = .ok (tab (bm 14)) := by kernel_rfl
theorem base_15 : d__law_base [.int 15] = .ok (tab (bm 15)) := by kernel_rfl
theorem base_16 : d__law_base [.int 16] = .ok (tab (bm 16)) := by kernel_rfl
theorem base_17 : d__law_base [.int 17] = .ok (tab (bm 17)) := by kernel_rfl
theorem base_18 : d__law_base [.int 18] = .ok (tab (bm 18)) := by kernel_rfl
theorem base_19 : d__law_base [.int 19] = .ok (tab (bm 19)) := by kernel_rfl
theorem base_20 : d__law_base [.int 20] = .ok (tab (bm 20)) := by kernel_rfl
theorem base_21 : d__law_base [.int 21] = .ok (tab (bm 21)) := by kernel_rfl
theorem base_22 : d__law_base [.int 22] = .ok (tab (bm 22)) := by kernel_rfl
theorem base_23 : d__law_base [.int 23] = .ok (tab (bm 23)) := by kernel_rfl
theorem base_gr {k : Nat} (h : k < 24) : Gr (bm k) 0 (bv k) ∧ bn k + 1 ≤ 12 := by
  have := List.all_eq_true.mp chk_all k (List.mem_range.mpr h)
  rw [Bool.and_eq_true, decide_eq_true_eq] at this
  exact ⟨chkG_gr this.1, this.2⟩
theorem base_eq {k : Nat} (h : k < 24) : d__law_base [.int (k : Nat)] = .ok (tab (bm k)) := by
  match k, h with
  | 0, _ => exact base_0
  | 1, _ => exact base_1
  | 2, _ => exact base_2
  | 3, _ => exact base_3
  | 4, _ => exact base_4
  | 5, _ => exact base_5
  | 6, _ => exact base_6
  | 7, _ => exact base_7
  | 8, _ => exact base_8
  | 9, _ => exact base_9
  | 10, _ => exact base_10
  | 11, _ => exact base_11
  | 12, _ => exact base_12
  | 13, _ => exact base_13
  | 14, _ => exact base_14
  | 15, _ => exact base_15
  | 16, _ => exact base_16
  | 17, _ => exact base_17
  | 18, _ => exact base_18
  | 19, _ => exact base_19
  | 20, _ => exact base_20
  | 21, _ => exact base_21
  | 22, _ => exact base_22
  | 23, _ => exact base_23
  | _ + 24, h => omega
end Tf
namespace Tf
open PySem
/-! ### renamed -/
section
variable {n : Nat}
def upd2 (t : Fin n → Fin n → Fin n) (x y z : Fin n) : Fin n → Fin n → Fin n := fun a b => if a = x ∧ b = y then z else t a b
theorem map_set {α : Type} (f : Fin n → α) (x : Fin n) (z : α) : ((List.finRange n).map f).set x.val z = (List.finRange n).map fun a => if a = x then z else f a := by
  apply List.ext_getElem?
  intro i
  rw [List.getElem?_set]
  by_cases h : x.val = i
  · subst h
    rw [if_pos rfl, if_pos (by rw [List.length_map, List.length_finRange]; exact x.isLt), fr_map, if_pos rfl]
  · rw [if_neg h]
    by_cases hi : i < n
    · rw [show i = (⟨i, hi⟩ : Fin n).val from rfl, fr_map, fr_map, if_neg]
      intro z
      exact h (congrArg Fin.val z).symm
    · rw [List.getElem?_eq_none (by rw [List.length_map, List.length_finRange]; omega), List.getElem?_eq_none (by rw [List.length_map, List.length_finRange]; omega)]
theorem row_set (f : Fin n → Fin n) (y z : Fin n) : ((List.finRange n).map f |>.map fi).set y.val (fi z) = ((List.finRange n).map fun b => if b = y then z else f b).map fi := by
  rw [← map_set, List.map_set]
theorem oSetL_row (f : Fin n → Fin n) (y z : Fin n) : oSetL (((List.finRange n).map f).map fi) (fi y) (fi z) = .ok (((List.finRange n).map fun b => if b = y then z else f b).map fi) := by
  unfold oSetL fi
  simp only
  rw [List.length_map, List.length_map, List.length_finRange, ixN_nat y.isLt]
  simp only
  exact congrArg Rs.ok (row_set f y z)
theorem rowAt_tab (t : Fin n → Fin n → Fin n) (x : Fin n) : rowAt ((List.finRange n).map fun a => rowD (t a)) (fi x) = some (x.val, ((List.finRange n).map (t x)).map fi) := by
  unfold rowAt fi
  simp only
  rw [List.length_map, List.length_finRange, ixN_nat x.isLt]
  simp only
  rw [fr_map]; rfl
theorem setR_tab {j : Nat} {ix kx ax : DE} {e : En} {t : Fin n → Fin n → Fin n} {x y z : Fin n} (he : e[j]? = some (some (tab t))) (ha : ax e = .ok (fi z)) (hi : ix e = .ok (fi x)) (hk : kx e = .ok (fi y)) :
    sSetR j ix kx ax e = .nx (e.set j (some (tab (upd2 t x y z)))) := by
  unfold sSetR sIf0
  rw [if_pos (by unfold isL; rw [he]; rfl)]
  show (ax e).fl _ = _
  rw [ha, fl_okk, hi, fl_okk, he]
  unfold tab
  simp only
  rw [rowAt_tab]
  simp only
  rw [hk, fl_okk, oSetL_row, fl_okk]
  congr 3
  have := map_set (fun a => rowD (t a)) x (PyData.list (((List.finRange n).map fun b => if b = y then z else t x b).map fi))
  rw [this]
  congr 2
  funext a
  unfold upd2
  by_cases h : a = x
  · subst h
    rw [if_pos rfl]
    unfold rowD fl
    simp only [true_and]
  · rw [if_neg h]
    simp only [h, false_and, if_false]
/-- what is renamed by s (with its way back r) -/
def ren (s r : Fin n → Fin n) (m : Fin n → Fin n → Fin n) : Fin n → Fin n → Fin n := fun x y => s (m (r x) (r y))
theorem Gr.ren {m : Fin n → Fin n → Fin n} {e : Fin n} {v : Fin n → Fin n} (G : Gr m e v) {s r : Fin n → Fin n} (h1 : ∀ a, r (s a) = a) (h2 : ∀ a, s (r a) = a) : Gr (Tf.ren s r m) (s e) (fun a => s (v (r a))) :=
  ⟨fun a b c => by simp only [Tf.ren, h1, G.as], fun a => by simp only [Tf.ren, h1, G.el, h2], fun a => by simp only [Tf.ren, h1, G.er, h2], fun a => by simp only [Tf.ren, h1, G.vl], fun a => by simp only [Tf.ren, h1, G.vr]⟩

/-! ### the names -/
def nl (xs : List Nat) : D := .list (xs.map fun x => .int (x : Nat))
theorem perm_ins {xs : List Nat} {k i : Nat} (h : xs.Perm (List.range k)) : (xs.take i ++ [k] ++ xs.drop i).Perm (List.range (k + 1)) := by
  rw [List.range_succ]
  refine List.Perm.trans ?_ (h.append_right [k])
  have h1 : (xs.take i ++ [k] ++ xs.drop i).Perm (xs.take i ++ (xs.drop i ++ [k])) := by
    rw [List.append_assoc]
    exact List.Perm.append_left _ List.perm_append_comm
  rw [← List.append_assoc, List.take_append_drop] at h1
  exact h1
theorem fins_of {xs : List Nat} (h : xs.Perm (List.range n)) : ∃ ys : List (Fin n), xs = ys.map Fin.val ∧ ys.Perm (List.finRange n) := by
  have hb : ∀ x ∈ xs, x < n := fun x hx => List.mem_range.mp (h.mem_iff.mp hx)
  have hp : xs = (xs.pmap (fun x hx => (⟨x, hx⟩ : Fin n)) hb).map Fin.val := by
    rw [List.map_pmap]
    symm
    have : ∀ (l : List Nat) (hl : ∀ x ∈ l, x < n), l.pmap (fun a h => a) hl = l := fun l => by
      induction l with
      | nil => intro _; rfl
      | cons x l ih => intro hl; rw [List.pmap_cons, ih]
    exact this xs hb
  refine ⟨_, hp, ?_⟩
  have hn : xs.Nodup := h.nodup_iff.mpr List.nodup_range
  rw [hp] at hn
  have nd : (xs.pmap (fun x hx => (⟨x, hx⟩ : Fin n)) hb).Nodup := by
    rw [List.Nodup, List.pairwise_map] at hn
    exact hn.imp fun h z => h (congrArg Fin.val z)
  refine (List.perm_ext_iff_of_nodup nd (List.nodup_finRange n)).mpr fun a => ⟨fun _ => List.mem_finRange a, fun _ => ?_⟩
  rw [List.mem_pmap]
  exact ⟨a.val, h.mem_iff.mpr (List.mem_range.mpr a.isLt), rfl⟩
/-- a list of all gives a renaming and its way back -/
theorem bij_of {ys : List (Fin n)} (h : ys.Perm (List.finRange n)) : ∃ s r : Fin n → Fin n, (∀ a : Fin n, ys[a.val]? = some (s a)) ∧ (∀ a, r (s a) = a) ∧ ∀ a, s (r a) = a := by
  have hl : ys.length = n := by rw [h.length_eq, List.length_finRange]
  have nd : ys.Nodup := h.nodup_iff.mpr (List.nodup_finRange n)
  have hm : ∀ a : Fin n, a ∈ ys := fun a => h.mem_iff.mpr (List.mem_finRange a)
  have hix : ∀ a : Fin n, ys.idxOf a < n := fun a => by
    have := List.idxOf_lt_length_of_mem (hm a)
    rw [hl] at this; exact this
  have hs : ∀ a : Fin n, a.val < ys.length := fun a => by rw [hl]; exact a.isLt
  have q : ∀ a : Fin n, ys[ys.idxOf a]? = some a := fun a => by
    have := List.idxOf_lt_length_of_mem (hm a)
    rw [List.getElem?_eq_getElem this, List.getElem_idxOf]
  refine ⟨fun a => ys[a.val]'(hs a), fun a => ⟨ys.idxOf a, hix a⟩, fun a => List.getElem?_eq_getElem (hs a), fun a => ?_, fun a => ?_⟩
  · apply Fin.ext
    exact nd.idxOf_getElem a.val (hs a)
  · have := q a
    rw [List.getElem?_eq_getElem (by have := hix a; omega)] at this
    exact Option.some.inj this
end
end Tf
namespace Tf
open PySem
section
variable {n : Nat}
theorem sChg_ok {j : Nat} {f : List D → List D → Rs (List D)} {es : List DE} {e : En} {xs ds ys : List D} (he : e[j]? = some (some (.list xs))) (hl : eL es e = .ok ds) (hf : f xs ds = .ok ys) : sChg j f es e = .nx (e.set j (some (.list ys))) := by
  unfold sChg sIf0
  rw [if_pos (by unfold isL; rw [he])]
  show (eL es e).fl _ = _
  rw [hl, fl_okk, he]
  simp only
  rw [hf, fl_okk]
theorem get_of_get {α : Type} {xs : List α} {i : Nat} {d : α} (h : xs[i]? = some d) : i < xs.length := by
  by_cases z : i < xs.length
  · exact z
  · rw [List.getElem?_eq_none (by omega)] at h; cases h
/-- one loop over all elements -/
theorem for_fi {g : DG} {b : DS} (I : Nat → En → Prop) (h : ∀ (a : Fin n) e, I a.val e → ∃ e' e2, g (fi a) e = .ok e' ∧ b e' = .nx e2 ∧ I (a.val + 1) e2) {e : En} (h0 : I 0 e) : ∃ e2, forL g b ((List.finRange n).map fi) e = .nx e2 ∧ I n e2 := by
  have := forL_ind (g := g) (b := b) (ds := (List.finRange n).map fi) I (fun i d hd e hi => ?_) h0
  · rwa [List.length_map, List.length_finRange] at this
  · have hl := get_of_get hd
    rw [List.length_map, List.length_finRange] at hl
    have h2 : ((List.finRange n).map fi)[(⟨i, hl⟩ : Fin n).val]? = some (fi ⟨i, hl⟩) := fr_map fi ⟨i, hl⟩
    have : d = fi ⟨i, hl⟩ := Option.some.inj (hd.symm.trans h2)
    subst this
    exact h ⟨i, hl⟩ e hi
theorem seq_for {g : DG} {i : DI} {b rest : DS} {e : En} {R : Fl} (hi : i e = .ok ((List.finRange n).map fi)) (I : Nat → En → Prop) (h0 : I 0 e) (h : ∀ (a : Fin n) e, I a.val e → ∃ e' e2, g (fi a) e = .ok e' ∧ b e' = .nx e2 ∧ I (a.val + 1) e2)
    (k : ∀ e', I n e' → rest e' = R) : sSeq (sFor g i b) rest e = R := by
  obtain ⟨e2, h1, h2⟩ := for_fi I h h0
  rw [sSeq_nx (show sFor g i b e = .nx e2 by rw [sFor_def, hi, fl_okk]; exact h1)]
  exact k e2 h2
/-- a step that goes on -/
theorem seq_nx {a b : DS} {e : En} {R : Fl} (e' : En) (h : a e = .nx e') (k : b e' = R) : sSeq a b e = R := by rw [sSeq_nx h]; exact k
theorem nl_fl (ys : List (Fin n)) : nl (ys.map Fin.val) = fl ys := by
  unfold nl fl
  rw [List.map_map]; rfl
theorem iR1_len {j : Nat} {e : En} {m : Fin n → Fin n → Fin n} (hn : n ≤ 12) (h : e[j]? = some (some (tab m))) : iR1 (e1 oLen (eV j)) e = .ok ((List.finRange n).map fi) := iR1_n (by rw [e1_def, eV_ok h, bind_ok, oLen_tab]) (by omega)
theorem d_renamed (hn : n ≤ 12) (m : Fin n → Fin n → Fin n) (c : Int) : ∃ s r : Fin n → Fin n, (∀ a, r (s a) = a) ∧ (∀ a, s (r a) = a) ∧ d__law_renamed [tab m, .int c] = .ok (tab (ren s r m)) := by
  -- the names
  have L1 : ∃ e', sFor (gN 3) (iR1 (e1 oLen (eV 0))) (sChg 2 cIns [(e2 oMod (eCall d__law_draw [(eV 1), (eV 3), (eK (.int 12))]) (e2 oAddS (eV 3) (eK (.int 1)))), (eV 3)]) [some (tab m), some (.int c), some (nl []), none, none, none, none, none] = .nx e' ∧
      ∃ xs x, xs.Perm (List.range n) ∧ e' = [some (tab m), some (.int c), some (nl xs), x, none, none, none, none] := by
    rw [sFor_def, iR1_len hn rfl, fl_okk]
    refine for_fi (fun i e => ∃ xs x, xs.Perm (List.range i) ∧ e = [some (tab m), some (.int c), some (nl xs), x, none, none, none, none]) (fun a e he => ?_) ⟨[], none, List.Perm.refl _, rfl⟩
    obtain ⟨xs, x, hp, rfl⟩ := he
    obtain ⟨r, hr, ed⟩ := d_draw c a.val 12 (by have := a.isLt; omega) (by decide) (by decide)
    have hlen : xs.length = a.val := by rw [hp.length_eq, List.length_range]
    have ep : ((r : Int) % ((a.val : Int) + 1)) = ((r % (a.val + 1) : Nat) : Int) := by
      rw [Int.natCast_emod]; rfl
    refine ⟨[some (tab m), some (.int c), some (nl xs), some (fi a), none, none, none, none], [some (tab m), some (.int c), some (nl (xs.take (r % (a.val + 1)) ++ [a.val] ++ xs.drop (r % (a.val + 1)))), some (fi a), none, none, none, none], rfl, ?_, _, _, perm_ins hp, rfl⟩
    refine sChg_ok (ds := [.int ((r % (a.val + 1) : Nat) : Int), fi a]) rfl ?_ ?_
    · have e12 : d__law_draw [.int c, fi a, .int 12] = .ok (.int (r : Nat)) := ed
      simp only [eL_cons, eL_nil, e2_def, eCall_def, eV_zero, eV_succ, eK_ok, bind_ok, e12]
      rw [show oAddS (fi a) (.int 1) = .ok (.int ((a.val : Int) + 1)) from rfl, bind_ok, oMod_int (by omega), bind_ok, ep]
    · show (if lim (xs.map fun x : Nat => PyData.int (x : Int)).length && (decide (0 ≤ ((r % (a.val + 1) : Nat) : Int)) && decide (((r % (a.val + 1) : Nat) : Int) < 2 ^ 62)) then Rs.ok ((xs.map fun x : Nat => PyData.int (x : Int)).take (((r % (a.val + 1) : Nat) : Int).toNat) ++ [fi a] ++ (xs.map fun x : Nat => PyData.int (x : Int)).drop (((r % (a.val + 1) : Nat) : Int).toNat)) else .no) = _
      have h1 : r % (a.val + 1) < a.val + 1 := Nat.mod_lt _ (by omega)
      have h2 := a.isLt
      rw [if_pos]
      · rw [Int.toNat_natCast]
        simp only [List.map_append, List.map_take, List.map_drop, List.map_cons, List.map_nil]
        rfl
      · rw [List.length_map, hlen, decide_eq_true (Int.natCast_nonneg _), decide_eq_true (show ((r % (a.val + 1) : Nat) : Int) < 2 ^ 62 by omega)]
        unfold lim
        rw [decide_eq_true (by omega)]; rfl
  obtain ⟨_, h1, xs, x, hp, rfl⟩ := L1
  obtain ⟨ys, rfl, hy⟩ := fins_of hp
  obtain ⟨s, r, hs, hrs, hsr⟩ := bij_of hy
  refine ⟨s, r, hrs, hsr, ?_⟩
  rw [nl_fl] at h1
  have ixs : ∀ a : Fin n, oIx (fl ys) (fi a) = .ok (fi (s a)) := fun a => oIx_fl (hs a)
  -- the copy
  have cp : sAsg (gN 4) (eComp [7] (gN 7) (iL (eV 0)) eYes (e1 oListF (eV 7))) [some (tab m), some (.int c), some (fl ys), x, none, none, none, none] = .nx [some (tab m), some (.int c), some (fl ys), x, some (tab m), none, none, none] := by
    have q : eComp [7] (gN 7) (iL (eV 0)) eYes (e1 oListF (eV 7)) [some (tab m), some (.int c), some (fl ys), x, none, none, none, none] = .ok (tab m) := by
      rw [tab_it]
      exact copy_comp (show 7 < 8 by decide) (eV_zero _ _) (by rw [List.length_map, List.length_finRange]; omega)
    rw [sAsg_def, q]; rfl
  -- the cells
  let I : Fin n → Fin n → (Fin n → Fin n → Fin n) → Prop := fun a b t => t (s a) (s b) = s (m a b)
  have L2 : ∃ e', sFor (gN 5) (iR1 (e1 oLen (eV 0))) (sFor (gN 6) (iR1 (e1 oLen (eV 0))) (sSetR 4 (e2 oIx (eV 2) (eV 5)) (e2 oIx (eV 2) (eV 6)) (e2 oIx (eV 2) (e2 oIx (e2 oIx (eV 0) (eV 5)) (eV 6))))) [some (tab m), some (.int c), some (fl ys), x, some (tab m), none, none, none] = .nx e' ∧
      ∃ t y z, (∀ a b : Fin n, a.val < n → I a b t) ∧ e' = [some (tab m), some (.int c), some (fl ys), x, some (tab t), y, z, none] := by
    rw [sFor_def, iR1_len hn rfl, fl_okk]
    refine for_fi (fun i e => ∃ t y z, (∀ a b : Fin n, a.val < i → I a b t) ∧ e = [some (tab m), some (.int c), some (fl ys), x, some (tab t), y, z, none]) (fun a e he => ?_) ⟨m, none, none, fun a b h => absurd h (Nat.not_lt_zero _), rfl⟩
    obtain ⟨t, y, z, ht, rfl⟩ := he
    have L3 : ∃ e', sFor (gN 6) (iR1 (e1 oLen (eV 0))) (sSetR 4 (e2 oIx (eV 2) (eV 5)) (e2 oIx (eV 2) (eV 6)) (e2 oIx (eV 2) (e2 oIx (e2 oIx (eV 0) (eV 5)) (eV 6)))) [some (tab m), some (.int c), some (fl ys), x, some (tab t), some (fi a), z, none] = .nx e' ∧
        ∃ t z, (∀ a' b : Fin n, a'.val < a.val → I a' b t) ∧ (∀ b : Fin n, b.val < n → I a b t) ∧ e' = [some (tab m), some (.int c), some (fl ys), x, some (tab t), some (fi a), z, none] := by
      rw [sFor_def, iR1_len hn rfl, fl_okk]
      refine for_fi (fun i e => ∃ t z, (∀ a' b : Fin n, a'.val < a.val → I a' b t) ∧ (∀ b : Fin n, b.val < i → I a b t) ∧ e = [some (tab m), some (.int c), some (fl ys), x, some (tab t), some (fi a), z, none]) (fun b e he => ?_) ⟨t, z, ht, fun b h => absurd h (Nat.not_lt_zero _), rfl⟩
      obtain ⟨t, z, ht1, ht2, rfl⟩ := he
      have inj : ∀ {u w : Fin n}, s u = s w → u = w := fun {u w} h => by rw [← hrs u, h, hrs]
      refine ⟨[some (tab m), some (.int c), some (fl ys), x, some (tab t), some (fi a), some (fi b), none], [some (tab m), some (.int c), some (fl ys), x, some (tab (upd2 t (s a) (s b) (s (m a b)))), some (fi a), some (fi b), none], rfl, ?_, _, _, fun a' b' h => ?_, fun b' h => ?_, rfl⟩
      · exact setR_tab rfl (by simp [ixs]) (by simp [ixs]) (by simp [ixs])
      · show upd2 t (s a) (s b) (s (m a b)) (s a') (s b') = s (m a' b')
        unfold upd2
        split
        · rename_i h
          rw [inj h.1, inj h.2]
        · exact ht1 a' b' h
      · show upd2 t (s a) (s b) (s (m a b)) (s a) (s b') = s (m a b')
        unfold upd2
        split
        · rename_i h
          rw [inj h.2]
        · rename_i h2
          refine ht2 b' ?_
          rcases Nat.lt_or_ge b'.val b.val with q | q
          · exact q
          · have : b' = b := Fin.ext (by omega)
            subst this
            exact absurd ⟨rfl, rfl⟩ h2
    obtain ⟨_, q1, t', z', p1, p2, rfl⟩ := L3
    refine ⟨[some (tab m), some (.int c), some (fl ys), x, some (tab t), some (fi a), z, none], _, rfl, q1, t', some (fi a), z', fun a' b' h => ?_, rfl⟩
    rcases Nat.lt_or_ge a'.val a.val with q | q
    · exact p1 a' b' q
    · have : a' = a := Fin.ext (by omega)
      subst this
      exact p2 b' b'.isLt
  obtain ⟨_, h2, t, y, z, ht, rfl⟩ := L2
  have et : t = ren s r m := by
    funext a b
    have := ht (r a) (r b) (r a).isLt
    simp only [I, hsr] at this
    exact this
  subst et
  apply runN_rt
  show sSeq _ _ [some (tab m), some (.int c), none, none, none, none, none, none] = _
  rw [sSeq_nx (show sAsg _ _ _ = .nx [some (tab m), some (.int c), some (nl []), none, none, none, none, none] by simp [nl]), sSeq_nx h1, sSeq_nx cp, sSeq_nx h2]
  simp
/-- the folk that a script draws -/
theorem d_folk_by (ns : List Int) (f : Nat) : ∃ (k : Nat) (s r : Fin (bn k + 1) → Fin (bn k + 1)), k < 24 ∧ (∀ a, r (s a) = a) ∧ (∀ a, s (r a) = a) ∧ d__law_folk_by [il ns, .int (f : Nat)] = .ok (tab (ren s r (bm k))) := by
  obtain ⟨c, hc⟩ := d_cell ns f
  obtain ⟨c2, hc2⟩ := d_cell ns (f + 1)
  obtain ⟨k, hk, ek⟩ : ∃ k : Nat, k < 24 ∧ c % 24 = (k : Int) := ⟨(c % 24).toNat, by omega, by omega⟩
  obtain ⟨s, r, h1, h2, h3⟩ := d_renamed (base_gr hk).2 (bm k) c2
  refine ⟨k, s, r, hk, h1, h2, runN_rt ?_⟩
  show sRet _ [some (il ns), some (.int (f : Nat))] = _
  have e1 : ((f : Int) + 1) = ((f + 1 : Nat) : Int) := by omega
  simp only [sRet_def, eCall_def, eL_cons, eL_nil, e2_def, eV_zero, eV_succ, eK_ok, bind_ok, hc, oAddS_int, e1, hc2, oMod_int (show (0 : Int) < 24 by decide), ek, base_eq hk, h3, fl_okk]
/-- the same, as some folk -/
theorem d_folk (ns : List Int) (f : Nat) : ∃ (n : Nat) (m : Fin n → Fin n → Fin n) (e : Fin n) (v : Fin n → Fin n), 1 ≤ n ∧ n ≤ 12 ∧ Gr m e v ∧ d__law_folk_by [il ns, .int (f : Nat)] = .ok (tab m) := by
  obtain ⟨k, s, r, hk, h1, h2, h3⟩ := d_folk_by ns f
  exact ⟨bn k + 1, _, _, _, by omega, (base_gr hk).2, (base_gr hk).1.ren h1 h2, h3⟩
theorem d_whole_int (i : Int) : d__law_whole [.int i] = .ok (.bool true) := by
  apply runN_rt
  show sRet _ [some (.int i)] = _
  rw [sRet_def, eAnd_bb (k := true) (l := true) (by rfl) fun _ => by rfl]; rfl
theorem d_whole_fi (a : Fin n) : d__law_whole [fi a] = .ok (.bool true) := d_whole_int _
end
end Tf
namespace Tf
open PySem
/-! ### counting -/
theorem len_le_of_sub {α : Type} [DecidableEq α] : ∀ {xs ys : List α}, xs.Nodup → (∀ x ∈ xs, x ∈ ys) → xs.length ≤ ys.length
  | [], _, _, _ => Nat.zero_le _
  | x :: xs, ys, nd, h => by
    obtain ⟨n1, n2⟩ := List.nodup_cons.mp nd
    have hx : x ∈ ys := h x (List.mem_cons_self ..)
    have ih := len_le_of_sub (xs := xs) (ys := ys.erase x) n2 fun y hy => (List.mem_erase_of_ne (fun z => n1 (by rw [← z]; exact hy))).mpr (h y (List.mem_cons_of_mem _ hy))
    rw [List.length_erase_of_mem hx] at ih
    have : 0 < ys.length := List.length_pos_of_mem hx
    rw [List.length_cons]; omega
theorem len_eq_of_iff {α : Type} [DecidableEq α] {xs ys : List α} (h1 : xs.Nodup) (h2 : ys.Nodup) (h : ∀ x, x ∈ xs ↔ x ∈ ys) : xs.length = ys.length :=
  Nat.le_antisymm (len_le_of_sub h1 fun x hx => (h x).mp hx) (len_le_of_sub h2 fun x hx => (h x).mpr hx)
theorem exists_least {P : Nat → Prop} : ∀ {k : Nat}, P k → ∃ d, P d ∧ d ≤ k ∧ ∀ j, j < d → ¬P j := by
  intro k
  induction k using Nat.strongRecOn with
  | _ k ih =>
    intro hk
    by_cases h : ∃ j, j < k ∧ P j
    · obtain ⟨j, h1, h2⟩ := h
      obtain ⟨d, a, b, c⟩ := ih j h1 h2
      exact ⟨d, a, by omega, c⟩
    · exact ⟨k, hk, Nat.le_refl _, fun j hj hp => h ⟨j, hj, hp⟩⟩
/-- a list cut into classes of d each has a length that d goes into -/
theorem dvd_of_classes {α : Type} [DecidableEq α] {d : Nat} (c : α → List α) (hn : ∀ x, (c x).Nodup) (hl : ∀ x, (c x).length = d) (hs : ∀ x, x ∈ c x) (ht : ∀ x y z, y ∈ c x → (z ∈ c x ↔ z ∈ c y)) :
    ∀ (k : Nat) (ys : List α), ys.length ≤ k → ys.Nodup → (∀ x ∈ ys, ∀ y ∈ c x, y ∈ ys) → d ∣ ys.length
  | 0, ys, h, _, _ => by
    have : ys.length = 0 := by omega
    rw [this]; exact Nat.dvd_zero d
  | k + 1, [], _, _, _ => Nat.dvd_zero d
  | k + 1, x :: r, h, nd, cl => by
    have e1 : ((x :: r).filter fun y => decide (y ∈ c x)).length = d := by
      rw [← hl x]
      refine len_eq_of_iff (nd.sublist List.filter_sublist) (hn x) fun y => ?_
      rw [List.mem_filter, decide_eq_true_eq]
      exact ⟨fun z => z.2, fun z => ⟨cl x (List.mem_cons_self ..) y z, z⟩⟩
    have hd : 0 < d := by rw [← hl x]; exact List.length_pos_of_mem (hs x)
    have e2 : (x :: r).length = ((x :: r).filter fun y => decide (y ∈ c x)).length + ((x :: r).filter fun y => !decide (y ∈ c x)).length := by
      rw [← List.length_append, (List.filter_append_perm (fun y => decide (y ∈ c x)) (x :: r)).length_eq]
    have ih := dvd_of_classes c hn hl hs ht k ((x :: r).filter fun y => !decide (y ∈ c x)) (by omega) (nd.sublist List.filter_sublist) (fun y hy z hz => by
      rw [List.mem_filter] at hy ⊢
      refine ⟨cl y hy.1 z hz, ?_⟩
      have h1 : ¬ y ∈ c x := by simpa using hy.2
      have h2 : ¬ z ∈ c x := fun w => h1 ((ht x z y w).mpr ((ht y z y hz).mp (hs y)))
      simpa using h2)
    rw [e2, e1]
    exact Nat.dvd_add (Nat.dvd_refl d) ih
section
variable {n : Nat} {m : Fin n → Fin n → Fin n} {e : Fin n} {v : Fin n → Fin n}
/-- a list of elements that is a folk of its own -/
structure Sub (m : Fin n → Fin n → Fin n) (e : Fin n) (xs : List (Fin n)) : Prop where
  nd : xs.Nodup
  en : e ∈ xs
  cl : ∀ a ∈ xs, ∀ b ∈ xs, m a b ∈ xs
/-! ### powers -/
def pw (m : Fin n → Fin n → Fin n) (e a : Fin n) : Nat → Fin n
  | 0 => e
  | k + 1 => m (pw m e a k) a
namespace Gr
variable (G : Gr m e v)
include G
theorem pw1 (a : Fin n) : pw m e a 1 = a := G.el a
theorem pw_add (a : Fin n) (i j : Nat) : m (pw m e a i) (pw m e a j) = pw m e a (i + j) := by
  induction j with
  | zero => exact G.er _
  | succ j ih => show m (pw m e a i) (m (pw m e a j) a) = m (pw m e a (i + j)) a; rw [← G.as, ih]
theorem pw_succ' (a : Fin n) (k : Nat) : m a (pw m e a k) = pw m e a (k + 1) := by
  have := G.pw_add a 1 k
  rw [G.pw1, Nat.add_comm] at this
  exact this
theorem pw_e (k : Nat) : pw m e e k = e := by
  induction k with
  | zero => rfl
  | succ k ih => show m (pw m e e k) e = e; rw [ih, G.el]
theorem pw_mul (a : Fin n) (i j : Nat) (h : pw m e a i = e) : pw m e a (i * j) = e := by
  induction j with
  | zero => rfl
  | succ j ih => rw [Nat.mul_succ, ← G.pw_add, ih, h, G.el]
theorem pw_mod (a : Fin n) {d : Nat} (h : pw m e a d = e) (k : Nat) : pw m e a (k % d) = pw m e a k := by
  have := G.pw_add a (d * (k / d)) (k % d)
  rw [G.pw_mul a d _ h, G.el, Nat.div_add_mod] at this
  exact this
theorem pw_sub (a : Fin n) {i j : Nat} (hij : i ≤ j) (h : pw m e a i = pw m e a j) : pw m e a (j - i) = e := by
  have := G.pw_add a i (j - i)
  rw [Nat.add_sub_cancel' hij, ← h] at this
  exact G.can_l (this.trans (G.er _).symm)
theorem pw_v (a : Fin n) (k : Nat) : pw m e (v a) k = v (pw m e a k) := by
  induction k with
  | zero => exact G.ve.symm
  | succ k ih => show m (pw m e (v a) k) (v a) = v (m (pw m e a k) a); rw [ih, ← G.vm, G.pw_succ']; rfl
end Gr
/-- how often until the rest -/
structure IsOrd (m : Fin n → Fin n → Fin n) (e a : Fin n) (d : Nat) : Prop where
  pos : 1 ≤ d
  at_d : pw m e a d = e
  least : ∀ k, 1 ≤ k → k < d → pw m e a k ≠ e
theorem IsOrd.u {a : Fin n} {d d' : Nat} (h : IsOrd m e a d) (h' : IsOrd m e a d') : d = d' := by
  rcases Nat.lt_trichotomy d d' with q | q | q
  · exact absurd h.at_d (h'.least d h.pos q)
  · exact q
  · exact absurd h'.at_d (h.least d' h'.pos q)
def pws (m : Fin n → Fin n → Fin n) (e a : Fin n) (d : Nat) : List (Fin n) := (List.range d).map (pw m e a)
namespace Gr
variable (G : Gr m e v)
include G
theorem pws_nodup {a : Fin n} {d : Nat} (h : ∀ k, 1 ≤ k → k < d → pw m e a k ≠ e) : (pws m e a d).Nodup := by
  unfold pws
  rw [List.Nodup, List.pairwise_map]
  refine List.pairwise_lt_range.imp_of_mem fun {i j} hi hj hij z => ?_
  have := G.pw_sub a (Nat.le_of_lt hij) z
  exact h (j - i) (by omega) (by have := List.mem_range.mp hj; omega) this
theorem ord_ex (a : Fin n) : ∃ d, IsOrd m e a d ∧ d ≤ n := by
  have ex : ∃ k, 1 ≤ k ∧ k ≤ n ∧ pw m e a k = e := by
    apply Classical.byContradiction
    intro hno
    have nd : (pws m e a (n + 1)).Nodup := G.pws_nodup fun k h1 h2 h3 => hno ⟨k, h1, by omega, h3⟩
    have := len_le_of_sub nd (ys := List.finRange n) fun x _ => List.mem_finRange x
    unfold pws at this
    rw [List.length_map, List.length_range, List.length_finRange] at this
    omega
  obtain ⟨k, h1, h2, h3⟩ := ex
  obtain ⟨d, ⟨p1, p2⟩, hd, hl⟩ := exists_least (P := fun k => 1 ≤ k ∧ pw m e a k = e) (k := k) ⟨h1, h3⟩
  exact ⟨d, ⟨p1, p2, fun j h1 h2 h3 => hl j h2 ⟨h1, h3⟩⟩, by omega⟩
theorem pws_mem {a : Fin n} {d : Nat} (h : IsOrd m e a d) (k : Nat) : pw m e a k ∈ pws m e a d := by
  rw [← G.pw_mod a h.at_d k]
  exact List.mem_map_of_mem (List.mem_range.mpr (Nat.mod_lt _ h.pos))
theorem pws_sub {a : Fin n} {d : Nat} (h : IsOrd m e a d) : Sub m e (pws m e a d) :=
  ⟨G.pws_nodup h.least, G.pws_mem h 0, fun x hx y hy => by
    obtain ⟨i, _, rfl⟩ := List.mem_map.mp hx
    obtain ⟨j, _, rfl⟩ := List.mem_map.mp hy
    rw [G.pw_add]; exact G.pws_mem h _⟩
/-- a closed list has the undoings too -/
theorem sub_pw {xs : List (Fin n)} (S : Sub m e xs) {a : Fin n} (ha : a ∈ xs) (k : Nat) : pw m e a k ∈ xs := by
  induction k with
  | zero => exact S.en
  | succ k ih => exact S.cl _ ih _ ha
theorem sub_v {xs : List (Fin n)} (S : Sub m e xs) {a : Fin n} (ha : a ∈ xs) : v a ∈ xs := by
  obtain ⟨d, h, _⟩ := G.ord_ex a
  have h1 := h.pos
  have := G.pw_add a 1 (d - 1)
  rw [G.pw1, show 1 + (d - 1) = d by omega, h.at_d] at this
  rw [← G.inv_u this]
  exact G.sub_pw S ha _
/-- a share: what x makes with a part's elements -/
theorem cos_mem {xs : List (Fin n)} {x y : Fin n} : y ∈ xs.map (m x) ↔ m (v x) y ∈ xs := by
  rw [List.mem_map]
  constructor
  · rintro ⟨a, ha, rfl⟩
    rw [← G.as, G.vl, G.el]; exact ha
  · intro h
    exact ⟨_, h, by rw [← G.as, G.vr, G.el]⟩
theorem cos_nodup {xs : List (Fin n)} (h : xs.Nodup) (x : Fin n) : (xs.map (m x)).Nodup := by
  rw [List.Nodup, List.pairwise_map]
  exact h.imp fun hab z => hab (G.can_l z)
theorem cos_self {xs : List (Fin n)} (S : Sub m e xs) (x : Fin n) : x ∈ xs.map (m x) := by
  rw [G.cos_mem, G.vl]; exact S.en
theorem cos_eq {xs : List (Fin n)} (S : Sub m e xs) {x y : Fin n} (h : y ∈ xs.map (m x)) (z : Fin n) : z ∈ xs.map (m x) ↔ z ∈ xs.map (m y) := by
  rw [G.cos_mem] at h
  rw [G.cos_mem, G.cos_mem]
  have hv : m (v y) x ∈ xs := by
    have := G.sub_v S h
    rwa [G.vm, G.vv] at this
  constructor
  · intro hz
    have := S.cl _ hv _ hz
    rwa [G.as, ← G.as x, G.vr, G.el] at this
  · intro hz
    have := S.cl _ h _ hz
    rwa [G.as, ← G.as y, G.vr, G.el] at this
theorem lagrange {xs : List (Fin n)} (S : Sub m e xs) : xs.length ∣ n := by
  have := dvd_of_classes (fun x => xs.map (m x)) (G.cos_nodup S.nd) (fun x => List.length_map ..) (G.cos_self S) (fun x y z h => G.cos_eq S h z) n (List.finRange n) (by rw [List.length_finRange]; exact Nat.le_refl _) (List.nodup_finRange n) fun x _ y _ => List.mem_finRange y
  rwa [List.length_finRange] at this
theorem ord_dvd {a : Fin n} {d : Nat} (h : IsOrd m e a d) : d ∣ n := by
  have := G.lagrange (G.pws_sub h)
  unfold pws at this
  rwa [List.length_map, List.length_range] at this
theorem pw_n (a : Fin n) : pw m e a n = e := by
  obtain ⟨d, h, _⟩ := G.ord_ex a
  obtain ⟨q, hq⟩ := G.ord_dvd h
  have := G.pw_mul a d q h.at_d
  rwa [← hq] at this
theorem ord_iff {a b : Fin n} (h : ∀ k, pw m e a k = e ↔ pw m e b k = e) {d : Nat} (hd : IsOrd m e a d) : IsOrd m e b d :=
  ⟨hd.pos, (h d).mp hd.at_d, fun k h1 h2 h3 => hd.least k h1 h2 ((h k).mpr h3)⟩
theorem ord_v {a : Fin n} {d : Nat} (hd : IsOrd m e a d) : IsOrd m e (v a) d := G.ord_iff (fun k => by
  rw [G.pw_v]
  exact ⟨fun h => by rw [h, G.ve], fun h => by rw [← G.vv (pw m e a k), h, G.ve]⟩) hd
theorem pw_swap (a b : Fin n) (k : Nat) : m (pw m e (m a b) k) a = m a (pw m e (m b a) k) := by
  induction k with
  | zero => show m e a = m a e; rw [G.el, G.er]
  | succ k ih =>
    show m (m (pw m e (m a b) k) (m a b)) a = m a (m (pw m e (m b a) k) (m b a))
    rw [G.as, G.as, ← G.as (pw m e (m a b) k), ih, G.as]
theorem ord_swap {a b : Fin n} {d : Nat} (hd : IsOrd m e (m a b) d) : IsOrd m e (m b a) d := G.ord_iff (fun k => by
  have := G.pw_swap a b k
  constructor
  · intro h
    rw [h, G.el] at this
    exact G.can_l (this.symm.trans (G.er a).symm)
  · intro h
    rw [h, G.er] at this
    exact G.can_r (this.trans (G.el a).symm)) hd
end Gr
end
end Tf
namespace Tf
open PySem
section
variable {n : Nat} {m : Fin n → Fin n → Fin n} {e : Fin n} {v : Fin n → Fin n}
theorem whileL_true {t : DE} {b : DS} {k : Nat} {env e2 : En} (h : t env = .ok (.bool true)) (hb : b env = .nx e2) : whileL t b (k + 1) env = whileL t b k e2 := by
  show (t env).fl _ = _
  rw [h, fl_okk]
  simp only
  rw [hb]
theorem whileL_false {t : DE} {b : DS} {k : Nat} {env : En} (h : t env = .ok (.bool false)) : whileL t b (k + 1) env = .nx env := by
  show (t env).fl _ = _
  rw [h, fl_okk]
/-- a while that goes on d times -/
theorem while_steps {t : DE} {b : DS} (S : Nat → En → Prop) {d : Nat} (h : ∀ i env, i < d → S i env → t env = .ok (.bool true) ∧ ∃ e2, b env = .nx e2 ∧ S (i + 1) e2) (hd : ∀ env, S d env → t env = .ok (.bool false)) :
    ∀ (r i : Nat) (k : Nat) (env : En), i + r = d → r < k → S i env → ∃ e2, whileL t b k env = .nx e2 ∧ S d e2
  | 0, i, k + 1, env, hi, _, s => by
    have : i = d := by omega
    subst this
    exact ⟨env, whileL_false (hd env s), s⟩
  | r + 1, i, k + 1, env, hi, hk, s => by
    obtain ⟨h1, e2, h2, h3⟩ := h i env (by omega) s
    rw [whileL_true h1 h2]
    exact while_steps S h hd r (i + 1) k e2 (by omega) (by omega) h3
  | _, _, 0, _, _, hk, _ => by omega
theorem seq_while {t : DE} {b rest : DS} {env : En} {R : Fl} (S : Nat → En → Prop) {d k : Nat} (hk : d < k) (h0 : S 0 env) (h : ∀ i env, i < d → S i env → t env = .ok (.bool true) ∧ ∃ e2, b env = .nx e2 ∧ S (i + 1) e2) (hd : ∀ env, S d env → t env = .ok (.bool false))
    (kk : ∀ e2, S d e2 → rest e2 = R) : sSeq (sWhile k t b) rest env = R := by
  obtain ⟨e2, h1, h2⟩ := while_steps S h hd d 0 k env (by omega) hk h0
  rw [sSeq_nx (show sWhile k t b env = .nx e2 from h1)]
  exact kk e2 h2
theorem cApp_ok {xs : List D} {d : D} (h : xs.length ≤ 100000) : cApp xs [d] = .ok (xs ++ [d]) := by
  show (if lim xs.length then Rs.ok (xs ++ [d]) else .no) = _
  rw [if_pos (show lim xs.length = true from decide_eq_true h)]
/-- x.append(..), x a list of elements -/
theorem app_fl {j : Nat} {ax : DE} {env : En} {xs : List (Fin n)} {a : Fin n} (he : env[j]? = some (some (fl xs))) (ha : ax env = .ok (fi a)) (hl : xs.length ≤ 100000) : sChg j cApp [ax] env = .nx (env.set j (some (fl (xs ++ [a])))) := by
  rw [sChg_ok (ds := [fi a]) he (by rw [eL_cons, ha]; rfl) (cApp_ok (by rw [List.length_map]; exact hl))]
  unfold fl
  rw [List.map_append]; rfl
theorem oIx0 {xs : List (Fin n)} {a : Fin n} (h : xs[0]? = some a) : oIx (fl xs) (.int 0) = .ok (fi a) := oIx_fl (i := 0) h
theorem pws_succ (a : Fin n) (d : Nat) : pws m e a (d + 1) = pws m e a d ++ [pw m e a d] := by
  unfold pws
  rw [List.range_succ, List.map_append]; rfl
theorem pws_0 (a : Fin n) (d : Nat) : (pws m e a (d + 1))[0]? = some e := by
  unfold pws
  rw [List.getElem?_map, List.getElem?_range (by omega)]; rfl
theorem pws_len (a : Fin n) (d : Nat) : (pws m e a d).length = d := by unfold pws; rw [List.length_map, List.length_range]
theorem pws_get (a : Fin n) {d k : Nat} (h : k < d) : (pws m e a d)[k]? = some (pw m e a k) := by
  unfold pws
  rw [List.getElem?_map, List.getElem?_range h]; rfl
theorem Gr.d_row (G : Gr m e v) (hn : n ≤ 12) {a : Fin n} {d : Nat} (hd : IsOrd m e a d) (hdn : d ≤ n) : d_row_of_times [tab m, fi a] = .ok (fl (pws m e a d)) := by
  apply runN_rt
  show sSeq _ _ [some (tab m), some (fi a), none, none] = _
  refine seq_nx [some (tab m), some (fi a), some (fl (pws m e a 1)), none] (by simp [d_rests_eq hn, G.rest1, oIx0 (n := n) (xs := [e]) rfl]; rfl) ?_
  refine seq_nx [some (tab m), some (fi a), some (fl (pws m e a 1)), some (fi (pw m e a 1))] (by simp [G.pw1]) ?_
  have hp := hd.pos
  refine seq_while (fun i env => i ≤ d - 1 ∧ env = [some (tab m), some (fi a), some (fl (pws m e a (i + 1))), some (fi (pw m e a (i + 1)))]) (d := d - 1) (by omega) ⟨by omega, rfl⟩ (fun i env hi hs => ?_) (fun env hs => ?_) (fun env hs => ?_)
  · obtain ⟨_, rfl⟩ := hs
    refine ⟨?_, [some (tab m), some (fi a), some (fl (pws m e a (i + 1 + 1))), some (fi (pw m e a (i + 1 + 1)))], ?_, by omega, rfl⟩
    · have ne : pw m e a (i + 1) ≠ e := hd.least (i + 1) (by omega) (by omega)
      simp [oIx0 (pws_0 (m := m) (e := e) a i), ne]
    · refine seq_nx _ (app_fl (n := n) (j := 2) (a := pw m e a (i + 1)) rfl (by simp) (by rw [pws_len]; omega)) ?_
      rw [← pws_succ]
      simp; rfl
  · obtain ⟨_, rfl⟩ := hs
    have : pw m e a (d - 1 + 1) = e := by rw [show d - 1 + 1 = d by omega]; exact hd.at_d
    simp [oIx0 (pws_0 (m := m) (e := e) a (d - 1)), this]
  · obtain ⟨_, rfl⟩ := hs
    rw [show d - 1 + 1 = d by omega]
    simp
theorem Gr.d_order (G : Gr m e v) (h0 : 1 ≤ n) (hn : n ≤ 12) {a : Fin n} {d : Nat} (hd : IsOrd m e a d) (hdn : d ≤ n) : d_order [tab m, fi a] = .ok (.int d) := by
  apply runN_rt
  show sSeq _ _ [some (tab m), some (fi a)] = _
  refine seq_nx [some (tab m), some (fi a)] (by simp [G.d_asked_folk h0 hn]) ?_
  refine seq_nx [some (tab m), some (fi a)] (by simp [d_asked_element_fi]) ?_
  simp [G.d_row hn hd hdn, pws_len]
/-- which step a whole number of times is -/
theorem tmod (t : Int) {d : Nat} (h : 1 ≤ d) : ∃ k : Nat, k < d ∧ t % (d : Int) = (k : Int) := ⟨(t % (d : Int)).toNat, by
  have := Int.emod_lt_of_pos t (show (0 : Int) < d by omega)
  have := Int.emod_nonneg t (show (d : Int) ≠ 0 by omega)
  omega, by
  have := Int.emod_nonneg t (show (d : Int) ≠ 0 by omega)
  omega⟩
theorem Gr.d_done (G : Gr m e v) (h0 : 1 ≤ n) (hn : n ≤ 12) {a : Fin n} {d : Nat} (hd : IsOrd m e a d) (hdn : d ≤ n) {t : Int} {k : Nat} (hk : k < d) (ht : t % (d : Int) = (k : Int)) : d_done [tab m, fi a, .int t] = .ok (fi (pw m e a k)) := by
  apply runN_rt
  show sSeq _ _ [some (tab m), some (fi a), some (.int t), none] = _
  have hp := hd.pos
  refine seq_nx [some (tab m), some (fi a), some (.int t), none] (by simp [G.d_asked_folk h0 hn]) ?_
  refine seq_nx [some (tab m), some (fi a), some (.int t), none] (by simp [d_asked_element_fi]) ?_
  refine seq_nx [some (tab m), some (fi a), some (.int t), some (fl (pws m e a d))] (by simp [G.d_row hn hd hdn]) ?_
  simp [pws_len, oMod_int (show (0 : Int) < (d : Int) by omega), ht, oIx_fl (pws_get (m := m) (e := e) a hk)]
theorem Gr.d_still (G : Gr m e v) (hn : n ≤ 12) : d__law_still [tab m] = .ok (fi e) := by
  apply runN_rt
  show sRet _ [some (tab m), none] = _
  have q : eComp [1] (gN 1) (iR1 (e1 oLen (eV 0))) (e2 oEq (e2 oIx (eV 0) (eV 1)) (e1 oLrg (e1 oLen (eV 0)))) (eV 1) [some (tab m), none] = .ok (fl [e]) := by
    rw [eComp_map (xs := List.finRange n) (i := fi) (P := fun x => decide ((List.finRange n).map (m x) = List.finRange n)) (F := fi) (iR1_len hn rfl) (by rw [List.length_finRange]; omega)]
    · rw [fr_one (a := e) fun x => ?_]
      · rfl
      rw [decide_eq_true_eq, map_id_iff]
      exact ⟨fun h => G.unit_l h, fun h => by subst h; exact G.el⟩
    · intro x _
      exact ⟨_, rfl, by simp [wipeE, oLrg_n hn, rowD], fun _ => rfl⟩
  simp [q, oIx0 (n := n) (xs := [e]) rfl]
theorem asBools_map (xs : List Bool) : asBools (xs.map .bool) = some xs := by
  induction xs with
  | nil => rfl
  | cons x xs ih => rw [List.map_cons]; unfold asBools; rw [ih]; rfl
theorem oAll_map {α : Type} (f : α → Bool) (xs : List α) : oAll (.list (xs.map fun x => PyData.bool (f x))) = .ok (.bool (xs.all f)) := by
  have : xs.map (fun x => PyData.bool (f x)) = (xs.map f).map .bool := by rw [List.map_map]; rfl
  rw [this]
  show (match asBools ((xs.map f).map .bool) with | some bs => Rs.ok (PyData.bool (bs.all id)) | none => .no) = _
  rw [asBools_map]
  show Rs.ok (PyData.bool ((xs.map f).all id)) = _
  rw [List.all_map]; rfl
end
end Tf
namespace Tf
open PySem
section
variable {n : Nat} {m : Fin n → Fin n → Fin n} {e : Fin n} {v : Fin n → Fin n}
/-! ### rising lists of elements -/
def el (P : Fin n → Bool) : List (Fin n) := (List.finRange n).filter P
theorem el_mem {P : Fin n → Bool} {x : Fin n} : x ∈ el P ↔ P x = true := by
  unfold el
  rw [List.mem_filter]
  exact ⟨fun h => h.2, fun h => ⟨List.mem_finRange x, h⟩⟩
theorem el_inj {P Q : Fin n → Bool} (h : el P = el Q) : P = Q := by
  funext x
  have := el_mem (P := P) (x := x)
  rw [h, el_mem] at this
  rw [Bool.eq_iff_iff]; exact this.symm
theorem el_nodup (P : Fin n → Bool) : (el P).Nodup := (List.nodup_finRange n).sublist List.filter_sublist
theorem el_len (P : Fin n → Bool) : (el P).length ≤ n := by
  have := len_le_of_sub (el_nodup P) (ys := List.finRange n) fun x _ => List.mem_finRange x
  rwa [List.length_finRange] at this
theorem fr_rise : (List.finRange n).Pairwise (· < ·) := by
  rw [List.pairwise_iff_getElem]
  intro i j hi hj hij
  rw [List.length_finRange] at hi hj
  have h1 : (List.finRange n)[i] = ⟨i, hi⟩ := by rw [List.getElem_finRange]; rfl
  have h2 : (List.finRange n)[j] = ⟨j, hj⟩ := by rw [List.getElem_finRange]; rfl
  rw [h1, h2]; exact hij
theorem el_rise (P : Fin n → Bool) : (el P).Pairwise (· < ·) := fr_rise.sublist List.filter_sublist
theorem vals_rise {xs : List (Fin n)} (h : xs.Pairwise (· < ·)) : (xs.map fun a => (a.val : Int)).Pairwise (· < ·) := by
  rw [List.pairwise_map]
  exact h.imp fun hab => by
    have : _ < _ := hab
    exact Int.ofNat_lt.mpr this
theorem sset_fl (xs : List (Fin n)) : sset (xs.map fun a => (a.val : Int)) = (el fun y => decide (y ∈ xs)).map fun a => (a.val : Int) := by
  apply rise_ext (sset_pair _) (vals_rise (el_rise _))
  intro k
  rw [sset_mem, List.mem_map, List.mem_map]
  constructor
  · rintro ⟨a, h, rfl⟩; exact ⟨a, el_mem.mpr (decide_eq_true h), rfl⟩
  · rintro ⟨a, h, rfl⟩; exact ⟨a, of_decide_eq_true (el_mem.mp h), rfl⟩
theorem fl_il (xs : List (Fin n)) : fl xs = il (xs.map fun a => (a.val : Int)) := by
  unfold fl il; rw [List.map_map]; rfl
theorem oSSet_fl {xs : List (Fin n)} (hl : xs.length ≤ 1000) (hn : n ≤ 12) : oSSet (fl xs) = .ok (fl (el fun y => decide (y ∈ xs))) := by
  rw [fl_il, fl_il]
  show (match asInts ((xs.map fun a => (a.val : Int)).map .int) with | some ns => if decide (ns.length ≤ 1000) && decide ((sset ns).length < 64) then Rs.ok (PyData.list ((sset ns).map .int)) else .no | none => .no) = _
  rw [asInts_map]
  simp only
  rw [sset_fl]
  have := el_len fun y => decide (y ∈ xs)
  rw [if_pos (by rw [List.length_map, List.length_map, decide_eq_true hl, decide_eq_true (by omega)]; rfl)]; rfl
theorem flat_fl (xs : List (Fin n)) : (xs.map fi).all flat = true := by
  rw [List.all_map, List.all_eq_true]; intro x _; rfl
@[simp] theorem oListF_fl (xs : List (Fin n)) : oListF (fl xs) = .ok (fl xs) := by
  show (if (xs.map fi).all flat then Rs.ok (PyData.list (xs.map fi)) else .no) = _
  rw [if_pos (flat_fl xs)]; rfl
theorem oCatF_fl {xs ys : List (Fin n)} (h : xs.length + ys.length ≤ 100000) : oCatF (fl xs) (fl ys) = .ok (fl (xs ++ ys)) := by
  show (if lim ((xs.map fi).length + (ys.map fi).length) && ((xs.map fi).all flat && (ys.map fi).all flat) then Rs.ok (PyData.list (xs.map fi ++ ys.map fi)) else .no) = _
  rw [if_pos (by rw [flat_fl, flat_fl, List.length_map, List.length_map]; simp [lim]; exact h)]
  unfold fl; rw [List.map_append]
theorem oCat_fl {xs ys : List (Fin n)} (h : xs.length + ys.length ≤ 100000) : oCat (fl xs) (fl ys) = .ok (fl (xs ++ ys)) := by
  show (if lim ((xs.map fi).length + (ys.map fi).length) then Rs.ok (PyData.list (xs.map fi ++ ys.map fi)) else .no) = _
  rw [if_pos (by rw [List.length_map, List.length_map]; simp [lim]; exact h)]
  unfold fl; rw [List.map_append]
/-- a loop over a list of elements -/
theorem seq_forl {g : DG} {i : DI} {b rest : DS} {e : En} {R : Fl} {α : Type} {xs : List α} {enc : α → D} (hi : i e = .ok (xs.map enc)) (I : Nat → En → Prop) (h0 : I 0 e) (h : ∀ (k : Nat) (a : α) e, xs[k]? = some a → I k e → ∃ e' e2, g (enc a) e = .ok e' ∧ b e' = .nx e2 ∧ I (k + 1) e2)
    (k : ∀ e', I xs.length e' → rest e' = R) : sSeq (sFor g i b) rest e = R := by
  have := forL_ind (g := g) (b := b) (ds := xs.map enc) I (fun i d hd e hi => ?_) h0
  · obtain ⟨e2, h1, h2⟩ := this
    rw [List.length_map] at h2
    rw [sSeq_nx (show sFor g i b e = .nx e2 by rw [sFor_def, hi, fl_okk]; exact h1)]
    exact k e2 h2
  · rw [List.getElem?_map] at hd
    cases hx : xs[i]? with
    | none => rw [hx] at hd; cases hd
    | some a =>
      rw [hx] at hd
      have : enc a = d := Option.some.inj hd
      subst this
      exact h i a e hx hi
theorem ext_fl {j : Nat} {ax : DE} {env : En} {xs ys : List (Fin n)} (he : env[j]? = some (some (fl xs))) (ha : ax env = .ok (fl ys)) (hl : xs.length + ys.length ≤ 100000) : sExt j ax env = .nx (env.set j (some (fl (xs ++ ys)))) := by
  unfold sExt sIf0
  rw [if_pos (by unfold isL; rw [he]; rfl)]
  show (ax env).fl _ = _
  rw [ha, fl_okk, he]
  unfold fl
  simp only
  rw [if_pos (by rw [List.length_map, List.length_map]; exact decide_eq_true hl), List.map_append]

/-! ### taking in -/
def inB (xs : List (Fin n)) : Fin n → Bool := fun y => decide (y ∈ xs)
def stepB (m : Fin n → Fin n → Fin n) (P : Fin n → Bool) : Fin n → Bool := fun y => P y || (el P).any fun a => (el P).any fun b => decide (m a b = y)
theorem stepB_iff {P : Fin n → Bool} {y : Fin n} : stepB m P y = true ↔ P y = true ∨ ∃ a b, P a = true ∧ P b = true ∧ m a b = y := by
  unfold stepB
  rw [Bool.or_eq_true, List.any_eq_true]
  refine or_congr Iff.rfl ⟨?_, ?_⟩
  · rintro ⟨a, ha, h⟩
    rw [List.any_eq_true] at h
    obtain ⟨b, hb, h⟩ := h
    exact ⟨a, b, el_mem.mp ha, el_mem.mp hb, of_decide_eq_true h⟩
  · rintro ⟨a, b, ha, hb, h⟩
    exact ⟨a, el_mem.mpr ha, List.any_eq_true.mpr ⟨b, el_mem.mpr hb, decide_eq_true h⟩⟩
theorem get_lt {α : Type} {xs : List α} {k : Nat} {a : α} (h : xs[k]? = some a) : k < xs.length := get_of_get h
theorem take_succ_get {α : Type} {xs : List α} {k : Nat} {a : α} (h : xs[k]? = some a) : xs.take (k + 1) = xs.take k ++ [a] := by
  rw [List.take_add_one, h]; rfl
theorem d_taken_in_el (hn : n ≤ 12) (P : Fin n → Bool) : d_taken_in [tab m, fl (el P)] = .ok (fl (el (stepB m P))) := by
  have hP := el_len P
  apply runN_rt
  show sSeq _ _ [some (tab m), some (fl (el P)), none, none, none] = _
  refine seq_nx [some (tab m), some (fl (el P)), some (fl (el P)), none, none] (by simp) ?_
  refine seq_forl (α := Fin n) (xs := el P) (enc := fi) (by simp [fl]) (fun k env => ∃ ys x, env = [some (tab m), some (fl (el P)), some (fl (el P ++ ys)), x, none] ∧ ys.length = k * (el P).length ∧ ∀ y, y ∈ ys ↔ ∃ a ∈ (el P).take k, ∃ b ∈ el P, m a b = y) ⟨[], none, by rw [List.append_nil], by simp, by simp⟩ (fun k a env hk he => ?_) fun env he => ?_
  · obtain ⟨ys, x, rfl, hl, hy⟩ := he
    have hkl := get_lt hk
    have q : eComp [4] (gN 4) (iL (eV 1)) eYes (e1 oFl (e2 oIx (e2 oIx (eV 0) (eV 3)) (eV 4))) [some (tab m), some (fl (el P)), some (fl (el P ++ ys)), some (fi a), none] = .ok (fl ((el P).map (m a))) := by
      rw [eComp_map (xs := el P) (i := fi) (P := fun _ => true) (F := fun b => fi (m a b)) rfl (by omega)]
      · rw [filter_yes]; unfold fl; rw [List.map_map]; rfl
      · intro b _
        exact ⟨_, rfl, rfl, fun _ => by simp [wipeE]⟩
    refine ⟨[some (tab m), some (fl (el P)), some (fl (el P ++ ys)), some (fi a), none], [some (tab m), some (fl (el P)), some (fl (el P ++ (ys ++ (el P).map (m a)))), some (fi a), none], rfl, ?_, ys ++ (el P).map (m a), some (fi a), rfl, ?_, fun y => ?_⟩
    · rw [ext_fl (j := 2) (xs := el P ++ ys) rfl q, List.append_assoc]; rfl
      rw [List.length_append, List.length_map, hl]
      have : k * (el P).length ≤ 12 * 12 := Nat.mul_le_mul (by omega) (by omega)
      omega
    · rw [List.length_append, List.length_map, hl, Nat.succ_mul]
    · rw [List.mem_append, hy, List.mem_map, take_succ_get hk]
      simp only [List.mem_append, List.mem_singleton]
      constructor
      · rintro (⟨a', h1, h2⟩ | ⟨b, h1, h2⟩)
        · exact ⟨a', .inl h1, h2⟩
        · exact ⟨a, .inr rfl, b, h1, h2⟩
      · rintro ⟨a', h1 | h1, h2⟩
        · exact .inl ⟨a', h1, h2⟩
        · subst h1; exact .inr h2
  · obtain ⟨ys, x, rfl, hl, hy⟩ := he
    have hlen : (el P ++ ys).length ≤ 1000 := by
      rw [List.length_append, hl]
      have : (el P).length * (el P).length ≤ 12 * 12 := Nat.mul_le_mul (by omega) (by omega)
      omega
    have eq : (fun y => decide (y ∈ el P ++ ys)) = stepB m P := by
      funext y
      rw [Bool.eq_iff_iff, decide_eq_true_eq, stepB_iff, List.mem_append, hy, el_mem, List.take_length]
      refine or_congr Iff.rfl ⟨?_, ?_⟩
      · rintro ⟨a, ha, b, hb, h⟩; exact ⟨a, b, el_mem.mp ha, el_mem.mp hb, h⟩
      · rintro ⟨a, b, ha, hb, h⟩; exact ⟨a, el_mem.mpr ha, b, el_mem.mpr hb, h⟩
    simp only [sRet_def, e1_def, eV_succ, eV_zero, bind_ok, oSSet_fl hlen hn, eq, fl_okk]
/-- the least closed one -/
structure Clo (m : Fin n → Fin n → Fin n) (e : Fin n) (S Q : Fin n → Bool) : Prop where
  inc : ∀ x, S x = true → Q x = true
  en : Q e = true
  cl : ∀ a b, Q a = true → Q b = true → Q (m a b) = true
  least : ∀ R : Fin n → Bool, (∀ x, S x = true → R x = true) → R e = true → (∀ a b, R a = true → R b = true → R (m a b) = true) → ∀ x, Q x = true → R x = true
theorem Clo.u {S Q Q' : Fin n → Bool} (h : Clo m e S Q) (h' : Clo m e S Q') : Q = Q' := by
  funext x
  rw [Bool.eq_iff_iff]
  exact ⟨h.least Q' h'.inc h'.en h'.cl x, h'.least Q h.inc h.en h.cl x⟩
def itB (m : Fin n → Fin n → Fin n) (P : Fin n → Bool) : Nat → Fin n → Bool
  | 0 => P
  | k + 1 => stepB m (itB m P k)
theorem itB_up {P : Fin n → Bool} {k : Nat} {x : Fin n} (h : itB m P k x = true) : itB m P (k + 1) x = true := stepB_iff.mpr (.inl h)
theorem itB_stop (P : Fin n → Bool) : ∃ d, itB m P (d + 1) = itB m P d ∧ d ≤ n ∧ ∀ j, j < d → itB m P (j + 1) ≠ itB m P j := by
  have ex : ∃ k, k ≤ n ∧ itB m P (k + 1) = itB m P k := by
    apply Classical.byContradiction
    intro hno
    have grow : ∀ k, k ≤ n + 1 → k ≤ (el (itB m P k)).length := fun k => by
      induction k with
      | zero => intro _; exact Nat.zero_le _
      | succ k ih =>
        intro hk
        have ih := ih (by omega)
        have hne : itB m P (k + 1) ≠ itB m P k := fun z => hno ⟨k, by omega, z⟩
        obtain ⟨x, h1, h2⟩ : ∃ x, itB m P (k + 1) x = true ∧ itB m P k x ≠ true := by
          apply Classical.byContradiction
          intro h
          apply hne
          funext x
          rw [Bool.eq_iff_iff]
          refine ⟨fun hx => Classical.byContradiction fun q => h ⟨x, hx, q⟩, itB_up⟩
        have nd : (x :: el (itB m P k)).Nodup := List.nodup_cons.mpr ⟨fun z => h2 (el_mem.mp z), el_nodup _⟩
        have := len_le_of_sub nd (ys := el (itB m P (k + 1))) fun y hy => by
          rcases List.mem_cons.mp hy with z | z
          · subst z; exact el_mem.mpr h1
          · exact el_mem.mpr (itB_up (el_mem.mp z))
        rw [List.length_cons] at this
        omega
    have h1 := grow (n + 1) (Nat.le_refl _)
    have h2 := el_len (itB m P (n + 1))
    omega
  obtain ⟨k, hk, h⟩ := ex
  obtain ⟨d, h1, h2, h3⟩ := exists_least (P := fun k => itB m P (k + 1) = itB m P k) h
  exact ⟨d, h1, by omega, h3⟩
theorem itB_clo {S : Fin n → Bool} {d : Nat} (h : itB m (fun x => S x || decide (x = e)) (d + 1) = itB m (fun x => S x || decide (x = e)) d) : Clo m e S (itB m (fun x => S x || decide (x = e)) d) := by
  have up : ∀ k x, (S x || decide (x = e)) = true → itB m (fun x => S x || decide (x = e)) k x = true := fun k => by
    induction k with
    | zero => exact fun x hx => hx
    | succ k ih => exact fun x hx => itB_up (ih x hx)
  refine ⟨fun x hx => up d x (by rw [hx]; rfl), up d e (by rw [decide_eq_true rfl, Bool.or_true]), fun a b ha hb => ?_, fun R h1 h2 h3 => ?_⟩
  · rw [← h]; exact stepB_iff.mpr (.inr ⟨a, b, ha, hb, rfl⟩)
  · have : ∀ k x, itB m (fun x => S x || decide (x = e)) k x = true → R x = true := fun k => by
      induction k with
      | zero =>
        intro x hx
        have hx : (S x || decide (x = e)) = true := hx
        rcases Bool.or_eq_true_iff.mp hx with z | z
        · exact h1 x z
        · rw [of_decide_eq_true z]; exact h2
      | succ k ih =>
        intro x hx
        rcases stepB_iff.mp hx with z | ⟨a, b, ha, hb, z⟩
        · exact ih x z
        · rw [← z]; exact h3 a b (ih a ha) (ih b hb)
    exact this d
theorem d_grown_ok (G : Gr m e v) (hn : n ≤ 12) {xs : List (Fin n)} (hl : xs.length ≤ 100) : ∃ Q, Clo m e (inB xs) Q ∧ d_grown [tab m, fl xs] = .ok (fl (el Q)) := by
  obtain ⟨d, h1, hd, h2⟩ := itB_stop (m := m) (fun x => inB xs x || decide (x = e))
  refine ⟨_, itB_clo h1, runN_rt ?_⟩
  generalize hP : (fun x => inB xs x || decide (x = e)) = P at h1 h2 hd ⊢
  have eP : (fun y => decide (y ∈ xs ++ [e])) = P := by
    rw [← hP]; funext y
    unfold inB
    rw [Bool.eq_iff_iff, decide_eq_true_eq, Bool.or_eq_true, decide_eq_true_eq, decide_eq_true_eq, List.mem_append, List.mem_singleton]
  show sSeq _ _ [some (tab m), some (fl xs), none, none] = _
  refine seq_nx [some (tab m), some (fl xs), some (fl (el P)), none] ?_ ?_
  · have c : oCatF (fl xs) (.list [fi e]) = .ok (fl (xs ++ [e])) := oCatF_fl (ys := [e]) (by simp; omega)
    have s1 := oSSet_fl (n := n) (xs := xs ++ [e]) (by simp; omega) hn
    rw [eP] at s1
    simp [d_rests_eq hn, G.rest1, oIx0 (n := n) (xs := [e]) rfl, c, s1]
  refine seq_nx [some (tab m), some (fl xs), some (fl (el (itB m P 0))), some (fl (el (itB m P 1)))] (by simp [d_taken_in_el hn]; exact ⟨rfl, rfl⟩) ?_
  refine seq_while (fun i env => env = [some (tab m), some (fl xs), some (fl (el (itB m P i))), some (fl (el (itB m P (i + 1))))]) (d := d) (by omega) rfl (fun i env hi hs => ?_) (fun env hs => ?_) fun env hs => ?_
  · subst hs
    have ne : ¬ el (itB m P (i + 1)) = el (itB m P i) := fun z => h2 i hi (el_inj z)
    refine ⟨by simp [ne], _, ?_, rfl⟩
    refine seq_nx [some (tab m), some (fl xs), some (fl (el (itB m P (i + 1)))), some (fl (el (itB m P (i + 1))))] (by simp) ?_
    simp [d_taken_in_el hn]; rfl
  · subst hs
    simp [h1]
  · subst hs
    simp
theorem d_part_of_ok (G : Gr m e v) (h0 : 1 ≤ n) (hn : n ≤ 12) {xs : List (Fin n)} (hl : xs.length ≤ 100) : ∃ Q, Clo m e (inB xs) Q ∧ d_part_of [tab m, fl xs] = .ok (fl (el Q)) := by
  obtain ⟨Q, h, hd⟩ := d_grown_ok G hn hl
  refine ⟨Q, h, runN_rt ?_⟩
  show sSeq _ _ [some (tab m), some (fl xs), none] = _
  refine seq_nx [some (tab m), some (fl xs), none] (by simp [G.d_asked_folk h0 hn]) ?_
  refine seq_forl (α := Fin n) (xs := xs) (enc := fi) (by simp [fl]) (fun k env => ∃ x, env = [some (tab m), some (fl xs), x]) ⟨none, rfl⟩ (fun k a env hk he => ?_) fun env he => ?_
  · obtain ⟨x, rfl⟩ := he
    exact ⟨[some (tab m), some (fl xs), some (fi a)], [some (tab m), some (fl xs), some (fi a)], rfl, by simp [d_asked_element_fi], _, rfl⟩
  · obtain ⟨x, rfl⟩ := he
    simp [hd]
theorem d_law_list_fl (xs : List (Fin n)) (h : xs.length ≤ 100000) : d__law_list [fl xs] = .ok (.bool true) := by
  apply runN_rt
  show sRet _ [some (fl xs), none] = _
  have q : eComp [1] (gN 1) (iL (eV 0)) eYes (eCall d__law_whole [(eV 1)]) [some (fl xs), none] = .ok (.list (xs.map fun _ => PyData.bool true)) := by
    rw [eComp_map (xs := xs) (i := fi) (P := fun _ => true) (F := fun _ => .bool true) rfl h]
    · rw [filter_yes]
    · intro x _
      exact ⟨_, rfl, rfl, fun _ => by simp [wipeE, d_whole_fi]⟩
  rw [sRet_def, eAnd_bb (k := true) (l := true) (by rw [e1_def, eV_zero, bind_ok]; rfl) fun _ => by
    rw [e1_def, q, bind_ok]
    have := asBools_map (xs.map fun _ => true)
    rw [List.map_map] at this
    show (match asBools (xs.map fun _ => PyData.bool true) with | some bs => Rs.ok (PyData.bool (bs.all id)) | none => .no) = _
    rw [show (xs.map fun _ => PyData.bool true) = xs.map (PyData.bool ∘ fun _ => true) from rfl, this]
    simp]
  rfl
/-- a while with an invariant and what is left -/
theorem while_left {t : DE} {b : DS} (I : Nat → En → Prop) (h : ∀ r env, I r env → t env = .ok (.bool false) ∨ t env = .ok (.bool true) ∧ ∃ r' e2, r' < r ∧ b env = .nx e2 ∧ I r' e2) :
    ∀ (k r : Nat) (env : En), r < k → I r env → ∃ r' e2, whileL t b k env = .nx e2 ∧ I r' e2 ∧ t e2 = .ok (.bool false)
  | 0, r, env, hk, _ => by omega
  | k + 1, r, env, hk, hI => by
    rcases h r env hI with h1 | ⟨h1, r', e2, hr, h2, h3⟩
    · exact ⟨r, env, whileL_false h1, hI, h1⟩
    · rw [whileL_true h1 h2]
      exact while_left I h k r' e2 (by omega) h3
end
end Tf
namespace Tf
open PySem
section
variable {n : Nat} {m : Fin n → Fin n → Fin n} {e : Fin n} {v : Fin n → Fin n}
/-! ### sorting -/
theorem dle_int (i j : Int) : PySem.W.dataLe false id (PyData.int i) (PyData.int j) = decide (i ≤ j) := by
  show (!(decide (j < i) || (!decide (i < j) && false))) = _
  rw [Bool.and_false, Bool.or_false, Bool.eq_iff_iff]
  simp
theorem alike_ints : ∀ xs ys : List Int, W.alikeAll (xs.map .int) (ys.map .int) = true
  | [], _ => by cases ‹List Int› <;> rfl
  | _ :: _, [] => rfl
  | x :: xs, y :: ys => by
    show (W.alike (.int x) (.int y) && W.alikeAll (xs.map .int) (ys.map .int)) = true
    rw [alike_ints xs ys]; rfl
theorem alike_il (xs ys : List Int) : W.alike (il xs) (il ys) = true := by
  show W.alike (.list (xs.map .int)) (.list (ys.map .int)) = true
  rw [W.alike]; exact alike_ints xs ys
theorem sortOk_il {xs : List Int} (h : xs.length ≤ 100000) : sortOk (xs.map PyData.int) = true := by
  unfold sortOk
  rw [Bool.and_eq_true, Bool.and_eq_true, Bool.and_eq_true]
  refine ⟨⟨⟨?_, ?_⟩, by rw [List.length_map]; exact decide_eq_true h⟩, ?_⟩
  · unfold allAlike
    rw [List.all_map, List.all_eq_true]
    intro x _
    show (xs.map PyData.int).all _ = true
    rw [List.all_map, List.all_eq_true]
    intro y _; rfl
  · rw [Bool.or_eq_true]; right
    rw [List.all_map, List.all_eq_true]
    intro x _; rfl
  · rw [List.all_map, List.all_eq_true]
    intro x _; rfl
def sortL (xs : List (List (Fin n))) : List (List (Fin n)) := xs.mergeSort fun a b => PySem.W.dataLe false id (fl a) (fl b)
theorem sortL_perm (xs : List (List (Fin n))) : (sortL xs).Perm xs := List.mergeSort_perm _ _
theorem oSort_ll {xs : List (List (Fin n))} (h : xs.length ≤ 100000) : oSort (ll xs) = .ok (ll (sortL xs)) := by
  show (if sortOk (xs.map fl) then Rs.ok (PyData.list (sortD (xs.map fl))) else .no) = _
  rw [if_pos]
  · unfold sortD sortL ll
    rw [List.map_mergeSort (s := PySem.W.dataLe false id) (f := fl) fun _ _ _ _ => rfl]
  · unfold sortOk
    rw [Bool.and_eq_true, Bool.and_eq_true, Bool.and_eq_true]
    refine ⟨⟨⟨?_, ?_⟩, by rw [List.length_map]; exact decide_eq_true h⟩, ?_⟩
    · unfold allAlike
      rw [List.all_map, List.all_eq_true]
      intro x _
      show (xs.map fl).all _ = true
      rw [List.all_map, List.all_eq_true]
      intro y _
      show W.alike (fl x) (fl y) = true
      rw [fl_il, fl_il]; exact alike_il _ _
    · rw [Bool.or_eq_true]; right
      rw [List.all_map, List.all_eq_true]
      intro x _; rfl
    · rw [List.all_map, List.all_eq_true]
      intro x _
      exact decide_eq_true (Nat.le_trans (sh_fl x).2 (by decide))
/-- a list with each element once, sorted -/
theorem oSort_el {xs : List (Fin n)} {P : Fin n → Bool} (hl : xs.length ≤ 100000) (nd : xs.Nodup) (h : ∀ x, x ∈ xs ↔ P x = true) : oSort (fl xs) = .ok (fl (el P)) := by
  have hp : xs.Perm (el P) := (List.perm_ext_iff_of_nodup nd (el_nodup P)).mpr fun a => by rw [h, el_mem]
  rw [fl_il, fl_il]
  show (if sortOk ((xs.map fun a => (a.val : Int)).map .int) then Rs.ok (PyData.list (sortD ((xs.map fun a => (a.val : Int)).map .int))) else .no) = _
  rw [if_pos (sortOk_il (by rw [List.length_map]; exact hl))]
  congr 2
  unfold sortD
  rw [← List.map_mergeSort (r := fun a b : Int => decide (a ≤ b)) (s := PySem.W.dataLe false id) (f := PyData.int) fun a _ b _ => (dle_int a b).symm]
  congr 1
  refine List.Perm.eq_of_pairwise (le := fun a b : Int => a ≤ b) (fun a b _ _ h1 h2 => Int.le_antisymm h1 h2) ?_ ((vals_rise (el_rise P)).imp fun h => Int.le_of_lt h) ((List.mergeSort_perm _ _).trans (hp.map _))
  refine (List.pairwise_mergeSort (le := fun a b : Int => decide (a ≤ b)) (fun a b c h1 h2 => ?_) (fun a b => ?_) _).imp fun h => of_decide_eq_true h
  · have := of_decide_eq_true h1
    have := of_decide_eq_true h2
    exact decide_eq_true (by omega)
  · rw [Bool.or_eq_true, decide_eq_true_eq, decide_eq_true_eq]; omega
/-! ### each once, as they come -/
def addL (f : List (List (Fin n))) (k : List (Fin n)) : List (List (Fin n)) := if k ∈ f then f else f ++ [k]
def onceL (k : Fin n → List (Fin n)) (as : List (Fin n)) : List (List (Fin n)) := as.foldl (fun f a => addL f (k a)) []
theorem addL_mem {f : List (List (Fin n))} {k x : List (Fin n)} : x ∈ addL f k ↔ x ∈ f ∨ x = k := by
  unfold addL
  by_cases h : k ∈ f
  · rw [if_pos h]
    exact ⟨.inl, fun z => z.elim id fun q => q ▸ h⟩
  · rw [if_neg h, List.mem_append, List.mem_singleton]
theorem addL_nodup {f : List (List (Fin n))} {k : List (Fin n)} (h : f.Nodup) : (addL f k).Nodup := by
  unfold addL
  by_cases z : k ∈ f
  · rw [if_pos z]; exact h
  · rw [if_neg z, List.nodup_append]
    exact ⟨h, by simp, fun a ha b hb q => z (by rw [List.mem_singleton.mp hb] at q; rw [← q]; exact ha)⟩
theorem addL_len {f : List (List (Fin n))} {k : List (Fin n)} : (addL f k).length ≤ f.length + 1 := by
  unfold addL
  split
  · omega
  · rw [List.length_append]; simp
theorem onceL_snoc (k : Fin n → List (Fin n)) (as : List (Fin n)) (a : Fin n) : onceL k (as ++ [a]) = addL (onceL k as) (k a) := by
  unfold onceL
  rw [List.foldl_append]; rfl
theorem onceL_spec (k : Fin n → List (Fin n)) : ∀ as : List (Fin n), (onceL k as).Nodup ∧ (onceL k as).length ≤ as.length ∧ ∀ x, x ∈ onceL k as ↔ ∃ a ∈ as, k a = x := by
  have main : ∀ (as : List (Fin n)) (f : List (List (Fin n))), f.Nodup → (as.foldl (fun f a => addL f (k a)) f).Nodup ∧ (as.foldl (fun f a => addL f (k a)) f).length ≤ f.length + as.length ∧ ∀ x, x ∈ as.foldl (fun f a => addL f (k a)) f ↔ x ∈ f ∨ ∃ a ∈ as, k a = x := fun as => by
    induction as with
    | nil => intro f hf; exact ⟨hf, by simp, by simp⟩
    | cons a as ih =>
      intro f hf
      obtain ⟨h1, h2, h3⟩ := ih (addL f (k a)) (addL_nodup hf)
      refine ⟨h1, ?_, fun x => ?_⟩
      · have := addL_len (f := f) (k := k a)
        rw [List.foldl_cons, List.length_cons]
        omega
      · rw [List.foldl_cons, h3, addL_mem, or_assoc]
        refine or_congr Iff.rfl ?_
        simp only [List.mem_cons, exists_eq_or_imp]
        exact or_congr ⟨fun h => h.symm, fun h => h.symm⟩ Iff.rfl
  intro as
  obtain ⟨h1, h2, h3⟩ := main as [] List.nodup_nil
  exact ⟨h1, by rw [List.length_nil, Nat.zero_add] at h2; exact h2, fun x => by rw [show onceL k as = as.foldl (fun f a => addL f (k a)) [] from rfl, h3]; simp⟩
/-- append where it is not in yet -/
theorem addL_step {j i : Nat} {env : En} {f : List (List (Fin n))} {k : List (Fin n)} (hj : env[j]? = some (some (ll f))) (hi : env[i]? = some (some (fl k))) (hl : f.length ≤ 1000) :
    sIf (e2 oNi (eV i) (eV j)) (sChg j cApp [(eV i)]) sSkip env = .nx (env.set j (some (ll (addL f k)))) := by
  rw [sIf_b (k := !decide (k ∈ f)) (by rw [e2_def, eV_ok hi, bind_ok, eV_ok hj, bind_ok, oNi_ll])]
  unfold addL
  by_cases z : k ∈ f
  · rw [decide_eq_true z, if_pos z]
    show Fl.nx env = _
    congr 1
    apply List.ext_getElem?
    intro q
    by_cases hq : j = q
    · subst hq
      rw [List.getElem?_set_self (get_of_get hj)]; exact hj
    · rw [List.getElem?_set_ne hq]
  · rw [decide_eq_false z, if_neg z]
    show sChg j cApp [(eV i)] env = _
    rw [sChg_ok (ds := [fl k]) hj (by rw [eL_cons, eV_ok hi]; rfl) (cApp_ok (by rw [List.length_map]; omega))]
    unfold ll
    rw [List.map_append]; rfl
/-! ### kinds -/
def kd (m : Fin n → Fin n → Fin n) (v : Fin n → Fin n) (x : Fin n) : List (Fin n) := el fun y => decide (y ∈ (List.finRange n).map fun g => m (m g x) (v g))
def kindsL (m : Fin n → Fin n → Fin n) (v : Fin n → Fin n) : List (List (Fin n)) := onceL (kd m v) (List.finRange n)
theorem kd_mem {x y : Fin n} : y ∈ kd m v x ↔ ∃ g, m (m g x) (v g) = y := by
  unfold kd
  rw [el_mem, decide_eq_true_eq, List.mem_map]
  exact ⟨fun ⟨g, _, h⟩ => ⟨g, h⟩, fun ⟨g, h⟩ => ⟨g, List.mem_finRange g, h⟩⟩
/-- things counted by what they make -/
theorem count_by {α β : Type} [DecidableEq β] (f : α → β) {d : Nat} : ∀ (I : List β) (L : List α), I.Nodup → (∀ x ∈ L, f x ∈ I) → (∀ y ∈ I, (L.filter fun x => decide (f x = y)).length = d) → L.length = d * I.length
  | [], L, _, h, _ => by
    have : L = [] := List.eq_nil_iff_forall_not_mem.mpr fun x hx => by have := h x hx; cases this
    rw [this]; rfl
  | y :: I, L, nd, h, hd => by
    obtain ⟨n1, n2⟩ := List.nodup_cons.mp nd
    have e := (List.filter_append_perm (fun x => decide (f x = y)) L).length_eq
    rw [List.length_append, hd y (List.mem_cons_self ..)] at e
    have ih := count_by f (d := d) I (L.filter fun x => !decide (f x = y)) n2 (fun x hx => by
      rw [List.mem_filter] at hx
      rcases List.mem_cons.mp (h x hx.1) with z | z
      · simp [z] at hx
      · exact z) (fun z hz => by
      rw [List.filter_filter]
      rw [← hd z (List.mem_cons_of_mem _ hz)]
      congr 1
      apply List.filter_congr
      intro x _
      by_cases hx : f x = z
      · have : ¬ z = y := fun q => n1 (q ▸ hz)
        simp [hx, this]
      · simp [hx])
    rw [← e, ih, List.length_cons, Nat.mul_succ, Nat.add_comm]
theorem Gr.kd_dvd (G : Gr m e v) (x : Fin n) : (kd m v x).length ∣ n := by
  -- those that leave x where it is
  let C : List (Fin n) := Tf.el fun g => decide (m g x = m x g)
  have hC : ∀ g, g ∈ C ↔ m g x = m x g := fun g => by rw [Tf.el_mem, decide_eq_true_eq]
  have := count_by (fun g => m (m g x) (v g)) (d := C.length) (kd m v x) (List.finRange n) (el_nodup _) (fun g _ => kd_mem.mpr ⟨g, rfl⟩) (fun y hy => by
    obtain ⟨g, rfl⟩ := kd_mem.mp hy
    rw [← List.length_map (f := m g) (as := C)]
    refine len_eq_of_iff ((List.nodup_finRange n).sublist List.filter_sublist) (G.cos_nodup (el_nodup _) g) fun h => ?_
    rw [List.mem_filter, decide_eq_true_eq, G.cos_mem, hC]
    constructor
    · rintro ⟨_, hh⟩
      -- h x h' = g x g'
      have h1 : m h x = m (m (m g x) (v g)) h := by rw [← hh, G.as, G.vl, G.er]
      rw [G.as, h1, G.as, G.as, ← G.as (v g) g, G.vl, G.el]
    · intro hh
      refine ⟨List.mem_finRange h, ?_⟩
      have h1 : m h x = m g (m x (m (v g) h)) := by
        rw [← hh, ← G.as, ← G.as g, G.vr, G.el]
      rw [h1]
      simp only [G.as, G.vr, G.er])
  rw [List.length_finRange] at this
  exact ⟨C.length, by rw [Nat.mul_comm]; exact this⟩
end
end Tf
namespace Tf
open PySem
section
variable {n : Nat} {m : Fin n → Fin n → Fin n} {e : Fin n} {v : Fin n → Fin n}
theorem kindsL_spec : (kindsL m v).Nodup ∧ (kindsL m v).length ≤ n ∧ ∀ x, x ∈ kindsL m v ↔ ∃ a, kd m v a = x := by
  obtain ⟨h1, h2, h3⟩ := onceL_spec (kd m v) (List.finRange n)
  rw [List.length_finRange] at h2
  exact ⟨h1, h2, fun x => by
    rw [show x ∈ kindsL m v ↔ _ from h3 x]
    exact ⟨fun ⟨a, _, h⟩ => ⟨a, h⟩, fun ⟨a, h⟩ => ⟨a, List.mem_finRange a, h⟩⟩⟩
theorem take_fr (a : Fin n) : (List.finRange n).take (a.val + 1) = (List.finRange n).take a.val ++ [a] := take_succ_get (fr_get a)
theorem take_all : (List.finRange n).take n = List.finRange n := List.take_of_length_le (by rw [List.length_finRange]; exact Nat.le_refl n)
theorem Gr.d_kinds_by (G : Gr m e v) (hn : n ≤ 12) : d_kinds_by [tab m] = .ok (ll (sortL (kindsL m v))) := by
  apply runN_rt
  show sSeq _ _ [some (tab m), none, none, none, none, none] = _
  refine seq_nx [some (tab m), some (fi e), none, none, none, none] (by simp [d_rests_eq hn, G.rest1, oIx0 (n := n) (xs := [e]) rfl]) ?_
  refine seq_nx [some (tab m), some (fi e), some (ll ([] : List (List (Fin n)))), none, none, none] (by simp [ll]) ?_
  refine seq_for (n := n) (iR1_len hn rfl) (fun k env => ∃ x3 x4 : Option D, env = [some (tab m), some (fi e), some (ll (onceL (kd m v) ((List.finRange n).take k))), x3, x4, none]) ⟨none, none, rfl⟩ (fun a env he => ?_) fun env he => ?_
  · obtain ⟨x3, x4, rfl⟩ := he
    obtain ⟨_, hl, _⟩ := onceL_spec (kd m v) ((List.finRange n).take a.val)
    have hl2 : ((List.finRange n).take a.val).length ≤ n := by rw [List.length_take, List.length_finRange]; omega
    refine ⟨[some (tab m), some (fi e), some (ll (onceL (kd m v) ((List.finRange n).take a.val))), some (fi a), x4, none], [some (tab m), some (fi e), some (ll (onceL (kd m v) ((List.finRange n).take (a.val + 1)))), some (fi a), some (fl (kd m v a)), none], rfl, ?_, _, _, rfl⟩
    refine seq_nx [some (tab m), some (fi e), some (ll (onceL (kd m v) ((List.finRange n).take a.val))), some (fi a), some (fl (kd m v a)), none] ?_ ?_
    · have q : eComp [5] (gN 5) (iR1 (e1 oLen (eV 0))) eYes (e1 oFl (e2 oIx (e2 oIx (eV 0) (e2 oIx (e2 oIx (eV 0) (eV 5)) (eV 3))) (e2 oIx (eCall d_backs [(eV 0), (eV 1), (eV 5)]) (eK (.int 0))))) [some (tab m), some (fi e), some (ll (onceL (kd m v) ((List.finRange n).take a.val))), some (fi a), x4, none] = .ok (fl ((List.finRange n).map fun g => m (m g a) (v g))) := by
        rw [eComp_map (xs := List.finRange n) (i := fi) (P := fun _ => true) (F := fun g => fi (m (m g a) (v g))) (iR1_len hn rfl) (by rw [List.length_finRange]; omega)]
        · rw [filter_yes]; unfold fl; rw [List.map_map]; rfl
        · intro g _
          exact ⟨_, rfl, rfl, fun _ => by simp [wipeE, d_backs_eq hn, G.back1, oIx0 (n := n) (xs := [v g]) rfl]⟩
      rw [sAsg_def, e1_def, q, bind_ok, oSSet_fl (by rw [List.length_map, List.length_finRange]; omega) hn]; rfl
    · rw [addL_step (j := 2) (i := 4) rfl rfl (by omega), take_fr, onceL_snoc]; rfl
  · obtain ⟨x3, x4, rfl⟩ := he
    rw [take_all]
    have hl := (kindsL_spec (m := m) (v := v)).2.1
    simp only [sRet_def, e1_def, eV_succ, eV_zero, bind_ok]
    rw [show onceL (kd m v) (List.finRange n) = kindsL m v from rfl, oSort_ll (show (kindsL m v).length ≤ 100000 by omega)]; rfl
theorem Gr.d_kinds (G : Gr m e v) (h0 : 1 ≤ n) (hn : n ≤ 12) : d_kinds [tab m] = .ok (ll (sortL (kindsL m v))) := by
  apply runN_rt
  show sSeq _ _ [some (tab m)] = _
  refine seq_nx [some (tab m)] (by simp [G.d_asked_folk h0 hn]) ?_
  simp [G.d_kinds_by hn]
def midB (m : Fin n → Fin n → Fin n) : Fin n → Bool := fun x => (List.finRange n).all fun a => decide (m x a = m a x)
theorem midB_iff {x : Fin n} : midB m x = true ↔ ∀ a, m x a = m a x := by
  unfold midB
  rw [List.all_eq_true]
  exact ⟨fun h a => of_decide_eq_true (h a (List.mem_finRange a)), fun h a _ => decide_eq_true (h a)⟩
theorem Gr.d_middle (G : Gr m e v) (h0 : 1 ≤ n) (hn : n ≤ 12) : d_middle [tab m] = .ok (fl (Tf.el (midB m))) := by
  apply runN_rt
  show sSeq _ _ [some (tab m), none, none, none] = _
  refine seq_nx [some (tab m), none, none, none] (by simp [G.d_asked_folk h0 hn]) ?_
  refine seq_nx [some (tab m), some (fl (List.finRange n)), none, none] (by simp [oLrg_n hn]) ?_
  rw [sRet_def, eComp_map (xs := List.finRange n) (i := fi) (P := midB m) (F := fi) rfl (by rw [List.length_finRange]; omega)]
  · rfl
  · intro x _
    refine ⟨_, rfl, ?_, fun _ => rfl⟩
    rw [e1_def, eComp_map (xs := List.finRange n) (i := fi) (P := fun _ => true) (F := fun a => .bool (decide (m x a = m a x))) rfl (by rw [List.length_finRange]; omega)]
    · rw [filter_yes, bind_ok, oAll_map (fun a => decide (m x a = m a x))]; rfl
    · intro a _
      exact ⟨_, rfl, rfl, fun _ => by simp [wipeE]⟩
theorem d_law_lists_ll (xs : List (List (Fin n))) (h : xs.length ≤ 100000) (h2 : ∀ x ∈ xs, x.length ≤ 100000) : d__law_lists [ll xs] = .ok (.bool true) := by
  apply runN_rt
  show sSeq _ _ [some (ll xs), none, none] = _
  refine seq_nx [some (ll xs), none, none] (by rw [sIf_b (k := false) (by rfl)]; rfl) ?_
  refine seq_forl (α := List (Fin n)) (xs := xs) (enc := fl) (by simp [ll]) (fun k env => ∃ x, env = [some (ll xs), x, none]) ⟨none, rfl⟩ (fun k a env hk he => ?_) fun env he => ?_
  · obtain ⟨x, rfl⟩ := he
    refine ⟨[some (ll xs), some (fl a), none], [some (ll xs), some (fl a), none], rfl, ?_, _, rfl⟩
    have q : eComp [2] (gN 2) (iL (eV 1)) eYes (eCall d__law_whole [(eV 2)]) [some (ll xs), some (fl a), none] = .ok (.list (a.map fun _ => PyData.bool true)) := by
      rw [eComp_map (xs := a) (i := fi) (P := fun _ => true) (F := fun _ => .bool true) rfl (h2 a (List.mem_of_getElem? hk))]
      · rw [filter_yes]
      · intro x _
        exact ⟨_, rfl, rfl, fun _ => by simp [wipeE, d_whole_fi]⟩
    rw [sIf_b (k := false) (eOr_bb (k := false) (l := false) (by rfl) fun _ => by
      rw [e1_def, e1_def, q, bind_ok, oAll_map (fun _ => true), bind_ok, oNot_b]; simp)]; rfl
  · obtain ⟨x, rfl⟩ := he
    simp
theorem junk_ok {j : Nat} {env : En} {xs : List (Fin n)} {d : D} (he : env[j]? = some (some (fl xs))) (hl : xs.length ≤ 100000) : sJunk j [eK d] env = .nx (env.set j none) := by
  unfold sJunk sIf0
  rw [if_pos (by unfold isL; rw [he]; rfl)]
  show (eL [eK d] env).fl _ = _
  rw [eL_cons, eK_ok, bind_ok, eL_nil, bind_ok, fl_okk, he]
  unfold fl
  simp only
  rw [if_pos (by rw [List.length_map]; simp [lim]; omega)]
theorem junkR_ok {j : Nat} {env : En} {rows : List (List (Fin n))} {d : D} (he : env[j]? = some (some (ll rows))) (h0 : 0 < rows.length) (hl : rows.length ≤ 100000) (hr : ∀ r ∈ rows, r.length ≤ 100000) : sJunkR j (eK (.int 0)) (eK d) env = .nx (env.set j none) := by
  obtain ⟨r0, hr0⟩ : ∃ r, rows[0]? = some r := ⟨_, List.getElem?_eq_getElem h0⟩
  have lr0 := hr r0 (List.mem_of_getElem? hr0)
  have hrow : rowAt (rows.map fl) (.int 0) = some (0, r0.map fi) := by
    show rowAt (rows.map fl) (.int ((0 : Nat) : Int)) = _
    unfold rowAt
    simp only
    rw [List.length_map, ixN_nat h0]
    simp only
    rw [List.getElem?_map, hr0]; rfl
  unfold sJunkR sIf0
  rw [if_pos (by unfold isL; rw [he]; rfl)]
  show ((eK (.int 0)) env).fl _ = _
  rw [eK_ok, fl_okk, he]
  unfold ll
  simp only
  rw [hrow]
  simp only
  rw [eK_ok, fl_okk, if_pos (by rw [List.length_map, List.length_map]; simp [lim]; omega)]
end
end Tf
namespace Tf
open PySem
section
variable {n : Nat} {m : Fin n → Fin n → Fin n} {e : Fin n} {v : Fin n → Fin n}
/-! ### all parts -/
def subs {α : Type} : List α → List (List α)
  | [] => [[]]
  | a :: l => subs l ++ (subs l).map (a :: ·)
theorem subs_len {α : Type} (l : List α) : (subs l).length = 2 ^ l.length := by
  induction l with
  | nil => rfl
  | cons a l ih => rw [subs, List.length_append, List.length_map, ih, List.length_cons, Nat.pow_succ]; omega
theorem filter_subs {α : Type} (P : α → Bool) (l : List α) : l.filter P ∈ subs l := by
  induction l with
  | nil => exact List.mem_singleton.mpr rfl
  | cons a l ih =>
    rw [subs, List.mem_append, List.filter_cons]
    split
    · exact .inr (List.mem_map_of_mem ih)
    · exact .inl ih
theorem rows_few {rows : List (List (Fin n))} (hn : n ≤ 12) (nd : rows.Nodup) (h : ∀ r ∈ rows, ∃ Q, r = el Q) : rows.length ≤ 4096 := by
  have := len_le_of_sub nd (ys := subs (List.finRange n)) fun r hr => by
    obtain ⟨Q, rfl⟩ := h r hr
    exact filter_subs Q _
  rw [subs_len, List.length_finRange] at this
  have h2 : 2 ^ n ≤ 2 ^ 12 := Nat.pow_le_pow_right (by decide) hn
  omega
theorem clo_ex (m : Fin n → Fin n → Fin n) (e : Fin n) (S : Fin n → Bool) : ∃ Q, Clo m e S Q := by
  obtain ⟨d, h, _, _⟩ := itB_stop (m := m) (fun x => S x || decide (x = e))
  exact ⟨_, itB_clo h⟩
noncomputable def clQ (m : Fin n → Fin n → Fin n) (e : Fin n) (xs : List (Fin n)) : Fin n → Bool := Classical.choose (clo_ex m e (inB xs))
theorem clQ_clo (m : Fin n → Fin n → Fin n) (e : Fin n) (xs : List (Fin n)) : Clo m e (inB xs) (clQ m e xs) := Classical.choose_spec (clo_ex m e (inB xs))
theorem d_grown_eq (G : Gr m e v) (hn : n ≤ 12) {xs : List (Fin n)} (hl : xs.length ≤ 100) : d_grown [tab m, fl xs] = .ok (fl (el (clQ m e xs))) := by
  obtain ⟨Q, h, hd⟩ := d_grown_ok G hn hl
  rw [hd, h.u (clQ_clo m e xs)]
/-- a part -/
structure Pt (m : Fin n → Fin n → Fin n) (e : Fin n) (Q : Fin n → Bool) : Prop where
  en : Q e = true
  cl : ∀ a b, Q a = true → Q b = true → Q (m a b) = true
theorem Clo.pt {S Q : Fin n → Bool} (h : Clo m e S Q) : Pt m e Q := ⟨h.en, h.cl⟩
theorem Pt.sub {Q : Fin n → Bool} (h : Pt m e Q) : Sub m e (el Q) := ⟨el_nodup Q, el_mem.mpr h.en, fun a ha b hb => el_mem.mpr (h.cl a b (el_mem.mp ha) (el_mem.mp hb))⟩
/-- a part is what its own elements make -/
theorem Pt.clo {Q : Fin n → Bool} (h : Pt m e Q) : clQ m e (el Q) = Q := (clQ_clo m e (el Q)).u ⟨fun x hx => el_mem.mp (of_decide_eq_true hx), h.en, h.cl, fun R h1 _ _ x hx => h1 x (decide_eq_true (el_mem.mpr hx))⟩
theorem clQ_add {xs : List (Fin n)} {a : Fin n} : clQ m e (el (clQ m e xs) ++ [a]) = clQ m e (xs ++ [a]) := by
  have h1 := clQ_clo m e (el (clQ m e xs) ++ [a])
  have h2 := clQ_clo m e (xs ++ [a])
  have h3 := clQ_clo m e xs
  funext x
  rw [Bool.eq_iff_iff]
  constructor
  · refine h1.least _ (fun y hy => ?_) h2.en h2.cl x
    rcases List.mem_append.mp (of_decide_eq_true hy) with z | z
    · exact h3.least _ (fun w hw => h2.inc w (decide_eq_true (List.mem_append_left _ (of_decide_eq_true hw)))) h2.en h2.cl y (el_mem.mp z)
    · exact h2.inc y (decide_eq_true (List.mem_append_right _ z))
  · refine h2.least _ (fun y hy => ?_) h1.en h1.cl x
    rcases List.mem_append.mp (of_decide_eq_true hy) with z | z
    · exact h1.inc y (decide_eq_true (List.mem_append_left _ (el_mem.mpr (h3.inc y (decide_eq_true z)))))
    · exact h1.inc y (decide_eq_true (List.mem_append_right _ z))
/-- all parts, in some order -/
structure AllPt (m : Fin n → Fin n → Fin n) (e : Fin n) (rows : List (List (Fin n))) : Prop where
  nd : rows.Nodup
  pt : ∀ r, r ∈ rows ↔ ∃ Q, Pt m e Q ∧ r = el Q
theorem allPt_of {rows : List (List (Fin n))} (nd : rows.Nodup) (h1 : ∀ r ∈ rows, ∃ Q, Pt m e Q ∧ r = el Q) (h0 : el (clQ m e []) ∈ rows) (hs : ∀ r ∈ rows, ∀ a, el (clQ m e (r ++ [a])) ∈ rows) : AllPt m e rows := by
  refine ⟨nd, fun r => ⟨h1 r, ?_⟩⟩
  rintro ⟨Q, hQ, rfl⟩
  have main : ∀ xs ys : List (Fin n), el (clQ m e ys) ∈ rows → el (clQ m e (ys ++ xs)) ∈ rows := fun xs => by
    induction xs with
    | nil => intro ys h; rw [List.append_nil]; exact h
    | cons a xs ih =>
      intro ys h
      have := ih (ys ++ [a]) (by rw [← clQ_add]; exact hs _ h a)
      rwa [List.append_assoc] at this
  have := main (el Q) [] h0
  rw [List.nil_append, hQ.clo] at this
  exact this
def vals (r : List (Fin n)) : List Int := r.map fun a => (a.val : Int)
theorem vals_inj {r s : List (Fin n)} (h : vals r = vals s) : r = s := by
  have h1 : fl r = fl s := by rw [fl_il, fl_il]; exact congrArg il h
  have := eqv_fl r s
  rw [h1, eqv_refl _ (sh_fl s).1] at this
  exact of_decide_eq_true this.symm
theorem asInts_fi (r : List (Fin n)) : asInts (r.map fi) = some (vals r) := by
  have : r.map fi = (vals r).map .int := by unfold vals; rw [List.map_map]; rfl
  rw [this, asInts_map]
theorem oTupF_fl (r : List (Fin n)) : oTupF (fl r) = .ok (.tuple (r.map fi)) := by
  show (if (r.map fi).all flat then Rs.ok (PyData.tuple (r.map fi)) else .no) = _
  rw [if_pos (flat_fl r)]
def keysD (rows : List (List (Fin n))) : D := .dict (dtD (rows.map vals))
theorem keys_mem {rows : List (List (Fin n))} {r : List (Fin n)} : vals r ∈ rows.map vals ↔ r ∈ rows := by
  rw [List.mem_map]
  exact ⟨fun ⟨s, h, e⟩ => by rw [← vals_inj e]; exact h, fun h => ⟨r, h, rfl⟩⟩
theorem gDNi_keys (rows : List (List (Fin n))) (r : List (Fin n)) : gDNi (.tuple (r.map fi)) (some (some (keysD rows))) = .ok (.bool (!decide (r ∈ rows))) := by
  unfold gDNi keysD
  simp only [asInts_fi, unD_dtD]
  congr 3
  rw [Bool.eq_iff_iff, decide_eq_true_eq, decide_eq_true_eq, keys_mem]
theorem gPut_keys {rows : List (List (Fin n))} {r : List (Fin n)} (h : r ∉ rows) (hl : rows.length ≤ 100000) : gPut (.tuple (r.map fi)) (.bool true) (some (some (keysD rows))) = some (keysD (rows ++ [r])) := by
  unfold gPut keysD
  simp only [asInts_fi, unD_dtD]
  rw [if_pos (by rw [List.length_map]; exact decide_eq_true hl), if_neg (fun z => h (keys_mem.mp z)), List.map_append]; rfl
/-- take in, where it is new -/
theorem part_step {rows : List (List (Fin n))} {r : List (Fin n)} {x0 x3 x4 x6 x7 : Option D} (hl : rows.length ≤ 100000) :
    sIf (eDNi (e1 oTupF (eV 5)) 1) (sSeq (sDPutT 1 (e1 oTupF (eV 5)) (eK (.bool true))) (sChg 2 cApp [(eV 5)])) sSkip [x0, some (keysD rows), some (ll rows), x3, x4, some (fl r), x6, x7] =
      .nx [x0, some (keysD (addL rows r)), some (ll (addL rows r)), x3, x4, some (fl r), x6, x7] := by
  have ht : e1 oTupF (eV 5) [x0, some (keysD rows), some (ll rows), x3, x4, some (fl r), x6, x7] = .ok (.tuple (r.map fi)) := by
    rw [e1_def, show eV 5 [x0, some (keysD rows), some (ll rows), x3, x4, some (fl r), x6, x7] = .ok (fl r) from rfl, bind_ok, oTupF_fl]
  rw [sIf_b (k := !decide (r ∈ rows)) (by unfold eDNi; rw [ht, bind_ok]; exact gDNi_keys rows r)]
  unfold addL
  by_cases z : r ∈ rows
  · rw [decide_eq_true z, if_pos z]; rfl
  · rw [decide_eq_false z, if_neg z]
    show sSeq _ _ _ = _
    rw [sSeq_nx (e' := [x0, some (keysD (rows ++ [r])), some (ll rows), x3, x4, some (fl r), x6, x7]) (by
      unfold sDPutT
      rw [if_pos (show isDct 1 _ = true from rfl), eK_ok, fl_okk, ht, fl_okk]
      show (match gPut (.tuple (r.map fi)) (.bool true) (some (some (keysD rows))) with | some d => Fl.nx _ | none => Fl.no) = _
      rw [gPut_keys z hl]; rfl)]
    rw [sChg_ok (ds := [fl r]) (xs := rows.map fl) rfl rfl (cApp_ok (by rw [List.length_map]; exact hl))]
    unfold ll
    rw [List.map_append]; rfl
def prD (r : List (Fin n)) : D := .tuple [.int r.length, fl r]
def sortP (rows : List (List (Fin n))) : List (List (Fin n)) := rows.mergeSort fun a b => PySem.W.dataLe false id (prD a) (prD b)
theorem sortP_perm (rows : List (List (Fin n))) : (sortP rows).Perm rows := List.mergeSort_perm _ _
theorem sh_prD (r : List (Fin n)) : sh 2 (prD r) := sh_tup fun d hd => by
  rcases List.mem_cons.mp hd with rfl | hd
  · exact sh_int 1 _
  · rw [List.mem_singleton.mp hd]; exact sh_fl r
theorem oSort_pr {rows : List (List (Fin n))} (h : rows.length ≤ 100000) : oSort (.list (rows.map prD)) = .ok (.list ((sortP rows).map prD)) := by
  show (if sortOk (rows.map prD) then Rs.ok (PyData.list (sortD (rows.map prD))) else .no) = _
  rw [if_pos]
  · unfold sortD sortP
    rw [List.map_mergeSort (s := PySem.W.dataLe false id) (f := prD) fun _ _ _ _ => rfl]
  · unfold sortOk
    rw [Bool.and_eq_true, Bool.and_eq_true, Bool.and_eq_true]
    refine ⟨⟨⟨?_, ?_⟩, by rw [List.length_map]; exact decide_eq_true h⟩, ?_⟩
    · unfold allAlike
      rw [List.all_map, List.all_eq_true]
      intro x _
      show (rows.map prD).all _ = true
      rw [List.all_map, List.all_eq_true]
      intro y _
      show W.alike (.tuple [.int x.length, fl x]) (.tuple [.int y.length, fl y]) = true
      rw [W.alike]
      show (W.alike (.int x.length) (.int y.length) && W.alikeAll [fl x] [fl y]) = true
      show (true && (W.alike (fl x) (fl y) && true)) = true
      rw [fl_il, fl_il, alike_il]; rfl
    · rw [Bool.or_eq_true]; left
      rw [List.all_map, List.all_eq_true]
      intro x _; rfl
    · rw [List.all_map, List.all_eq_true]
      intro x _
      exact decide_eq_true (Nat.le_trans (sh_prD x).2 (by decide))
theorem addL_up {rows : List (List (Fin n))} {r x : List (Fin n)} (h : x ∈ rows) : x ∈ addL rows r := addL_mem.mpr (.inl h)
theorem addL_pre (rows : List (List (Fin n))) (r : List (Fin n)) : ∃ zs, addL rows r = rows ++ zs := by
  unfold addL
  split
  · exact ⟨[], by simp⟩
  · exact ⟨[r], rfl⟩
theorem d_parts_ok (G : Gr m e v) (h0 : 1 ≤ n) (hn : n ≤ 12) : ∃ rows, AllPt m e rows ∧ d_parts [tab m] = .ok (ll (sortP rows)) := by
  -- what holds of the rows
  let Gd : List (List (Fin n)) → Prop := fun rows => rows.Nodup ∧ (∀ r ∈ rows, ∃ Q, Pt m e Q ∧ r = el Q) ∧ el (clQ m e []) ∈ rows
  have few : ∀ {rows}, Gd rows → rows.length ≤ 4096 := fun h => rows_few hn h.1 fun r hr => by
    obtain ⟨Q, _, h⟩ := h.2.1 r hr
    exact ⟨Q, h⟩
  have gadd : ∀ {rows} (xs : List (Fin n)), Gd rows → Gd (addL rows (el (clQ m e xs))) := fun {rows} xs h => ⟨addL_nodup h.1, fun r hr => by
    rcases addL_mem.mp hr with z | z
    · exact h.2.1 r z
    · exact ⟨_, (clQ_clo m e xs).pt, z⟩, addL_up h.2.2⟩
  let r0 : List (Fin n) := el (clQ m e [])
  have g0 : Gd [r0] := ⟨by simp, fun r hr => ⟨_, (clQ_clo m e []).pt, List.mem_singleton.mp hr⟩, List.mem_singleton.mpr rfl⟩
  obtain ⟨lf, env', h1, hI, h2⟩ := while_left (t := e2 oLt (eV 3) (e1 oLen (eV 2)))
    (b := sSeq (sFor (gN 4) (iR1 (e1 oLen (eV 0))) (sSeq (sAsg (gN 5) (eCall d_grown [(eV 0), (e2 oCat (e2 oIx (eV 2) (eV 3)) (eLst [(eV 4)]))])) (sIf (eDNi (e1 oTupF (eV 5)) 1) (sSeq (sDPutT 1 (e1 oTupF (eV 5)) (eK (.bool true))) (sChg 2 cApp [(eV 5)])) sSkip))) (sAsg (gN 3) (e2 oAddS (eV 3) (eK (.int 1)))))
    (fun lf env => ∃ (rows : List (List (Fin n))) (k : Nat) (x4 x5 : Option D), env = [some (tab m), some (keysD rows), some (ll rows), some (.int (k : Nat)), x4, x5, none, none] ∧ Gd rows ∧ k ≤ rows.length ∧ lf = 4999 - k ∧ ∀ r ∈ rows.take k, ∀ a, el (clQ m e (r ++ [a])) ∈ rows)
    (fun lf env hI => by
      obtain ⟨rows, k, x4, x5, rfl, g, hk, rfl, cl⟩ := hI
      have hf := few g
      have tt : e2 oLt (eV 3) (e1 oLen (eV 2)) [some (tab m), some (keysD rows), some (ll rows), some (.int (k : Nat)), x4, x5, none, none] = .ok (.bool (decide ((k : Int) < rows.length))) := by simp
      rcases Nat.lt_or_ge k rows.length with hlt | hge
      · right
        rw [tt, decide_eq_true (by omega)]
        refine ⟨rfl, ?_⟩
        obtain ⟨r, hr⟩ : ∃ r, rows[k]? = some r := ⟨_, List.getElem?_eq_getElem hlt⟩
        obtain ⟨Q0, _, hQ0⟩ := g.2.1 r (List.mem_of_getElem? hr)
        have hrl : r.length ≤ n := by rw [hQ0]; exact el_len Q0
        obtain ⟨_, q1, rows', y4, y5, rfl, g', ⟨zs, hz⟩, hp⟩ := for_fi (n := n) (g := gN 4)
          (b := sSeq (sAsg (gN 5) (eCall d_grown [(eV 0), (e2 oCat (e2 oIx (eV 2) (eV 3)) (eLst [(eV 4)]))])) (sIf (eDNi (e1 oTupF (eV 5)) 1) (sSeq (sDPutT 1 (e1 oTupF (eV 5)) (eK (.bool true))) (sChg 2 cApp [(eV 5)])) sSkip))
          (fun i env => ∃ (rows' : List (List (Fin n))) (y4 y5 : Option D), env = [some (tab m), some (keysD rows'), some (ll rows'), some (.int (k : Nat)), y4, y5, none, none] ∧ Gd rows' ∧ (∃ zs, rows' = rows ++ zs) ∧ ∀ a : Fin n, a.val < i → el (clQ m e (r ++ [a])) ∈ rows')
          (fun a env he => by
            obtain ⟨rows', y4, y5, rfl, g', ⟨zs, hz⟩, hp⟩ := he
            have hf' := few g'
            have hr' : rows'[k]? = some r := by rw [hz, List.getElem?_append_left hlt]; exact hr
            obtain ⟨ws, hw⟩ := addL_pre rows' (el (clQ m e (r ++ [a])))
            refine ⟨[some (tab m), some (keysD rows'), some (ll rows'), some (.int (k : Nat)), some (fi a), y5, none, none], [some (tab m), some (keysD (addL rows' (el (clQ m e (r ++ [a]))))), some (ll (addL rows' (el (clQ m e (r ++ [a]))))), some (.int (k : Nat)), some (fi a), some (fl (el (clQ m e (r ++ [a])))), none, none], rfl, ?_, _, _, _, rfl, gadd _ g', ⟨zs ++ ws, by rw [hw, hz, List.append_assoc]⟩, fun b hb => ?_⟩
            · refine seq_nx [some (tab m), some (keysD rows'), some (ll rows'), some (.int (k : Nat)), some (fi a), some (fl (el (clQ m e (r ++ [a])))), none, none] ?_ (part_step (by omega))
              have c : oCat (fl r) (.list [fi a]) = .ok (fl (r ++ [a])) := oCat_fl (ys := [a]) (by simp; omega)
              have dg := d_grown_eq G hn (xs := r ++ [a]) (by rw [List.length_append]; simp; omega)
              simp only [sAsg_def, eCall_def, eL_cons, eL_nil, e2_def, eLst_def, eV_zero, eV_succ, bind_ok, oIx_ll hr', c, dg, fl_okk, gN_def]; rfl
            · rcases Nat.lt_or_ge b.val a.val with z | z
              · exact addL_up (hp b z)
              · have : b = a := Fin.ext (by omega)
                subst this
                exact addL_mem.mpr (.inr rfl))
          (e := [some (tab m), some (keysD rows), some (ll rows), some (.int (k : Nat)), x4, x5, none, none]) ⟨rows, x4, x5, rfl, g, ⟨[], by simp⟩, fun a h => absurd h (Nat.not_lt_zero _)⟩
        have hf' := few g'
        refine ⟨4999 - (k + 1), [some (tab m), some (keysD rows'), some (ll rows'), some (.int ((k + 1 : Nat) : Int)), y4, y5, none, none], by omega, ?_, rows', k + 1, y4, y5, rfl, g', by rw [hz, List.length_append]; omega, rfl, fun s hs a => ?_⟩
        · rw [sSeq_nx (show sFor _ _ _ _ = _ from by rw [sFor_def, iR1_len hn rfl, fl_okk]; exact q1)]
          simp
        · rw [hz, List.take_append_of_le_length (by omega), take_succ_get hr] at hs
          rcases List.mem_append.mp hs with z | z
          · rw [hz]; exact List.mem_append_left _ (cl s z a)
          · rw [List.mem_singleton.mp z]; exact hp a a.isLt
      · left
        rw [tt, decide_eq_false (by omega)])
    5000 (4999 - 0) [some (tab m), some (keysD [r0]), some (ll [r0]), some (.int ((0 : Nat) : Int)), none, none, none, none] (by omega) ⟨[r0], 0, none, none, rfl, g0, by simp, rfl, fun r hr => by simp at hr⟩
  obtain ⟨rows, k, x4, x5, rfl, g, hk, hlf, cl⟩ := hI
  have hf := few g
  have hkk : k = rows.length := by
    have h3 : (Rs.ok (PyData.bool (decide ((k : Int) < rows.length)))) = Rs.ok (PyData.bool false) := by
      rw [← h2]
      simp
    have h3 : ¬ ((k : Int) < rows.length) := fun z => by
      rw [decide_eq_true z] at h3
      cases h3
    exact Nat.le_antisymm hk (Nat.le_of_not_lt fun z => h3 (Int.ofNat_lt.mpr z))
  subst hkk
  rw [List.take_length] at cl
  refine ⟨rows, allPt_of g.1 g.2.1 g.2.2 cl, runN_rt ?_⟩
  have dg : d_grown [tab m, .list []] = .ok (fl r0) := d_grown_eq G hn (xs := []) (by simp)
  show sSeq _ _ [some (tab m), none, none, none, none, none, none, none] = _
  refine seq_nx [some (tab m), none, none, none, none, none, none, none] (by simp [G.d_asked_folk h0 hn]) ?_
  refine seq_nx [some (tab m), some (keysD [r0]), none, none, none, none, none, none] ?_ ?_
  · have : eDT1 (e1 oTupF (eCall d_grown [(eV 0), (eLst [])])) (eK (.bool true)) [some (tab m), none, none, none, none, none, none, none] = .ok (keysD [r0]) := by
      unfold eDT1
      simp only [e2_def, e1_def, eCall_def, eL_cons, eL_nil, eLst_def, eV_zero, bind_ok, dg, oTupF_fl, eK_ok]
      unfold gDT1
      simp only [asInts_fi]; rfl
    rw [sAsg_def, this]; rfl
  refine seq_nx [some (tab m), some (keysD [r0]), some (ll [r0]), none, none, none, none, none] (by simp [dg, ll]) ?_
  refine seq_nx [some (tab m), some (keysD [r0]), some (ll [r0]), some (.int ((0 : Nat) : Int)), none, none, none, none] (by simp) ?_
  rw [sSeq_nx (show sWhile 5000 _ _ _ = _ from h1)]
  have q1 : eComp [7] (gN 7) (iL (eV 2)) eYes (eTup [(e1 oLen (eV 7)), (eV 7)]) [some (tab m), some (keysD rows), some (ll rows), some (.int ((rows.length : Nat) : Int)), x4, x5, none, none] = .ok (.list (rows.map prD)) := by
    rw [eComp_map (xs := rows) (i := fl) (P := fun _ => true) (F := prD) rfl (by omega)]
    · rw [filter_yes]
    · intro r _
      exact ⟨_, rfl, rfl, fun _ => by simp [wipeE, prD]⟩
  have sl : (sortP rows).length ≤ 4096 := by rw [(sortP_perm rows).length_eq]; exact hf
  rw [sRet_def, eComp_map (xs := sortP rows) (i := prD) (P := fun _ => true) (F := fl) (by rw [iL_def, e1_def, q1, bind_ok, oSort_pr (by omega)]; rfl) (by omega)]
  · rw [filter_yes]; rfl
  · intro r _
    exact ⟨_, rfl, rfl, fun _ => rfl⟩
end
end Tf
namespace Tf
open PySem
/-! ### tables as texts -/
theorem sh_str (k : Nat) {s : Str} (h : ∀ c ∈ s.cps.toList, c < 128) : sh k (.str s) := ⟨by
  rw [PyData.canLay0]
  unfold PyData.strOk
  rw [Array.all_eq_true]
  intro i hi
  have := h s.cps[i] (Array.mem_toList_iff.mpr (Array.getElem_mem hi))
  simp; omega, Nat.zero_le _⟩
theorem asStrs_map (xs : List Str) : asStrs (xs.map .str) = some xs := by
  induction xs with
  | nil => rfl
  | cons x xs ih => rw [List.map_cons]; unfold asStrs; rw [ih]; rfl
theorem sum_le {α : Type} (f : α → Nat) (B : Nat) : ∀ xs : List α, (∀ x ∈ xs, f x ≤ B) → (xs.map f).sum ≤ xs.length * B
  | [], _ => by simp
  | x :: xs, h => by
    have h1 := h x (List.mem_cons_self ..)
    have h2 := sum_le f B xs fun y hy => h y (List.mem_cons_of_mem _ hy)
    rw [List.map_cons, List.sum_cons, List.length_cons, Nat.succ_mul]
    omega
theorem join_snoc (s : Str) : ∀ (xs : List Str) (y : Str), xs ≠ [] → Str.join s (xs ++ [y]) = Str.join s xs ++ s ++ y
  | [], _, h => absurd rfl h
  | [x], y, _ => rfl
  | x :: z :: r, y, _ => by
    show x ++ s ++ Str.join s (z :: r ++ [y]) = x ++ s ++ Str.join s (z :: r) ++ s ++ y
    rw [join_snoc s (z :: r) y (by simp)]
    refine TL.ext_tl ?_
    simp only [TL.tl_append, List.append_assoc]
theorem join_len {s : Str} {xs : List Str} {B : Nat} (h : ∀ x ∈ xs, x.length ≤ B) : (Str.join s xs).length ≤ xs.length * (B + s.length) := by
  have h1 := StrLaws.join_length_le s xs
  have h2 := sum_le (fun x : Str => x.length) B xs h
  rw [Nat.mul_add]
  omega
/-- the text of a number -/
def nm (x : Nat) : Str := Str.ofString (toString ((x : Nat) : Int))
theorem nm_len {x : Nat} (h : x < 100) : (nm x).length ≤ 2 := by
  rw [TL.len_tl, show TL.tl (nm x) = TL.numL x from TL.tl_num x]
  exact TL.numL_len (by decide) h
theorem number_12 {x : Nat} (h : x < 12) : d_number_of [.str (nm x)] = .ok (.int (x : Nat)) := by
  match x, h with
  | 0, _ => kernel_rfl
  | 1, _ => kernel_rfl
  | 2, _ => kernel_rfl
  | 3, _ => kernel_rfl
  | 4, _ => kernel_rfl
  | 5, _ => kernel_rfl
  | 6, _ => kernel_rfl
  | 7, _ => kernel_rfl
  | 8, _ => kernel_rfl
  | 9, _ => kernel_rfl
  | 10, _ => kernel_rfl
  | 11, _ => kernel_rfl
  | _ + 12, h => omega
theorem oStr_nm {x : Nat} (h : x < 12) : oStr (.int (x : Nat)) = .ok (.str (nm x)) := by
  show (if decide (((x : Nat) : Int).natAbs < 1000000) = true then Rs.ok (PyData.str (toString ((x : Nat) : Int))) else .no) = _
  rw [if_pos (decide_eq_true (by omega))]; rfl
def sp : Str := " "
def sl : Str := "/"
theorem tl_sp : TL.tl sp = [32] := by decide +kernel
theorem tl_sl : TL.tl sl = [47] := by decide +kernel
theorem len_sp : sp.length = 1 := by rw [TL.len_tl, tl_sp]; rfl
theorem len_sl : sl.length = 1 := by rw [TL.len_tl, tl_sl]; rfl
theorem tl_join_mem {s : Str} {c : Nat} : ∀ {xs : List Str}, c ∈ TL.tl (Str.join s xs) → (∃ x ∈ xs, c ∈ TL.tl x) ∨ c ∈ TL.tl s
  | [], h => by
    have : TL.tl (Str.join s []) = [] := rfl
    rw [this] at h; cases h
  | [x], h => .inl ⟨x, List.mem_singleton.mpr rfl, h⟩
  | x :: z :: r, h => by
    have h : c ∈ TL.tl (x ++ s ++ Str.join s (z :: r)) := h
    rw [TL.tl_append, TL.tl_append, List.mem_append, List.mem_append] at h
    rcases h with (h | h) | h
    · exact .inl ⟨x, List.mem_cons_self .., h⟩
    · exact .inr h
    · rcases tl_join_mem h with ⟨y, hy, h⟩ | h
      · exact .inl ⟨y, List.mem_cons_of_mem _ hy, h⟩
      · exact .inr h
section
variable {n : Nat} (m : Fin n → Fin n → Fin n)
def rowT (a : Fin n) : Str := Str.join sp ((List.finRange n).map fun b => nm (m a b).val)
def textT : Str := Str.join sl ((List.finRange n).map (rowT m))
theorem rowT_len (hn : n ≤ 12) (a : Fin n) : (rowT m a).length ≤ 36 := by
  have := join_len (s := sp) (xs := (List.finRange n).map fun b => nm (m a b).val) (B := 2) fun x hx => by
    obtain ⟨b, _, rfl⟩ := List.mem_map.mp hx
    exact nm_len (by have := (m a b).isLt; omega)
  rw [List.length_map, List.length_finRange, len_sp] at this
  show (Str.join sp _).length ≤ 36
  omega
theorem textT_len (hn : n ≤ 12) : (textT m).length ≤ 444 := by
  have := join_len (s := sl) (xs := (List.finRange n).map (rowT m)) (B := 36) fun x hx => by
    obtain ⟨b, _, rfl⟩ := List.mem_map.mp hx
    exact rowT_len m hn b
  rw [List.length_map, List.length_finRange, len_sl] at this
  show (Str.join sl _).length ≤ 444
  omega
theorem gJoin_map {s : Str} {xs : List Str} (h : joinLim s xs = true) : gJoin s (.list (xs.map .str)) = .ok (.str (Str.join s xs)) := by
  show (match asStrs (xs.map .str) with | some ys => if joinLim s ys then Rs.ok (PyData.str (Txt.join s ys)) else .no | none => .no) = _
  rw [asStrs_map]
  simp only
  rw [if_pos h, TL.join_eq]
theorem joinLim_of {s : Str} {xs : List Str} {B : Nat} (h : ∀ x ∈ xs, x.length ≤ B) (h2 : xs.length * (B + s.length) ≤ 100000) : joinLim s xs = true := by
  have h3 := sum_le (fun x : Str => x.length) B xs h
  unfold joinLim
  rw [Nat.mul_add] at h2
  exact decide_eq_true (by omega)
theorem d_shown_tab (h0 : 1 ≤ n) (hn : n ≤ 12) : d_shown [tab m] = .ok (.str (textT m)) := by
  apply runN_rt
  show sSeq _ _ [some (tab m), none, none] = _
  refine seq_nx [some (tab m), none, none] (by simp [d_asked_table_tab h0 hn]) ?_
  have q : eComp [1] (gN 1) (iL (eV 0)) eYes (eJoin (eK (.str " ")) (eComp [2] (gN 2) (iL (eV 1)) eYes (e1 oStr (eV 2)))) [some (tab m), none, none] = .ok (.list (((List.finRange n).map (rowT m)).map .str)) := by
    rw [eComp_map (xs := List.finRange n) (i := fun a => rowD (m a)) (P := fun _ => true) (F := fun a => .str (rowT m a)) rfl (by rw [List.length_finRange]; omega)]
    · rw [filter_yes, List.map_map]; rfl
    · intro a _
      refine ⟨_, rfl, rfl, fun _ => ?_⟩
      have q2 : eComp [2] (gN 2) (iL (eV 1)) eYes (e1 oStr (eV 2)) [some (tab m), some (rowD (m a)), none] = .ok (.list (((List.finRange n).map fun b => nm (m a b).val).map .str)) := by
        rw [eComp_map (xs := (List.finRange n).map (m a)) (i := fi) (P := fun _ => true) (F := fun b => .str (nm b.val)) rfl (by rw [List.length_map, List.length_finRange]; omega)]
        · rw [filter_yes, List.map_map, List.map_map]; rfl
        · intro b _
          have : oStr (fi b) = .ok (.str (nm b.val)) := oStr_nm (by have := b.isLt; omega)
          exact ⟨_, rfl, rfl, fun _ => by simp [wipeE, this]⟩
      show (match PyData.str " " with | .str s => (eComp [2] (gN 2) (iL (eV 1)) eYes (e1 oStr (eV 2)) [some (tab m), some (rowD (m a)), none]).bind (gJoin s) | _ => .no) = _
      rw [q2]
      simp only [bind_ok]
      exact gJoin_map (joinLim_of (B := 2) (fun x hx => by
        obtain ⟨b, _, rfl⟩ := List.mem_map.mp hx
        exact nm_len (by have := (m a b).isLt; omega)) (by
        have := len_sp
        rw [List.length_map, List.length_finRange, show (Str.ofString " ").length = 1 from len_sp]; omega))
  have : eJoin (eK (.str "/")) (eComp [1] (gN 1) (iL (eV 0)) eYes (eJoin (eK (.str " ")) (eComp [2] (gN 2) (iL (eV 1)) eYes (e1 oStr (eV 2))))) [some (tab m), none, none] = .ok (.str (textT m)) := by
    show (match PyData.str "/" with | .str s => (eComp [1] (gN 1) (iL (eV 0)) eYes (eJoin (eK (.str " ")) (eComp [2] (gN 2) (iL (eV 1)) eYes (e1 oStr (eV 2)))) [some (tab m), none, none]).bind (gJoin s) | _ => .no) = _
    rw [q]
    simp only [bind_ok]
    exact gJoin_map (joinLim_of (B := 36) (fun x hx => by
      obtain ⟨b, _, rfl⟩ := List.mem_map.mp hx
      exact rowT_len m hn b) (by
      rw [List.length_map, List.length_finRange, show (Str.ofString "/").length = 1 from len_sl]; omega))
  rw [sRet_def, this]; rfl
theorem free_row (hn : n ≤ 12) (a : Fin n) : 47 ∉ TL.tl (rowT m a) := fun h => by
  rcases tl_join_mem h with ⟨x, hx, h⟩ | h
  · obtain ⟨b, _, rfl⟩ := List.mem_map.mp hx
    rw [show TL.tl (nm (m a b).val) = TL.numL (m a b).val from TL.tl_num _] at h
    exact TL.numL_free (.inl (by decide)) h
  · rw [tl_sp] at h; simp at h
theorem split_text (h0 : 1 ≤ n) (hn : n ≤ 12) : Txt.split (textT m) sl = (List.finRange n).map (rowT m) := by
  have := TL.split_join (y := sl) (s := 47) (S := []) tl_sl (by decide +kernel) (parts := (List.finRange n).map (rowT m)) (fun z => by
    have := congrArg List.length z
    rw [List.length_map, List.length_finRange] at this
    simp at this; omega) fun p hp => by
    obtain ⟨a, _, rfl⟩ := List.mem_map.mp hp
    exact free_row m hn a
  rwa [TL.join_eq] at this
theorem split_row (h0 : 1 ≤ n) (hn : n ≤ 12) (a : Fin n) : Txt.split (rowT m a) sp = (List.finRange n).map fun b => nm (m a b).val := by
  have := TL.split_join (y := sp) (s := 32) (S := []) tl_sp (by decide +kernel) (parts := (List.finRange n).map fun b => nm (m a b).val) (fun z => by
    have := congrArg List.length z
    rw [List.length_map, List.length_finRange] at this
    simp at this; omega) fun p hp => by
    obtain ⟨b, _, rfl⟩ := List.mem_map.mp hp
    intro h
    rw [show TL.tl (nm (m a b).val) = TL.numL (m a b).val from TL.tl_num _] at h
    exact TL.numL_free (.inl (by decide)) h
  rwa [TL.join_eq] at this
theorem gSplit_ok {s t : Str} (h : s.length ≤ 100000) (ht : t.length = 1) : gSplit s (.str t) = .ok (.list ((Txt.split s t).map .str)) := by
  show (if (!(t.length == 0) && lim s.length) = true then Rs.ok (PyData.list ((Txt.split s t).map .str)) else .no) = _
  rw [if_pos (by rw [ht]; simp [lim]; exact h)]
theorem d_read_tab (h0 : 1 ≤ n) (hn : n ≤ 12) : d_read [.str (textT m)] = .ok (tab m) := by
  apply runN_rt
  show sSeq _ _ [some (.str (textT m)), none, none, none] = _
  have tl := textT_len m hn
  refine seq_nx [some (.str (textT m)), some (tab m), none, none] ?_ ?_
  · have q : eComp [2] (gN 2) (iL (eSplit (eV 0) (eK (.str "/")))) eYes (eComp [3] (gN 3) (iL (eSplit (eV 2) (eK (.str " ")))) eYes (eCall d_number_of [(eV 3)])) [some (.str (textT m)), none, none, none] = .ok (tab m) := by
      rw [eComp_map (xs := List.finRange n) (i := fun a => .str (rowT m a)) (P := fun _ => true) (F := fun a => rowD (m a))]
      · rw [filter_yes]; rfl
      · rw [iL_def]
        have : eSplit (eV 0) (eK (.str "/")) [some (.str (textT m)), none, none, none] = .ok (.list ((List.finRange n).map fun a => .str (rowT m a))) := by
          show gSplit (textT m) (.str sl) = _
          rw [gSplit_ok (by omega) len_sl, split_text m h0 hn, List.map_map]; rfl
        rw [this]; rfl
      · rw [List.length_finRange]; omega
      · intro a _
        refine ⟨_, rfl, rfl, fun _ => ?_⟩
        have rl := rowT_len m hn a
        show eComp [3] (gN 3) (iL (eSplit (eV 2) (eK (.str " ")))) eYes (eCall d_number_of [(eV 3)]) [some (.str (textT m)), none, some (.str (rowT m a)), none] = _
        rw [eComp_map (xs := List.finRange n) (i := fun b => .str (nm (m a b).val)) (P := fun _ => true) (F := fun b => fi (m a b))]
        · rw [filter_yes]; unfold rowD fl; rw [List.map_map]; rfl
        · rw [iL_def]
          have : eSplit (eV 2) (eK (.str " ")) [some (.str (textT m)), none, some (.str (rowT m a)), none] = .ok (.list ((List.finRange n).map fun b => .str (nm (m a b).val))) := by
            show gSplit (rowT m a) (.str sp) = _
            rw [gSplit_ok (by omega) len_sp, split_row m h0 hn, List.map_map]; rfl
          rw [this]; rfl
        · rw [List.length_finRange]; omega
        · intro b _
          have : d_number_of [.str (nm (m a b).val)] = .ok (fi (m a b)) := number_12 (by have := (m a b).isLt; omega)
          exact ⟨_, rfl, rfl, fun _ => by simp [wipeE, this]⟩
    rw [sAsg_def, q]; rfl
  refine seq_nx [some (.str (textT m)), some (tab m), none, none] (by rw [sIf_b (k := false) (by simp [d_is_table_tab h0 hn])]; rfl) ?_
  simp
theorem text_chars (hn : n ≤ 12) : ∀ c ∈ TL.tl (textT m), c < 128 := fun c h => by
  rcases tl_join_mem h with ⟨x, hx, h⟩ | h
  · obtain ⟨a, _, rfl⟩ := List.mem_map.mp hx
    rcases tl_join_mem h with ⟨y, hy, h⟩ | h
    · obtain ⟨b, _, rfl⟩ := List.mem_map.mp hy
      rw [show TL.tl (nm (m a b).val) = TL.numL (m a b).val from TL.tl_num _] at h
      have := TL.numL_digits _ c h
      omega
    · rw [tl_sp] at h; simp at h; omega
  · rw [tl_sl] at h; simp at h; omega
theorem tab_ll : tab m = ll ((List.finRange n).map fun a => (List.finRange n).map (m a)) := by
  unfold tab ll rowD
  rw [List.map_map]; rfl
end
end Tf
namespace Tf
open PySem
/-! ### loops that may return -/
theorem forL_indR {g : DG} {b : DS} {ds : List D} (I : Nat → En → Prop) (Pd : D → Prop) (h : ∀ (i : Nat) (d : D), ds[i]? = some d → ∀ e, I i e → ∃ e', g d e = .ok e' ∧ ((∃ r, b e' = .rt r ∧ Pd r) ∨ ∃ e2, b e' = .nx e2 ∧ I (i + 1) e2)) {e : En} (h0 : I 0 e) :
    (∃ r, forL g b ds e = .rt r ∧ Pd r) ∨ ∃ e2, forL g b ds e = .nx e2 ∧ I ds.length e2 := by
  induction ds generalizing e I with
  | nil => exact .inr ⟨e, rfl, h0⟩
  | cons d ds ih =>
    obtain ⟨e', h1, h2⟩ := h 0 d rfl e h0
    rcases h2 with ⟨r, h2, h3⟩ | ⟨e2, h2, h3⟩
    · exact .inl ⟨r, by unfold forL; rw [h1, fl_okk, h2], h3⟩
    · have := ih (fun i e => I (i + 1) e) (fun i d hd e hi => h (i + 1) d (by simpa using hd) e hi) h3
      have ef : forL g b (d :: ds) e = forL g b ds e2 := by
        conv => lhs; unfold forL
        rw [h1, fl_okk, h2]
      rw [ef]
      exact this
theorem while_leftR {t : DE} {b : DS} (I : Nat → En → Prop) (Pd : D → Prop) (h : ∀ r env, I r env → t env = .ok (.bool false) ∨ t env = .ok (.bool true) ∧ ((∃ d, b env = .rt d ∧ Pd d) ∨ ∃ r' e2, r' < r ∧ b env = .nx e2 ∧ I r' e2)) :
    ∀ (k r : Nat) (env : En), r < k → I r env → (∃ d, whileL t b k env = .rt d ∧ Pd d) ∨ ∃ r' e2, whileL t b k env = .nx e2 ∧ I r' e2 ∧ t e2 = .ok (.bool false)
  | 0, r, env, hk, _ => by omega
  | k + 1, r, env, hk, hI => by
    rcases h r env hI with h1 | ⟨h1, h2⟩
    · exact .inr ⟨r, env, whileL_false h1, hI, h1⟩
    · rcases h2 with ⟨d, h2, h3⟩ | ⟨r', e2, hr, h2, h3⟩
      · refine .inl ⟨d, ?_, h3⟩
        show (t env).fl _ = _
        rw [h1, fl_okk]
        simp only
        rw [h2]
      · rw [whileL_true h1 h2]
        exact while_leftR I Pd h k r' e2 (by omega) h3
theorem nodup_of_len {α : Type} [DecidableEq α] : ∀ {xs ys : List α}, ys.Nodup → (∀ y ∈ ys, y ∈ xs) → xs.length ≤ ys.length → xs.Nodup
  | [], _, _, _, _ => List.nodup_nil
  | x :: xs, ys, nd, hs, hl => by
    have f1 : ((ys.filter fun y => decide (y ≠ x))).Nodup := List.Pairwise.filter _ nd
    have f2 : ∀ y ∈ ys.filter fun y => decide (y ≠ x), y ∈ xs := fun y hy => by
      rw [List.mem_filter, decide_eq_true_eq] at hy
      rcases List.mem_cons.mp (hs y hy.1) with z | z
      · exact absurd z hy.2
      · exact z
    have f3 : ys.length ≤ (ys.filter fun y => decide (y ≠ x)).length + 1 := by
      have h1 : ∀ y ∈ ys, y ∈ x :: ys.filter fun y => decide (y ≠ x) := fun y hy => by
        by_cases z : y = x
        · rw [z]; exact List.mem_cons_self ..
        · exact List.mem_cons_of_mem _ (List.mem_filter.mpr ⟨hy, decide_eq_true z⟩)
      have := len_le_of_sub nd h1
      rw [List.length_cons] at this
      exact this
    rw [List.length_cons] at hl
    have hx : x ∉ xs := fun z => by
      have h1 : ∀ y ∈ ys, y ∈ xs := fun y hy => by
        rcases List.mem_cons.mp (hs y hy) with w | w
        · rw [w]; exact z
        · exact w
      have := len_le_of_sub nd h1
      omega
    exact List.nodup_cons.mpr ⟨hx, nodup_of_len f1 f2 (by omega)⟩
section
variable {n : Nat} {m1 m2 : Fin n → Fin n → Fin n} {e1' e2' : Fin n} {v1 v2 : Fin n → Fin n}
/-! ### partial renamings -/
def asn (ks : List (Fin n)) (φ : Fin n → Fin n) : Ass := ks.map fun x => ((x.val : Int), ((φ x).val : Int))
def updF (φ : Fin n → Fin n) (x y : Fin n) : Fin n → Fin n := fun z => if z = x then y else φ z
def dic (ks : List (Fin n)) (φ : Fin n → Fin n) : D := .dict (dkD (asn ks φ))
theorem asGet_asn (φ : Fin n → Fin n) (x : Fin n) : ∀ ks : List (Fin n), asGet (asn ks φ) (x.val : Int) = if x ∈ ks then some ((φ x).val : Int) else none
  | [] => rfl
  | k :: ks => by
    have ih := asGet_asn φ x ks
    unfold asGet at ih ⊢
    show ((((k.val : Int), ((φ k).val : Int)) :: asn ks φ).find? fun p => decide (p.1 = (x.val : Int))).map (·.2) = _
    by_cases z : k = x
    · subst z
      rw [List.find?_cons_of_pos (by simp), if_pos (List.mem_cons_self ..)]; rfl
    · rw [List.find?_cons_of_neg (by simpa using fun q => z (fi_inj.mp q)), ih]
      by_cases w : x ∈ ks
      · rw [if_pos w, if_pos (List.mem_cons_of_mem _ w)]
      · rw [if_neg w, if_neg (fun q => (List.mem_cons.mp q).elim (fun q => z q.symm) w)]
theorem asPut_asn (φ : Fin n → Fin n) (x y : Fin n) (ks : List (Fin n)) : asPut (asn ks φ) (x.val : Int) (y.val : Int) = asn (if x ∈ ks then ks else ks ++ [x]) (updF φ x y) := by
  unfold asPut
  rw [asGet_asn]
  have mp : ∀ l : List (Fin n), x ∉ l → asn l φ = asn l (updF φ x y) := fun l hl => by
    unfold asn
    apply List.map_congr_left
    intro z hz
    unfold updF
    rw [if_neg (fun q : z = x => hl (q ▸ hz))]
  by_cases w : x ∈ ks
  · rw [if_pos w, if_pos w, if_pos (show (some ((φ x).val : Int)).isSome = true from rfl)]
    unfold asn
    rw [List.map_map]
    apply List.map_congr_left
    intro z _
    simp only [Function.comp]
    unfold updF
    by_cases q : z = x
    · subst q; rw [if_pos rfl, if_pos rfl]
    · rw [if_neg (fun h => q (fi_inj.mp h)), if_neg q]
  · rw [if_neg w, if_neg w, if_neg (by simp), mp ks w]
    unfold asn
    rw [List.map_append]
    simp [updF]
theorem asn_len (ks : List (Fin n)) (φ : Fin n → Fin n) : (asn ks φ).length = ks.length := List.length_map ..
theorem dkOf_dic {ks : List (Fin n)} {φ : Fin n → Fin n} {env : En} {j : Nat} (h : env[j]? = some (some (dic ks φ))) : dkOf env[j]? = some (asn ks φ) := by
  rw [h]; exact unK_dkD _
theorem get_dic {ks : List (Fin n)} {φ : Fin n → Fin n} {env : En} {j : Nat} {fk : DE} {x : Fin n} (h : env[j]? = some (some (dic ks φ))) (hk : fk env = .ok (fi x)) (hx : x ∈ ks) : eDGet j fk env = .ok (fi (φ x)) := by
  unfold eDGet
  rw [dkOf_dic h]
  simp only
  rw [hk, bind_ok]
  show (match asGet (asn ks φ) (x.val : Int) with | some v => Rs.ok (PyData.int v) | none => .no) = _
  rw [asGet_asn, if_pos hx]; rfl
theorem ni_dic {ks : List (Fin n)} {φ : Fin n → Fin n} {env : En} {j : Nat} {fk : DE} {x : Fin n} (h : env[j]? = some (some (dic ks φ))) (hk : fk env = .ok (fi x)) : eDNiK fk j env = .ok (.bool (!decide (x ∈ ks))) := by
  unfold eDNiK
  rw [hk, bind_ok, dkOf_dic h]
  show Rs.ok (PyData.bool (!(asGet (asn ks φ) (x.val : Int)).isSome)) = _
  rw [asGet_asn]
  by_cases w : x ∈ ks
  · rw [if_pos w, decide_eq_true w]; rfl
  · rw [if_neg w, decide_eq_false w]; rfl
theorem put_dic {ks : List (Fin n)} {φ : Fin n → Fin n} {env : En} {j : Nat} {fk fv : DE} {x y : Fin n} (h : env[j]? = some (some (dic ks φ))) (hv : fv env = .ok (fi y)) (hk : fk env = .ok (fi x)) (hl : ks.length ≤ 100000) :
    sDPutK j fk fv env = .nx (env.set j (some (dic (if x ∈ ks then ks else ks ++ [x]) (updF φ x y)))) := by
  unfold sDPutK
  rw [dkOf_dic h]
  simp only
  rw [hv, fl_okk, hk, fl_okk]
  show hPutK env j (if lim (asn ks φ).length then some (.dict (dkD (asPut (asn ks φ) (x.val : Int) (y.val : Int)))) else none) = _
  rw [asn_len, if_pos (show lim ks.length = true from decide_eq_true hl), asPut_asn]; rfl
theorem oDictC_dic (ks : List (Fin n)) (φ : Fin n → Fin n) : oDictC (dic ks φ) = .ok (dic ks φ) := by
  show (match unK (dkD (asn ks φ)) with | some ns => Rs.ok (PyData.dict (dkD ns)) | none => .no) = _
  rw [unK_dkD]; rfl
theorem oKeys_dic (ks : List (Fin n)) (φ : Fin n → Fin n) : oKeysK (dic ks φ) = .ok (fl ks) := by
  show (match unK (dkD (asn ks φ)) with | some ns => Rs.ok (PyData.list (ns.map fun p : Int × Int => PyData.int p.1)) | none => .no) = _
  rw [unK_dkD]
  simp only
  unfold asn fl
  rw [List.map_map]; rfl
theorem oLen_dic (ks : List (Fin n)) (φ : Fin n → Fin n) : oLenK (dic ks φ) = .ok (.int ks.length) := by
  show (match unK (dkD (asn ks φ)) with | some ns => Rs.ok (PyData.int ns.length) | none => .no) = _
  rw [unK_dkD]
  simp only
  rw [asn_len]
theorem vals_dic {ks : List (Fin n)} {φ : Fin n → Fin n} {env : En} {j : Nat} (h : env[j]? = some (some (dic ks φ))) : eListVals j env = .ok (fl (ks.map φ)) := by
  unfold eListVals
  rw [dkOf_dic h]
  simp only
  unfold asn fl
  rw [List.map_map, List.map_map]; rfl
theorem oLenSet_fl {xs : List (Fin n)} (h : xs.length ≤ 1000) : oLenSet (fl xs) = .ok (.int (el fun y => decide (y ∈ xs)).length) := by
  rw [fl_il]
  show (match asInts ((xs.map fun a => (a.val : Int)).map .int) with | some ns => if decide (ns.length ≤ 1000) then Rs.ok (PyData.int (sset ns).length) else .no | none => .no) = _
  rw [asInts_map]
  simp only
  rw [if_pos (by rw [List.length_map]; exact decide_eq_true h), sset_fl, List.length_map]
/-- a renaming of one folk to another -/
structure Iso (m1 m2 : Fin n → Fin n → Fin n) (ψ : Fin n → Fin n) : Prop where
  hom : ∀ a b, ψ (m1 a b) = m2 (ψ a) (ψ b)
  inj : ∀ a b, ψ a = ψ b → a = b
theorem Iso.e (G1 : Gr m1 e1' v1) (G2 : Gr m2 e2' v2) {ψ : Fin n → Fin n} (h : Iso m1 m2 ψ) : ψ e1' = e2' := by
  have h1 := h.hom e1' e1'
  rw [G1.el] at h1
  exact (G2.can_l (a := ψ e1') (b := e2') (by rw [G2.er]; exact h1)).symm
/-! ### spread -/
structure Sp (m1 m2 : Fin n → Fin n → Fin n) (e1' : Fin n) (ks0 : List (Fin n)) (φ0 : Fin n → Fin n) (ks : List (Fin n)) (φ : Fin n → Fin n) (td : List (Fin n)) : Prop where
  nd : ks.Nodup
  sub : ∀ x ∈ ks0, x ∈ ks
  en : e1' ∈ ks
  tn : td.Nodup
  ts : ∀ x ∈ td, x ∈ ks
  ag : ∀ ψ, Iso m1 m2 ψ → (∀ x ∈ ks0, ψ x = φ0 x) → ∀ x ∈ ks, ψ x = φ x
theorem Sp.len {ks0 ks td : List (Fin n)} {φ0 φ : Fin n → Fin n} (h : Sp m1 m2 e1' ks0 φ0 ks φ td) : ks.length ≤ n ∧ td.length ≤ n := by
  have h1 := len_le_of_sub h.nd (ys := List.finRange n) fun x _ => List.mem_finRange x
  have h2 := len_le_of_sub h.tn (ys := List.finRange n) fun x _ => List.mem_finRange x
  rw [List.length_finRange] at h1 h2
  exact ⟨h1, h2⟩
/-- two elements' making is in, and right -/
def OkP (m1 m2 : Fin n → Fin n → Fin n) (ks : List (Fin n)) (φ : Fin n → Fin n) (a b : Fin n) : Prop := m1 a b ∈ ks ∧ φ (m1 a b) = m2 (φ a) (φ b)
structure Gw (ks : List (Fin n)) (φ : Fin n → Fin n) (td ks' : List (Fin n)) (φ' : Fin n → Fin n) (td' : List (Fin n)) : Prop where
  ex : ∃ zs, ks' = ks ++ zs ∧ td' = td ++ zs
  ag : ∀ x ∈ ks, φ' x = φ x
theorem Gw.refl (ks : List (Fin n)) (φ : Fin n → Fin n) (td : List (Fin n)) : Gw ks φ td ks φ td := ⟨⟨[], by simp⟩, fun _ _ => rfl⟩
theorem Gw.mem {ks td ks' td' : List (Fin n)} {φ φ' : Fin n → Fin n} (h : Gw ks φ td ks' φ' td') {x : Fin n} (hx : x ∈ ks) : x ∈ ks' := by
  obtain ⟨zs, e, _⟩ := h.ex
  rw [e]; exact List.mem_append_left _ hx
theorem Gw.trans {ks td ks' td' ks2 td2 : List (Fin n)} {φ φ' φ2 : Fin n → Fin n} (h : Gw ks φ td ks' φ' td') (h2 : Gw ks' φ' td' ks2 φ2 td2) : Gw ks φ td ks2 φ2 td2 := by
  obtain ⟨zs, e1, e2⟩ := h.ex
  obtain ⟨ws, e3, e4⟩ := h2.ex
  exact ⟨⟨zs ++ ws, by rw [e3, e1, List.append_assoc], by rw [e4, e2, List.append_assoc]⟩, fun x hx => (h2.ag x (h.mem hx)).trans (h.ag x hx)⟩
theorem OkP.gw {ks td ks' td' : List (Fin n)} {φ φ' : Fin n → Fin n} {a b : Fin n} (h : OkP m1 m2 ks φ a b) (g : Gw ks φ td ks' φ' td') (ha : a ∈ ks) (hb : b ∈ ks) : OkP m1 m2 ks' φ' a b :=
  ⟨g.mem h.1, by rw [g.ag _ h.1, g.ag _ ha, g.ag _ hb]; exact h.2⟩
def bdS : DS := (sSeq (sAsg (gN 8) (e2 oIx (e2 oIx (eV 0) (eV 6)) (eV 7))) (sSeq (sAsg (gN 9) (e2 oIx (e2 oIx (eV 1) (eDGet 2 (eV 6))) (eDGet 2 (eV 7)))) (sIf (eDNiK (eV 8) 2) (sSeq (sDPutK 2 (eV 8) (eV 9)) (sChg 3 cApp [(e1 oFl (eV 8))])) (sIf (e2 oNe (eDGet 2 (eV 8)) (eV 9)) (sRet (eK .none)) sSkip))))
theorem bdS_ok (hn : n ≤ 12) {ks0 ks td : List (Fin n)} {φ0 φ : Fin n → Fin n} (h : Sp m1 m2 e1' ks0 φ0 ks φ td) {a b : Fin n} (ha : a ∈ ks) (hb : b ∈ ks) (x4 x5 x8 x9 : Option D) :
    (bdS [some (tab m1), some (tab m2), some (dic ks φ), some (fl td), x4, x5, some (fi a), some (fi b), x8, x9] = .rt .none ∧ ∀ ψ, Iso m1 m2 ψ → (∀ x ∈ ks0, ψ x = φ0 x) → False) ∨
    ∃ ks' φ' td' y8 y9, bdS [some (tab m1), some (tab m2), some (dic ks φ), some (fl td), x4, x5, some (fi a), some (fi b), x8, x9] = .nx [some (tab m1), some (tab m2), some (dic ks' φ'), some (fl td'), x4, x5, some (fi a), some (fi b), y8, y9] ∧
      Sp m1 m2 e1' ks0 φ0 ks' φ' td' ∧ Gw ks φ td ks' φ' td' ∧ OkP m1 m2 ks' φ' a b := by
  obtain ⟨kl, tl⟩ := h.len
  have s1 : ∀ R, (sSeq (sAsg (gN 9) (e2 oIx (e2 oIx (eV 1) (eDGet 2 (eV 6))) (eDGet 2 (eV 7)))) (sIf (eDNiK (eV 8) 2) (sSeq (sDPutK 2 (eV 8) (eV 9)) (sChg 3 cApp [(e1 oFl (eV 8))])) (sIf (e2 oNe (eDGet 2 (eV 8)) (eV 9)) (sRet (eK .none)) sSkip))) [some (tab m1), some (tab m2), some (dic ks φ), some (fl td), x4, x5, some (fi a), some (fi b), some (fi (m1 a b)), x9] = R →
      bdS [some (tab m1), some (tab m2), some (dic ks φ), some (fl td), x4, x5, some (fi a), some (fi b), x8, x9] = R := fun R hR => seq_nx _ (by simp) hR
  have gA := get_dic (env := [some (tab m1), some (tab m2), some (dic ks φ), some (fl td), x4, x5, some (fi a), some (fi b), some (fi (m1 a b)), x9]) (j := 2) (fk := eV 6) (x := a) rfl rfl ha
  have gB := get_dic (env := [some (tab m1), some (tab m2), some (dic ks φ), some (fl td), x4, x5, some (fi a), some (fi b), some (fi (m1 a b)), x9]) (j := 2) (fk := eV 7) (x := b) rfl rfl hb
  have s2 : ∀ R, (sIf (eDNiK (eV 8) 2) (sSeq (sDPutK 2 (eV 8) (eV 9)) (sChg 3 cApp [(e1 oFl (eV 8))])) (sIf (e2 oNe (eDGet 2 (eV 8)) (eV 9)) (sRet (eK .none)) sSkip)) [some (tab m1), some (tab m2), some (dic ks φ), some (fl td), x4, x5, some (fi a), some (fi b), some (fi (m1 a b)), some (fi (m2 (φ a) (φ b)))] = R →
      bdS [some (tab m1), some (tab m2), some (dic ks φ), some (fl td), x4, x5, some (fi a), some (fi b), x8, x9] = R := fun R hR => s1 R (seq_nx _ (by
        rw [sAsg_def, e2_def, e2_def, gB, show eV 1 [some (tab m1), some (tab m2), some (dic ks φ), some (fl td), x4, x5, some (fi a), some (fi b), some (fi (m1 a b)), x9] = .ok (tab m2) from rfl, bind_ok, gA, bind_ok, oIx_tab, bind_ok, bind_ok, oIx_row]; rfl) hR)
  have nI := ni_dic (env := [some (tab m1), some (tab m2), some (dic ks φ), some (fl td), x4, x5, some (fi a), some (fi b), some (fi (m1 a b)), some (fi (m2 (φ a) (φ b)))]) (j := 2) (fk := eV 8) (x := m1 a b) (ks := ks) (φ := φ) rfl rfl
  by_cases hc : m1 a b ∈ ks
  · rw [decide_eq_true hc] at nI
    have gC := get_dic (env := [some (tab m1), some (tab m2), some (dic ks φ), some (fl td), x4, x5, some (fi a), some (fi b), some (fi (m1 a b)), some (fi (m2 (φ a) (φ b)))]) (j := 2) (fk := eV 8) (x := m1 a b) rfl rfl hc
    have t2 : e2 oNe (eDGet 2 (eV 8)) (eV 9) [some (tab m1), some (tab m2), some (dic ks φ), some (fl td), x4, x5, some (fi a), some (fi b), some (fi (m1 a b)), some (fi (m2 (φ a) (φ b)))] = .ok (.bool (!decide (φ (m1 a b) = m2 (φ a) (φ b)))) := by
      rw [e2_def, gC, bind_ok, show eV 9 [some (tab m1), some (tab m2), some (dic ks φ), some (fl td), x4, x5, some (fi a), some (fi b), some (fi (m1 a b)), some (fi (m2 (φ a) (φ b)))] = .ok (fi (m2 (φ a) (φ b))) from rfl, bind_ok, oNe_fi]
    by_cases hd : φ (m1 a b) = m2 (φ a) (φ b)
    · rw [decide_eq_true hd] at t2
      exact .inr ⟨ks, φ, td, _, _, s2 _ (by rw [sIf_b nI, if_neg (by simp), sIf_b t2]; rfl), h, Gw.refl _ _ _, hc, hd⟩
    · rw [decide_eq_false hd] at t2
      refine .inl ⟨s2 _ (by rw [sIf_b nI, if_neg (by simp), sIf_b t2]; rfl), fun ψ hψ h0 => hd ?_⟩
      rw [← h.ag ψ hψ h0 _ hc, hψ.hom, h.ag ψ hψ h0 _ ha, h.ag ψ hψ h0 _ hb]
  · rw [decide_eq_false hc] at nI
    have pt := put_dic (env := [some (tab m1), some (tab m2), some (dic ks φ), some (fl td), x4, x5, some (fi a), some (fi b), some (fi (m1 a b)), some (fi (m2 (φ a) (φ b)))]) (j := 2) (fk := eV 8) (fv := eV 9) (x := m1 a b) (y := m2 (φ a) (φ b)) (ks := ks) (φ := φ) rfl rfl rfl (by omega)
    rw [if_neg hc] at pt
    have agr : ∀ x ∈ ks, updF φ (m1 a b) (m2 (φ a) (φ b)) x = φ x := fun x hx => by
      unfold updF
      rw [if_neg (fun q : x = m1 a b => hc (q ▸ hx))]
    refine .inr ⟨ks ++ [m1 a b], updF φ (m1 a b) (m2 (φ a) (φ b)), td ++ [m1 a b], some (fi (m1 a b)), some (fi (m2 (φ a) (φ b))), s2 _ ?_, ⟨?_, fun x hx => List.mem_append_left _ (h.sub x hx), List.mem_append_left _ h.en, ?_, fun x hx => ?_, fun ψ hψ h0 x hx => ?_⟩, ⟨⟨[m1 a b], rfl, rfl⟩, agr⟩, ?_, ?_⟩
    · rw [sIf_b nI, if_pos (by rfl)]
      refine seq_nx [some (tab m1), some (tab m2), some (dic (ks ++ [m1 a b]) (updF φ (m1 a b) (m2 (φ a) (φ b)))), some (fl td), x4, x5, some (fi a), some (fi b), some (fi (m1 a b)), some (fi (m2 (φ a) (φ b)))] pt ?_
      rw [app_fl (j := 3) (a := m1 a b) (xs := td) rfl (by simp) (by omega)]; rfl
    · rw [List.nodup_append]
      exact ⟨h.nd, by simp, fun x hx y hy q => hc (by rw [List.mem_singleton.mp hy] at q; rw [← q]; exact hx)⟩
    · rw [List.nodup_append]
      exact ⟨h.tn, by simp, fun x hx y hy q => hc (by rw [List.mem_singleton.mp hy] at q; rw [← q]; exact h.ts x hx)⟩
    · rcases List.mem_append.mp hx with z | z
      · exact List.mem_append_left _ (h.ts x z)
      · exact List.mem_append_right _ z
    · rcases List.mem_append.mp hx with z | z
      · rw [agr x z]; exact h.ag ψ hψ h0 x z
      · rw [List.mem_singleton.mp z]
        unfold updF
        rw [if_pos rfl, hψ.hom, h.ag ψ hψ h0 _ ha, h.ag ψ hψ h0 _ hb]
    · exact List.mem_append_right _ (List.mem_singleton.mpr rfl)
    · rw [agr a ha, agr b hb]
      unfold updF
      rw [if_pos rfl]
/-- both ways -/
theorem two_ok (hn : n ≤ 12) {ks0 ks td : List (Fin n)} {φ0 φ : Fin n → Fin n} (h : Sp m1 m2 e1' ks0 φ0 ks φ td) {a b : Fin n} (ha : a ∈ ks) (hb : b ∈ ks) (x6 x7 x8 x9 : Option D) :
    (sFor (gT [6, 7]) (iT (eTup [(eTup [(eV 4), (eV 5)]), (eTup [(eV 5), (eV 4)])])) bdS [some (tab m1), some (tab m2), some (dic ks φ), some (fl td), some (fi a), some (fi b), x6, x7, x8, x9] = .rt .none ∧ ∀ ψ, Iso m1 m2 ψ → (∀ x ∈ ks0, ψ x = φ0 x) → False) ∨
    ∃ ks' φ' td' y6 y7 y8 y9, sFor (gT [6, 7]) (iT (eTup [(eTup [(eV 4), (eV 5)]), (eTup [(eV 5), (eV 4)])])) bdS [some (tab m1), some (tab m2), some (dic ks φ), some (fl td), some (fi a), some (fi b), x6, x7, x8, x9] = .nx [some (tab m1), some (tab m2), some (dic ks' φ'), some (fl td'), some (fi a), some (fi b), y6, y7, y8, y9] ∧
      Sp m1 m2 e1' ks0 φ0 ks' φ' td' ∧ Gw ks φ td ks' φ' td' ∧ OkP m1 m2 ks' φ' a b ∧ OkP m1 m2 ks' φ' b a := by
  have it : iT (eTup [(eTup [(eV 4), (eV 5)]), (eTup [(eV 5), (eV 4)])]) [some (tab m1), some (tab m2), some (dic ks φ), some (fl td), some (fi a), some (fi b), x6, x7, x8, x9] = .ok [.tuple [fi a, fi b], .tuple [fi b, fi a]] := rfl
  have g6 : ∀ (e : En) (p q : Fin n), gT [6, 7] (.tuple [fi p, fi q]) e = .ok ((e.set 6 (some (fi p))).set 7 (some (fi q))) := fun e p q => rfl
  rw [sFor_def, it, fl_okk]
  unfold forL
  rw [g6, fl_okk]
  have e6 : ([some (tab m1), some (tab m2), some (dic ks φ), some (fl td), some (fi a), some (fi b), x6, x7, x8, x9].set 6 (some (fi a))).set 7 (some (fi b)) = [some (tab m1), some (tab m2), some (dic ks φ), some (fl td), some (fi a), some (fi b), some (fi a), some (fi b), x8, x9] := rfl
  rw [e6]
  rcases bdS_ok hn h ha hb (some (fi a)) (some (fi b)) x8 x9 with ⟨r, no⟩ | ⟨ks1, φ1, td1, y8, y9, r, h1, g1, o1⟩
  · rw [r]; exact .inl ⟨rfl, no⟩
  · rw [r]
    simp only
    unfold forL
    rw [g6, fl_okk]
    have e7 : ([some (tab m1), some (tab m2), some (dic ks1 φ1), some (fl td1), some (fi a), some (fi b), some (fi a), some (fi b), y8, y9].set 6 (some (fi b))).set 7 (some (fi a)) = [some (tab m1), some (tab m2), some (dic ks1 φ1), some (fl td1), some (fi a), some (fi b), some (fi b), some (fi a), y8, y9] := rfl
    rw [e7]
    rcases bdS_ok hn h1 (g1.mem hb) (g1.mem ha) (some (fi a)) (some (fi b)) y8 y9 with ⟨r, no⟩ | ⟨ks2, φ2, td2, z8, z9, r, h2, g2, o2⟩
    · rw [r]; exact .inl ⟨rfl, no⟩
    · rw [r]
      exact .inr ⟨ks2, φ2, td2, _, _, _, _, rfl, h2, g1.trans g2, o1.gw g2 (g1.mem ha) (g1.mem hb), o2⟩
theorem pop_fl {i j : Nat} {e : En} {xs : List (Fin n)} {x : Fin n} (he : e[i]? = some (some (fl (xs ++ [x])))) : sPop i j e = .nx ((e.set i (some (fl xs))).set j (some (fi x))) := by
  show gPop e i j = _
  unfold gPop
  rw [he]
  unfold fl
  simp only
  have h1 : ((xs ++ [x]).map fi)[((xs ++ [x]).map fi).length - 1]? = some (fi x) := by
    rw [List.map_append, List.length_append]
    simp
  rw [h1]
  simp only
  rw [List.map_append, List.map_cons, List.map_nil, List.dropLast_concat]
def whB : DS := sSeq (sPop 3 4) (sFor (gN 5) (iL (e1 oKeysK (eV 2))) (sFor (gT [6, 7]) (iT (eTup [(eTup [(eV 4), (eV 5)]), (eTup [(eV 5), (eV 4)])])) bdS))
theorem d_spread_ok (G1 : Gr m1 e1' v1) (G2 : Gr m2 e2' v2) (hn : n ≤ 12) {ks0 : List (Fin n)} (φ0 : Fin n → Fin n) (nd0 : ks0.Nodup) :
    ∃ r, d_spread [tab m1, tab m2, dic ks0 φ0] = .ok r ∧ ((r = .none ∧ ∀ ψ, Iso m1 m2 ψ → (∀ x ∈ ks0, ψ x = φ0 x) → False) ∨
      ∃ ks φ, r = dic ks φ ∧ ks.Nodup ∧ e1' ∈ ks ∧ (∀ x ∈ ks0, x ∈ ks) ∧ (∀ a ∈ ks, ∀ b ∈ ks, OkP m1 m2 ks φ a b) ∧ ∀ a ∈ ks, ∀ b ∈ ks, φ a = φ b → a = b) := by
  have kl0 := len_le_of_sub nd0 (ys := List.finRange n) fun x _ => List.mem_finRange x
  rw [List.length_finRange] at kl0
  suffices hs : ∃ r, b_spread [some (tab m1), some (tab m2), some (dic ks0 φ0), none, none, none, none, none, none, none] = .rt r ∧ ((r = .none ∧ ∀ ψ, Iso m1 m2 ψ → (∀ x ∈ ks0, ψ x = φ0 x) → False) ∨
      ∃ ks φ, r = dic ks φ ∧ ks.Nodup ∧ e1' ∈ ks ∧ (∀ x ∈ ks0, x ∈ ks) ∧ (∀ a ∈ ks, ∀ b ∈ ks, OkP m1 m2 ks φ a b) ∧ ∀ a ∈ ks, ∀ b ∈ ks, φ a = φ b → a = b) by
    obtain ⟨r, h1, h2⟩ := hs
    exact ⟨r, runN_rt h1, h2⟩
  let ks1 : List (Fin n) := if e1' ∈ ks0 then ks0 else ks0 ++ [e1']
  let φ1 : Fin n → Fin n := updF φ0 e1' e2'
  have nd1 : ks1.Nodup := by
    show (if e1' ∈ ks0 then ks0 else ks0 ++ [e1']).Nodup
    split
    · exact nd0
    · rename_i h
      rw [List.nodup_append]
      exact ⟨nd0, by simp, fun x hx y hy q => h (by rw [List.mem_singleton.mp hy] at q; rw [← q]; exact hx)⟩
  have sub1 : ∀ x ∈ ks0, x ∈ ks1 := fun x hx => by
    show x ∈ if e1' ∈ ks0 then ks0 else ks0 ++ [e1']
    split
    · exact hx
    · exact List.mem_append_left _ hx
  have en1 : e1' ∈ ks1 := by
    show e1' ∈ if e1' ∈ ks0 then ks0 else ks0 ++ [e1']
    split
    · assumption
    · exact List.mem_append_right _ (List.mem_singleton.mpr rfl)
  have sub1' : ∀ x ∈ ks1, x = e1' ∨ x ∈ ks0 := fun x hx => by
    have hx : x ∈ if e1' ∈ ks0 then ks0 else ks0 ++ [e1'] := hx
    split at hx
    · exact .inr hx
    · rcases List.mem_append.mp hx with z | z
      · exact .inr z
      · exact .inl (List.mem_singleton.mp z)
  have sp1 : Sp m1 m2 e1' ks0 φ0 ks1 φ1 ks1 := ⟨nd1, sub1, en1, nd1, fun x hx => hx, fun ψ hψ h0 x hx => by
    show ψ x = if x = e1' then e2' else φ0 x
    by_cases z : x = e1'
    · rw [if_pos z, z, hψ.e G1 G2]
    · rw [if_neg z]
      exact h0 x ((sub1' x hx).resolve_left z)⟩
  -- the while
  have W := while_leftR (t := e2 oGt (e1 oLen (eV 3)) (eK (.int 0))) (b := whB)
    (fun r env => ∃ ks φ td x4 x5 x6 x7 x8 x9, env = [some (tab m1), some (tab m2), some (dic ks φ), some (fl td), x4, x5, x6, x7, x8, x9] ∧ Sp m1 m2 e1' ks0 φ0 ks φ td ∧ r + ks.length = 100 + td.length ∧ ∀ a ∈ ks, a ∉ td → ∀ b ∈ ks, b ∉ td → OkP m1 m2 ks φ a b)
    (fun d => d = .none ∧ ∀ ψ, Iso m1 m2 ψ → (∀ x ∈ ks0, ψ x = φ0 x) → False)
    (fun r env hI => by
      obtain ⟨ks, φ, td, x4, x5, x6, x7, x8, x9, rfl, sp, hr, ok⟩ := hI
      obtain ⟨kl, tl⟩ := sp.len
      have tt : e2 oGt (e1 oLen (eV 3)) (eK (.int 0)) [some (tab m1), some (tab m2), some (dic ks φ), some (fl td), x4, x5, x6, x7, x8, x9] = .ok (.bool (decide (0 < (td.length : Int)))) := by simp
      by_cases z : td = []
      · left
        rw [tt, z]; rfl
      right
      have tp := List.length_pos_iff.mpr z
      rw [tt, decide_eq_true (by omega)]
      refine ⟨rfl, ?_⟩
      obtain ⟨T, a, rfl⟩ : ∃ T a, td = T ++ [a] := ⟨td.dropLast, td.getLast z, (List.dropLast_concat_getLast z).symm⟩
      have ha : a ∈ ks := sp.ts a (List.mem_append_right _ (List.mem_singleton.mpr rfl))
      have aT : a ∉ T := fun q => (List.nodup_append.mp sp.tn).2.2 a q a (List.mem_singleton.mpr rfl) rfl
      have spT : Sp m1 m2 e1' ks0 φ0 ks φ T := ⟨sp.nd, sp.sub, sp.en, (List.nodup_append.mp sp.tn).1, fun x hx => sp.ts x (List.mem_append_left _ hx), sp.ag⟩
      have L := forL_indR (g := gN 5) (b := sFor (gT [6, 7]) (iT (eTup [(eTup [(eV 4), (eV 5)]), (eTup [(eV 5), (eV 4)])])) bdS) (ds := ks.map fi)
        (fun i env => ∃ ks' φ' td' x5 x6 x7 x8 x9, env = [some (tab m1), some (tab m2), some (dic ks' φ'), some (fl td'), some (fi a), x5, x6, x7, x8, x9] ∧ Sp m1 m2 e1' ks0 φ0 ks' φ' td' ∧ Gw ks φ T ks' φ' td' ∧ ∀ b ∈ ks.take i, OkP m1 m2 ks' φ' a b ∧ OkP m1 m2 ks' φ' b a)
        (fun d => d = .none ∧ ∀ ψ, Iso m1 m2 ψ → (∀ x ∈ ks0, ψ x = φ0 x) → False)
        (fun i d hd env hI => by
          obtain ⟨ks', φ', td', x5, x6, x7, x8, x9, rfl, sp', gw, hp⟩ := hI
          rw [List.getElem?_map] at hd
          cases hb : ks[i]? with
          | none => rw [hb] at hd; cases hd
          | some b =>
            rw [hb] at hd
            have : fi b = d := Option.some.inj hd
            subst this
            have hbk := List.mem_of_getElem? hb
            refine ⟨[some (tab m1), some (tab m2), some (dic ks' φ'), some (fl td'), some (fi a), some (fi b), x6, x7, x8, x9], rfl, ?_⟩
            rcases two_ok hn sp' (gw.mem ha) (gw.mem hbk) x6 x7 x8 x9 with ⟨h1, no⟩ | ⟨ks2, φ2, td2, y6, y7, y8, y9, h1, sp2, gw2, o1, o2⟩
            · exact .inl ⟨_, h1, rfl, no⟩
            · refine .inr ⟨_, h1, ks2, φ2, td2, _, y6, y7, y8, y9, rfl, sp2, gw.trans gw2, fun c hc => ?_⟩
              rw [take_succ_get hb] at hc
              rcases List.mem_append.mp hc with w | w
              · have hck := List.mem_of_mem_take w
                exact ⟨(hp c w).1.gw gw2 (gw.mem ha) (gw.mem hck), (hp c w).2.gw gw2 (gw.mem hck) (gw.mem ha)⟩
              · rw [List.mem_singleton.mp w]
                exact ⟨o1, o2⟩)
        (e := [some (tab m1), some (tab m2), some (dic ks φ), some (fl T), some (fi a), x5, x6, x7, x8, x9]) ⟨ks, φ, T, x5, x6, x7, x8, x9, rfl, spT, Gw.refl _ _ _, fun b hb => by simp at hb⟩
      have eb : whB [some (tab m1), some (tab m2), some (dic ks φ), some (fl (T ++ [a])), x4, x5, x6, x7, x8, x9] = forL (gN 5) (sFor (gT [6, 7]) (iT (eTup [(eTup [(eV 4), (eV 5)]), (eTup [(eV 5), (eV 4)])])) bdS) (ks.map fi) [some (tab m1), some (tab m2), some (dic ks φ), some (fl T), some (fi a), x5, x6, x7, x8, x9] := by
        unfold whB
        rw [sSeq_nx (pop_fl (i := 3) (j := 4) (xs := T) (x := a) rfl)]
        show sFor (gN 5) _ _ [some (tab m1), some (tab m2), some (dic ks φ), some (fl T), some (fi a), x5, x6, x7, x8, x9] = _
        rw [sFor_def, iL_def, e1_def, show eV 2 [some (tab m1), some (tab m2), some (dic ks φ), some (fl T), some (fi a), x5, x6, x7, x8, x9] = .ok (dic ks φ) from rfl, bind_ok, oKeys_dic, bind_ok]
        rfl
      rcases L with ⟨d, h1, h2⟩ | ⟨e2, h1, ks', φ', td', x5', x6', x7', x8', x9', rfl, sp', gw, hp⟩
      · exact .inl ⟨d, by rw [eb]; exact h1, h2⟩
      · rw [List.length_map, List.take_length] at hp
        obtain ⟨zs, ek, et⟩ := gw.ex
        refine .inr ⟨r - 1, _, ?_, by rw [eb]; exact h1, ks', φ', td', _, _, _, _, _, _, rfl, sp', ?_, fun p hp1 hp2 q hq1 hq2 => ?_⟩
        · rw [List.length_append] at hr tl
          simp at hr tl
          omega
        · rw [ek, et, List.length_append, List.length_append]
          rw [List.length_append] at hr
          simp at hr
          omega
        · -- done ones are in ks
          have inK : ∀ p, p ∈ ks' → p ∉ td' → p ∈ ks ∧ p ∉ T := fun p h1 h2 => by
            rw [ek] at h1
            rw [et] at h2
            rcases List.mem_append.mp h1 with w | w
            · exact ⟨w, fun z => h2 (List.mem_append_left _ z)⟩
            · exact absurd (List.mem_append_right _ w) h2
          obtain ⟨pk, pT⟩ := inK p hp1 hp2
          obtain ⟨qk, qT⟩ := inK q hq1 hq2
          by_cases pa : p = a
          · subst pa; exact (hp q qk).1
          · by_cases qa : q = a
            · subst qa; exact (hp p pk).2
            · exact (ok p pk (fun z => (List.mem_append.mp z).elim pT fun z => pa (List.mem_singleton.mp z)) q qk (fun z => (List.mem_append.mp z).elim qT fun z => qa (List.mem_singleton.mp z))).gw gw pk qk)
    1000 100 [some (tab m1), some (tab m2), some (dic ks1 φ1), some (fl ks1), none, none, none, none, none, none] (by decide) ⟨ks1, φ1, ks1, none, none, none, none, none, none, rfl, sp1, rfl, fun a ha h => absurd ha h⟩
  have pre : ∀ R, sSeq (sWhile 1000 (e2 oGt (e1 oLen (eV 3)) (eK (.int 0))) whB) (sSeq (sIf (e2 oLt (e1 oLenSet (eListVals 2)) (e1 oLenK (eV 2))) (sRet (eK .none)) sSkip) (sRet (eV 2))) [some (tab m1), some (tab m2), some (dic ks1 φ1), some (fl ks1), none, none, none, none, none, none] = R →
      b_spread [some (tab m1), some (tab m2), some (dic ks0 φ0), none, none, none, none, none, none, none] = R := fun R hR => by
    show sSeq _ _ _ = _
    refine seq_nx [some (tab m1), some (tab m2), some (dic ks0 φ0), none, none, none, none, none, none, none] (by
      rw [sAsg_def, e1_def, show eV 2 [some (tab m1), some (tab m2), some (dic ks0 φ0), none, none, none, none, none, none, none] = .ok (dic ks0 φ0) from rfl, bind_ok, oDictC_dic]; rfl) ?_
    refine seq_nx [some (tab m1), some (tab m2), some (dic ks1 φ1), none, none, none, none, none, none, none] (put_dic (j := 2) (x := e1') (y := e2') rfl (by simp [d_rests_eq hn, G2.rest1, oIx0 (n := n) (xs := [e2']) rfl]) (by simp [d_rests_eq hn, G1.rest1, oIx0 (n := n) (xs := [e1']) rfl]) (by omega)) ?_
    refine seq_nx [some (tab m1), some (tab m2), some (dic ks1 φ1), some (fl ks1), none, none, none, none, none, none] (by
      rw [sAsg_def, e1_def, show eV 2 [some (tab m1), some (tab m2), some (dic ks1 φ1), none, none, none, none, none, none, none] = .ok (dic ks1 φ1) from rfl, bind_ok, oKeys_dic]; rfl) ?_
    exact hR
  rcases W with ⟨d, h1, rfl, no⟩ | ⟨r, e2, h1, ⟨ks, φ, td, x4, x5, x6, x7, x8, x9, rfl, sp, hr, ok⟩, h2⟩
  · exact ⟨.none, pre _ (sSeq_rt (show sWhile 1000 _ _ _ = .rt .none from h1)), .inl ⟨rfl, no⟩⟩
  · obtain ⟨kl, tl⟩ := sp.len
    have tz : td = [] := by
      have tt : Tf.e2 oGt (e1 oLen (eV 3)) (eK (.int 0)) [some (tab m1), some (tab m2), some (dic ks φ), some (fl td), x4, x5, x6, x7, x8, x9] = .ok (.bool (decide (0 < (td.length : Int)))) := by simp
      rw [tt] at h2
      injection h2 with h2
      injection h2 with h2
      have := of_decide_eq_false h2
      exact List.length_eq_zero_iff.mp (by omega)
    subst tz
    have ok' : ∀ a ∈ ks, ∀ b ∈ ks, OkP m1 m2 ks φ a b := fun a ha b hb => ok a ha (by simp) b hb (by simp)
    have tt : Tf.e2 oLt (e1 oLenSet (eListVals 2)) (e1 oLenK (eV 2)) [some (tab m1), some (tab m2), some (dic ks φ), some (fl ([] : List (Fin n))), x4, x5, x6, x7, x8, x9] = .ok (.bool (decide (((el fun y => decide (y ∈ ks.map φ)).length : Int) < ks.length))) := by
      rw [e2_def, e1_def, vals_dic (ks := ks) (φ := φ) rfl, bind_ok, oLenSet_fl (by rw [List.length_map]; omega), bind_ok, e1_def, show eV 2 [some (tab m1), some (tab m2), some (dic ks φ), some (fl ([] : List (Fin n))), x4, x5, x6, x7, x8, x9] = .ok (dic ks φ) from rfl, bind_ok, oLen_dic, bind_ok, oLt_int]
    by_cases inj : (ks.map φ).Nodup
    · have el1 : (el fun y => decide (y ∈ ks.map φ)).length = ks.length := by
        rw [← List.length_map (f := φ) (as := ks)]
        exact len_eq_of_iff (el_nodup _) inj fun x => by rw [el_mem, decide_eq_true_eq]
      refine ⟨dic ks φ, pre _ ?_, .inr ⟨ks, φ, rfl, sp.nd, sp.en, sp.sub, ok', fun a ha b hb hab => ?_⟩⟩
      · rw [sSeq_nx (show sWhile 1000 _ _ _ = _ from h1)]
        refine seq_nx _ (by rw [sIf_b tt, el1, if_neg (by simp)]; rfl) rfl
      · obtain ⟨i, hi, ei⟩ := List.getElem_of_mem ha
        obtain ⟨j, hj, ej⟩ := List.getElem_of_mem hb
        have hi' : i < (ks.map φ).length := by rw [List.length_map]; exact hi
        have hj' : j < (ks.map φ).length := by rw [List.length_map]; exact hj
        have : (ks.map φ)[i] = (ks.map φ)[j] := by rw [List.getElem_map, List.getElem_map, ei, ej, hab]
        have ij : i = j := by
          rcases Nat.lt_trichotomy i j with q | q | q
          · exact absurd this (List.pairwise_iff_getElem.mp inj i j hi' hj' q)
          · exact q
          · exact absurd this.symm (List.pairwise_iff_getElem.mp inj j i hj' hi' q)
        subst ij
        rw [← ei, ← ej]
    · have lt : (el fun y => decide (y ∈ ks.map φ)).length < ks.length := Nat.lt_of_not_le fun h => inj (nodup_of_len (el_nodup _) (fun y hy => of_decide_eq_true (el_mem.mp hy)) (by rw [List.length_map]; exact h))
      refine ⟨.none, pre _ ?_, .inl ⟨rfl, fun ψ hψ h0 => inj ?_⟩⟩
      · rw [sSeq_nx (show sWhile 1000 _ _ _ = _ from h1)]
        rw [sSeq_rt (show sIf _ _ _ _ = .rt .none by rw [sIf_b tt, decide_eq_true (by omega)]; rfl)]
      · rw [List.Nodup, List.pairwise_map]
        refine List.Pairwise.imp_of_mem (fun {a b} ha hb hab z => hab (hψ.inj a b ?_)) sp.nd
        rw [sp.ag ψ hψ h0 a ha, sp.ag ψ hψ h0 b hb]; exact z
end
end Tf
namespace Tf
open PySem
theorem forL_ret {α : Type} {g : DG} {b : DS} {i : α → D} {I : En → Prop} {N : α → Prop} {Pd : D → Prop} {xs : List α}
    (h : ∀ x ∈ xs, ∀ e, I e → ∃ e', g (i x) e = .ok e' ∧ ((∃ d, b e' = .rt d ∧ Pd d) ∨ ∃ e2, b e' = .nx e2 ∧ I e2 ∧ N x)) {e : En} (h0 : I e) :
    (∃ d, forL g b (xs.map i) e = .rt d ∧ Pd d) ∨ ∃ e2, forL g b (xs.map i) e = .nx e2 ∧ I e2 ∧ ∀ x ∈ xs, N x := by
  induction xs generalizing e with
  | nil => exact .inr ⟨e, rfl, h0, fun x hx => nomatch hx⟩
  | cons x xs ih =>
    obtain ⟨e', h1, h2⟩ := h x (List.mem_cons_self ..) e h0
    have ef : forL g b ((x :: xs).map i) e = match b e' with | .nx e2 => forL g b (xs.map i) e2 | o => o := by
      rw [List.map_cons]
      conv => lhs; unfold forL
      rw [h1, fl_okk]
      all_goals (cases b e' <;> rfl)
    rw [ef]
    rcases h2 with ⟨d, h2, h3⟩ | ⟨e2, h2, h3, h4⟩
    · rw [h2]; exact .inl ⟨d, rfl, h3⟩
    · rw [h2]
      rcases ih (fun y hy => h y (List.mem_cons_of_mem _ hy)) h3 with q | ⟨e3, q1, q2, q3⟩
      · exact .inl q
      · exact .inr ⟨e3, q1, q2, fun y hy => by
          rcases List.mem_cons.mp hy with z | z
          · rw [z]; exact h4
          · exact q3 y z⟩
section
variable {n : Nat} {m m1 m2 : Fin n → Fin n → Fin n} {e e1' e2' : Fin n} {v v1 v2 : Fin n → Fin n}
/-! ### a few makers -/
theorem clQ_mem (xs : List (Fin n)) {x : Fin n} (h : x ∈ xs) : clQ m e xs x = true := (clQ_clo m e xs).inc x (decide_eq_true h)
theorem clQ_up {xs : List (Fin n)} {a x : Fin n} (h : clQ m e xs x = true) : clQ m e (xs ++ [a]) x = true :=
  (clQ_clo m e xs).least _ (fun y hy => clQ_mem _ (List.mem_append_left _ (of_decide_eq_true hy))) (clQ_clo m e (xs ++ [a])).en (clQ_clo m e (xs ++ [a])).cl x h
theorem d_few_ok (G : Gr m e v) (hn : n ≤ 12) : ∃ gs : List (Fin n), d_few_makers [tab m] = .ok (fl gs) ∧ gs.Nodup ∧ gs.length ≤ n ∧ ∀ x, clQ m e gs x = true := by
  suffices hs : ∃ gs : List (Fin n), b_few_makers [some (tab m), none, none, none] = .rt (fl gs) ∧ gs.Nodup ∧ gs.length ≤ n ∧ ∀ x, clQ m e gs x = true by
    obtain ⟨gs, h, q⟩ := hs
    exact ⟨gs, runN_rt h, q⟩
  obtain ⟨r, env', h1, ⟨gs, x2, x3, rfl, nd, hl, hr⟩, h2⟩ := while_left (t := e2 oLt (e1 oLen (eCall d_grown [(eV 0), (eV 1)])) (e1 oLen (eV 0)))
    (b := sSeq (sAsg (gN 2) (eCall d_grown [(eV 0), (eV 1)])) (sChg 1 cApp [(e2 oIx (eComp [3] (gN 3) (iR1 (e1 oLen (eV 0))) (e2 oNi (eV 3) (eV 2)) (eV 3)) (eK (.int 0)))]))
    (fun r env => ∃ (gs : List (Fin n)) (x2 x3 : Option D), env = [some (tab m), some (fl gs), x2, x3] ∧ gs.Nodup ∧ gs.length ≤ (el (clQ m e gs)).length ∧ r = 100 - (el (clQ m e gs)).length)
    (fun r env hI => by
      obtain ⟨gs, x2, x3, rfl, nd, hl, rfl⟩ := hI
      have el1 := el_len (clQ m e gs)
      have dg := d_grown_eq G hn (xs := gs) (by omega)
      have tt : e2 oLt (e1 oLen (eCall d_grown [(eV 0), (eV 1)])) (e1 oLen (eV 0)) [some (tab m), some (fl gs), x2, x3] = .ok (.bool (decide (((el (clQ m e gs)).length : Int) < n))) := by simp [dg]
      rcases Nat.lt_or_ge (el (clQ m e gs)).length n with hlt | hge
      · right
        rw [tt, decide_eq_true (by omega)]
        refine ⟨rfl, ?_⟩
        let rest := (List.finRange n).filter fun x => !decide (x ∈ el (clQ m e gs))
        obtain ⟨a, as, has⟩ : ∃ a as, rest = a :: as := by
          cases h : rest with
          | cons a as => exact ⟨a, as, rfl⟩
          | nil =>
            have : ∀ x ∈ List.finRange n, x ∈ el (clQ m e gs) := fun x hx => by
              have := List.filter_eq_nil_iff.mp h x hx
              simpa using this
            have := len_le_of_sub (List.nodup_finRange n) this
            rw [List.length_finRange] at this
            omega
        have ha : a ∉ el (clQ m e gs) := by
          have : a ∈ rest := by rw [has]; exact List.mem_cons_self ..
          have := (List.mem_filter.mp this).2
          simpa using this
        have ag : a ∉ gs := fun z => ha (el_mem.mpr (clQ_mem gs z))
        have q : eComp [3] (gN 3) (iR1 (e1 oLen (eV 0))) (e2 oNi (eV 3) (eV 2)) (eV 3) [some (tab m), some (fl gs), some (fl (el (clQ m e gs))), x3] = .ok (fl rest) := by
          rw [eComp_map (xs := List.finRange n) (i := fi) (P := fun x => !decide (x ∈ el (clQ m e gs))) (F := fi) (iR1_len hn rfl) (by rw [List.length_finRange]; omega)]
          · rfl
          · intro x _
            exact ⟨_, rfl, by simp [wipeE], fun _ => rfl⟩
        have grow : (el (clQ m e gs)).length < (el (clQ m e (gs ++ [a]))).length := by
          have nd2 : (a :: el (clQ m e gs)).Nodup := List.nodup_cons.mpr ⟨ha, el_nodup _⟩
          have := len_le_of_sub nd2 (ys := el (clQ m e (gs ++ [a]))) fun x hx => by
            rcases List.mem_cons.mp hx with z | z
            · rw [z]; exact el_mem.mpr (clQ_mem _ (List.mem_append_right _ (List.mem_singleton.mpr rfl)))
            · exact el_mem.mpr (clQ_up (el_mem.mp z))
          rw [List.length_cons] at this
          exact this
        have el2 := el_len (clQ m e (gs ++ [a]))
        refine ⟨100 - (el (clQ m e (gs ++ [a]))).length, [some (tab m), some (fl (gs ++ [a])), some (fl (el (clQ m e gs))), x3], by omega, ?_, gs ++ [a], _, _, rfl, ?_, ?_, rfl⟩
        · refine seq_nx [some (tab m), some (fl gs), some (fl (el (clQ m e gs))), x3] (by simp [dg]) ?_
          rw [app_fl (j := 1) (a := a) (xs := gs) rfl (by rw [e2_def, q, bind_ok, eK_ok, bind_ok]; exact oIx0 (by rw [has]; rfl)) (by omega)]; rfl
        · rw [List.nodup_append]
          exact ⟨nd, by simp, fun x hx y hy z => ag (by rw [List.mem_singleton.mp hy] at z; rw [← z]; exact hx)⟩
        · rw [List.length_append, List.length_singleton]; omega
      · left
        rw [tt, decide_eq_false (by omega)])
    1000 (100 - (el (clQ m e [])).length) [some (tab m), some (fl ([] : List (Fin n))), none, none] (by omega) ⟨[], none, none, rfl, List.nodup_nil, Nat.zero_le _, rfl⟩
  have el1 := el_len (clQ m e gs)
  have dg := d_grown_eq G hn (xs := gs) (by omega)
  have tt : Tf.e2 oLt (e1 oLen (eCall d_grown [(eV 0), (eV 1)])) (e1 oLen (eV 0)) [some (tab m), some (fl gs), x2, x3] = .ok (.bool (decide (((el (clQ m e gs)).length : Int) < n))) := by simp [dg]
  rw [tt] at h2
  injection h2 with h2
  injection h2 with h2
  have h2 := of_decide_eq_false h2
  refine ⟨gs, ?_, nd, by omega, fun x => ?_⟩
  · show sSeq _ _ _ = _
    refine seq_nx [some (tab m), some (fl ([] : List (Fin n))), none, none] (by simp [fl]) ?_
    rw [sSeq_nx (show sWhile 1000 _ _ _ = _ from h1)]
    simp
  · apply Classical.byContradiction
    intro hx
    have hx : x ∉ el (clQ m e gs) := fun z => hx (el_mem.mp z)
    have nd2 : (x :: el (clQ m e gs)).Nodup := List.nodup_cons.mpr ⟨hx, el_nodup _⟩
    have := len_le_of_sub nd2 (ys := List.finRange n) fun y _ => List.mem_finRange y
    rw [List.length_cons, List.length_finRange] at this
    omega
/-! ### tried -/
theorem Iso.pw (G1 : Gr m1 e1' v1) (G2 : Gr m2 e2' v2) {ψ : Fin n → Fin n} (h : Iso m1 m2 ψ) (a : Fin n) (k : Nat) : pw m2 e2' (ψ a) k = ψ (Tf.pw m1 e1' a k) := by
  induction k with
  | zero => exact (h.e G1 G2).symm
  | succ k ih => show m2 (Tf.pw m2 e2' (ψ a) k) (ψ a) = ψ (m1 (Tf.pw m1 e1' a k) a); rw [ih, h.hom]
theorem Iso.ord (G1 : Gr m1 e1' v1) (G2 : Gr m2 e2' v2) {ψ : Fin n → Fin n} (h : Iso m1 m2 ψ) {a : Fin n} {d d' : Nat} (h1 : IsOrd m1 e1' a d) (h2 : IsOrd m2 e2' (ψ a) d') : d = d' := by
  have : IsOrd m2 e2' (ψ a) d := ⟨h1.pos, by rw [h.pw G1 G2, h1.at_d, h.e G1 G2], fun k k1 k2 z => h1.least k k1 k2 (h.inj _ _ (by rw [← h.pw G1 G2, z, h.e G1 G2]))⟩
  exact this.u h2
theorem asn_congr {ks : List (Fin n)} {φ φ' : Fin n → Fin n} (h : ∀ x ∈ ks, φ x = φ' x) : dic ks φ = dic ks φ' := by
  unfold dic asn
  congr 2
  apply List.map_congr_left
  intro x hx
  rw [h x hx]
def TrOk (m1 m2 : Fin n → Fin n → Fin n) (ks0 : List (Fin n)) (φ0 : Fin n → Fin n) (r : D) : Prop :=
  (r = .none ∧ ∀ ψ, Iso m1 m2 ψ → (∀ x ∈ ks0, ψ x = φ0 x) → False) ∨ ∃ ks φ, r = dic ks φ ∧ Iso m1 m2 φ ∧ ∀ x, x ∈ ks
theorem isN_dic (ks : List (Fin n)) (φ : Fin n → Fin n) : isNone (dic ks φ) = false := rfl
theorem noN_ok (d : D) : oNoN d .none = .ok (.bool (!isNone d)) := rfl
theorem isN_ok (d : D) : oIsN d .none = .ok (.bool (isNone d)) := rfl
theorem d_tried_ok (G1 : Gr m1 e1' v1) (G2 : Gr m2 e2' v2) (hn : n ≤ 12) {gs : List (Fin n)} (nd : gs.Nodup) (gl : gs.length ≤ n) (hall : ∀ x, clQ m1 e1' gs x = true) :
    ∀ (q j : Nat) (φ0 : Fin n → Fin n), j ≤ gs.length → gs.length < j + q → ∃ r, d_tried q [tab m1, tab m2, fl gs, dic (gs.take j) φ0] = .ok r ∧ TrOk m1 m2 (gs.take j) φ0 r
  | 0, j, φ0, h1, h2 => by omega
  | q + 1, j, φ0, h1, h2 => by
    have tl : (gs.take j).length = j := by rw [List.length_take]; omega
    have ndj : (gs.take j).Nodup := nd.sublist (List.take_sublist _ _)
    suffices hs : ∃ r, b_tried (d_tried q) [some (tab m1), some (tab m2), some (fl gs), some (dic (gs.take j) φ0), none, none, none, none] = .rt r ∧ TrOk m1 m2 (gs.take j) φ0 r by
      obtain ⟨r, h, hr⟩ := hs
      exact ⟨r, runN_rt h, hr⟩
    have t1 : e2 oEq (e1 oLen (eV 2)) (e1 oLenK (eV 3)) [some (tab m1), some (tab m2), some (fl gs), some (dic (gs.take j) φ0), none, none, none, none] = .ok (.bool (decide (gs.length = j))) := by
      simp [oLen_dic, tl, Int.ofNat_inj]
    by_cases hj : gs.length = j
    · -- all makers are named
      obtain ⟨r, hr, h⟩ := d_spread_ok G1 G2 hn φ0 ndj
      refine ⟨r, ?_, ?_⟩
      · show sSeq _ _ _ = _
        rw [sSeq_rt (show sIf _ _ _ _ = .rt r by rw [sIf_b t1, decide_eq_true hj, if_pos rfl, sRet_def, eCall_def]; simp [hr])]
      · rcases h with ⟨rfl, no⟩ | ⟨ks, φ, rfl, kn, en, sub, ok, inj⟩
        · exact .inl ⟨rfl, no⟩
        · have all : ∀ x, x ∈ ks := fun x => by
            have hx := hall x
            refine of_decide_eq_true ((clQ_clo m1 e1' gs).least (inB ks) (fun y hy => ?_) (decide_eq_true en) (fun a b ha hb => ?_) x hx)
            · refine decide_eq_true (sub y ?_)
              rw [← hj, List.take_length]
              exact of_decide_eq_true hy
            · exact decide_eq_true (ok a (of_decide_eq_true ha) b (of_decide_eq_true hb)).1
          exact .inr ⟨ks, φ, rfl, ⟨fun a b => (ok a (all a) b (all b)).2, fun a b => inj a (all a) b (all b)⟩, all⟩
    · have hlt : j < gs.length := by omega
      obtain ⟨g, hg⟩ : ∃ g, gs[j]? = some g := ⟨_, List.getElem?_eq_getElem hlt⟩
      have gnj : g ∉ gs.take j := fun z => by
        have h3 : (gs.take (j + 1)).Nodup := nd.sublist (List.take_sublist _ _)
        rw [take_succ_get hg, List.nodup_append] at h3
        exact h3.2.2 g z g (List.mem_singleton.mpr rfl) rfl
      obtain ⟨dg, hdg, dgl⟩ := G1.ord_ex g
      have pre : ∀ R, sSeq (sFor (gN 5) (iR1 (e1 oLen (eV 1))) (sIf (e2 oEq (e1 oLen (eCall d_row_of_times [(eV 1), (eV 5)])) (e1 oLen (eCall d_row_of_times [(eV 0), (eV 4)]))) (sSeq (sAsg (gN 6) (e1 oDictC (eV 3))) (sSeq (sDPutK 6 (eV 4) (eV 5)) (sIf (e2 oNoN (eCall d_spread [(eV 0), (eV 1), (eV 6)]) (eK .none)) (sSeq (sAsg (gN 7) (eCall (d_tried q) [(eV 0), (eV 1), (eV 2), (eV 6)])) (sIf (e2 oNoN (eV 7) (eK .none)) (sRet (eV 7)) sSkip)) sSkip))) sSkip)) (sRet (eK .none)) [some (tab m1), some (tab m2), some (fl gs), some (dic (gs.take j) φ0), some (fi g), none, none, none] = R →
          b_tried (d_tried q) [some (tab m1), some (tab m2), some (fl gs), some (dic (gs.take j) φ0), none, none, none, none] = R := fun R hR => by
        show sSeq _ _ _ = _
        refine seq_nx _ (by rw [sIf_b t1, decide_eq_false hj]; rfl) ?_
        refine seq_nx [some (tab m1), some (tab m2), some (fl gs), some (dic (gs.take j) φ0), some (fi g), none, none, none] (by simp [oLen_dic, tl, oIx_fl hg]) hR
      have L := forL_ret (α := Fin n) (g := gN 5) (i := fi) (b := sIf (e2 oEq (e1 oLen (eCall d_row_of_times [(eV 1), (eV 5)])) (e1 oLen (eCall d_row_of_times [(eV 0), (eV 4)]))) (sSeq (sAsg (gN 6) (e1 oDictC (eV 3))) (sSeq (sDPutK 6 (eV 4) (eV 5)) (sIf (e2 oNoN (eCall d_spread [(eV 0), (eV 1), (eV 6)]) (eK .none)) (sSeq (sAsg (gN 7) (eCall (d_tried q) [(eV 0), (eV 1), (eV 2), (eV 6)])) (sIf (e2 oNoN (eV 7) (eK .none)) (sRet (eV 7)) sSkip)) sSkip))) sSkip) (xs := List.finRange n)
        (I := fun env => ∃ x5 x6 x7, env = [some (tab m1), some (tab m2), some (fl gs), some (dic (gs.take j) φ0), some (fi g), x5, x6, x7]) (N := fun a => ∀ ψ, Iso m1 m2 ψ → (∀ x ∈ gs.take j, ψ x = φ0 x) → ψ g = a → False) (Pd := TrOk m1 m2 (gs.take j) φ0)
        (fun a _ env hI => by
          obtain ⟨x5, x6, x7, rfl⟩ := hI
          refine ⟨[some (tab m1), some (tab m2), some (fl gs), some (dic (gs.take j) φ0), some (fi g), some (fi a), x6, x7], rfl, ?_⟩
          obtain ⟨da, hda, dal⟩ := G2.ord_ex a
          have t2 : e2 oEq (e1 oLen (eCall d_row_of_times [(eV 1), (eV 5)])) (e1 oLen (eCall d_row_of_times [(eV 0), (eV 4)])) [some (tab m1), some (tab m2), some (fl gs), some (dic (gs.take j) φ0), some (fi g), some (fi a), x6, x7] = .ok (.bool (decide (da = dg))) := by
            simp [G2.d_row hn hda dal, G1.d_row hn hdg dgl, pws_len, Int.ofNat_inj]
          by_cases ho : da = dg
          · rw [sIf_b t2, decide_eq_true ho, if_pos rfl]
            let φ' := updF φ0 g a
            have ek : (if g ∈ gs.take j then gs.take j else gs.take j ++ [g]) = gs.take (j + 1) := by rw [if_neg gnj, take_succ_get hg]
            have hput := put_dic (env := [some (tab m1), some (tab m2), some (fl gs), some (dic (gs.take j) φ0), some (fi g), some (fi a), some (dic (gs.take j) φ0), x7]) (j := 6) (fk := eV 4) (fv := eV 5) (x := g) (y := a) (ks := gs.take j) (φ := φ0) rfl rfl rfl (by omega)
            rw [ek] at hput
            have ndj1 : (gs.take (j + 1)).Nodup := nd.sublist (List.take_sublist _ _)
            obtain ⟨r, hr, hsp⟩ := d_spread_ok G1 G2 hn φ' ndj1
            have ext : ∀ ψ : Fin n → Fin n, (∀ x ∈ gs.take j, ψ x = φ0 x) → ψ g = a → ∀ x ∈ gs.take (j + 1), ψ x = φ' x := fun ψ h0 hga x hx => by
              show ψ x = if x = g then a else φ0 x
              rw [take_succ_get hg] at hx
              rcases List.mem_append.mp hx with z | z
              · rw [if_neg (fun w : x = g => gnj (w ▸ z))]; exact h0 x z
              · rw [if_pos (List.mem_singleton.mp z), List.mem_singleton.mp z]; exact hga
            have b1 : ∀ R, sIf (e2 oNoN (eCall d_spread [(eV 0), (eV 1), (eV 6)]) (eK .none)) (sSeq (sAsg (gN 7) (eCall (d_tried q) [(eV 0), (eV 1), (eV 2), (eV 6)])) (sIf (e2 oNoN (eV 7) (eK .none)) (sRet (eV 7)) sSkip)) sSkip [some (tab m1), some (tab m2), some (fl gs), some (dic (gs.take j) φ0), some (fi g), some (fi a), some (dic (gs.take (j + 1)) φ'), x7] = R →
                (sSeq (sAsg (gN 6) (e1 oDictC (eV 3))) (sSeq (sDPutK 6 (eV 4) (eV 5)) (sIf (e2 oNoN (eCall d_spread [(eV 0), (eV 1), (eV 6)]) (eK .none)) (sSeq (sAsg (gN 7) (eCall (d_tried q) [(eV 0), (eV 1), (eV 2), (eV 6)])) (sIf (e2 oNoN (eV 7) (eK .none)) (sRet (eV 7)) sSkip)) sSkip))) [some (tab m1), some (tab m2), some (fl gs), some (dic (gs.take j) φ0), some (fi g), some (fi a), x6, x7] = R := fun R hR => by
              refine seq_nx [some (tab m1), some (tab m2), some (fl gs), some (dic (gs.take j) φ0), some (fi g), some (fi a), some (dic (gs.take j) φ0), x7] (by simp [oDictC_dic]) ?_
              exact seq_nx _ hput hR
            have t3 : e2 oNoN (eCall d_spread [(eV 0), (eV 1), (eV 6)]) (eK .none) [some (tab m1), some (tab m2), some (fl gs), some (dic (gs.take j) φ0), some (fi g), some (fi a), some (dic (gs.take (j + 1)) φ'), x7] = .ok (.bool (!isNone r)) := by
              rw [e2_def, eCall_def]
              simp only [eL_cons, eL_nil, eV_succ, eV_zero, bind_ok, hr, eK_ok, noN_ok]
            rcases hsp with ⟨rfl, no⟩ | ⟨ks, φ, rfl, _⟩
            · exact .inr ⟨_, b1 _ (by rw [sIf_b t3]; rfl), ⟨_, _, _, rfl⟩, fun ψ hψ h0 hga => no ψ hψ (ext ψ h0 hga)⟩
            · obtain ⟨r2, hr2, htr⟩ := d_tried_ok G1 G2 hn nd gl hall q (j + 1) φ' (by omega) (by omega)
              have b2 : ∀ R, sIf (e2 oNoN (eV 7) (eK .none)) (sRet (eV 7)) sSkip [some (tab m1), some (tab m2), some (fl gs), some (dic (gs.take j) φ0), some (fi g), some (fi a), some (dic (gs.take (j + 1)) φ'), some r2] = R →
                  (sSeq (sAsg (gN 7) (eCall (d_tried q) [(eV 0), (eV 1), (eV 2), (eV 6)])) (sIf (e2 oNoN (eV 7) (eK .none)) (sRet (eV 7)) sSkip)) [some (tab m1), some (tab m2), some (fl gs), some (dic (gs.take j) φ0), some (fi g), some (fi a), some (dic (gs.take (j + 1)) φ'), x7] = R := fun R hR =>
                seq_nx _ (by rw [sAsg_def, eCall_def]; simp only [eL_cons, eL_nil, eV_succ, eV_zero, bind_ok, hr2]; rfl) hR
              have t4 : e2 oNoN (eV 7) (eK .none) [some (tab m1), some (tab m2), some (fl gs), some (dic (gs.take j) φ0), some (fi g), some (fi a), some (dic (gs.take (j + 1)) φ'), some r2] = .ok (.bool (!isNone r2)) := rfl
              rcases htr with ⟨rfl, no⟩ | ⟨ks2, φ2, rfl, iso, all⟩
              · exact .inr ⟨_, b1 _ (by rw [sIf_b t3, isN_dic]; exact b2 _ (by rw [sIf_b t4]; rfl)), ⟨_, _, _, rfl⟩, fun ψ hψ h0 hga => no ψ hψ (ext ψ h0 hga)⟩
              · exact .inl ⟨dic ks2 φ2, b1 _ (by rw [sIf_b t3, isN_dic]; exact b2 _ (by rw [sIf_b t4, isN_dic]; rfl)), .inr ⟨ks2, φ2, rfl, iso, all⟩⟩
          · exact .inr ⟨_, by rw [sIf_b t2, decide_eq_false ho]; rfl, ⟨_, _, _, rfl⟩, fun ψ hψ h0 hga => ho (by
              have := hψ.ord G1 G2 hdg (d' := da) (by rw [hga]; exact hda)
              exact this.symm)⟩)
        (e := [some (tab m1), some (tab m2), some (fl gs), some (dic (gs.take j) φ0), some (fi g), none, none, none]) ⟨_, _, _, rfl⟩
      have ef : ∀ env : En, env[1]? = some (some (tab m2)) → sFor (gN 5) (iR1 (e1 oLen (eV 1))) (sIf (e2 oEq (e1 oLen (eCall d_row_of_times [(eV 1), (eV 5)])) (e1 oLen (eCall d_row_of_times [(eV 0), (eV 4)]))) (sSeq (sAsg (gN 6) (e1 oDictC (eV 3))) (sSeq (sDPutK 6 (eV 4) (eV 5)) (sIf (e2 oNoN (eCall d_spread [(eV 0), (eV 1), (eV 6)]) (eK .none)) (sSeq (sAsg (gN 7) (eCall (d_tried q) [(eV 0), (eV 1), (eV 2), (eV 6)])) (sIf (e2 oNoN (eV 7) (eK .none)) (sRet (eV 7)) sSkip)) sSkip))) sSkip) env =
          forL (gN 5) (sIf (e2 oEq (e1 oLen (eCall d_row_of_times [(eV 1), (eV 5)])) (e1 oLen (eCall d_row_of_times [(eV 0), (eV 4)]))) (sSeq (sAsg (gN 6) (e1 oDictC (eV 3))) (sSeq (sDPutK 6 (eV 4) (eV 5)) (sIf (e2 oNoN (eCall d_spread [(eV 0), (eV 1), (eV 6)]) (eK .none)) (sSeq (sAsg (gN 7) (eCall (d_tried q) [(eV 0), (eV 1), (eV 2), (eV 6)])) (sIf (e2 oNoN (eV 7) (eK .none)) (sRet (eV 7)) sSkip)) sSkip))) sSkip) ((List.finRange n).map fi) env := fun env h => by
        rw [sFor_def, iR1_len hn h, fl_okk]
      rcases L with ⟨d, hL, hd⟩ | ⟨e2, hL, ⟨x5, x6, x7, rfl⟩, hN⟩
      · exact ⟨d, pre _ (sSeq_rt ((ef _ rfl).trans hL)), hd⟩
      · exact ⟨.none, pre _ (by rw [sSeq_nx ((ef _ rfl).trans hL)]; rfl), .inl ⟨rfl, fun ψ hψ h0 => hN (ψ g) (List.mem_finRange _) ψ hψ h0 rfl⟩⟩
/-! ### renaming -/
theorem d_renaming_ok (G1 : Gr m1 e1' v1) (G2 : Gr m2 e2' v2) (h0 : 1 ≤ n) (hn : n ≤ 12) :
    (d_renaming [tab m1, tab m2] = .ok .none ∧ ∀ ψ, Iso m1 m2 ψ → False) ∨ ∃ φ, d_renaming [tab m1, tab m2] = .ok (fl ((List.finRange n).map φ)) ∧ Iso m1 m2 φ := by
  obtain ⟨gs, hfew, nd, gl, hall⟩ := d_few_ok G1 hn
  obtain ⟨r, hr, htr⟩ := d_tried_ok G1 G2 hn nd gl hall 13 0 id (Nat.zero_le _) (by omega)
  have e0 : dic (gs.take 0) id = .dict [] := rfl
  rw [e0] at hr
  have body : ∀ R, sSeq (sIf (e2 oIsN (eV 2) (eK .none)) (sRet (eK .none)) sSkip) (sRet (eComp [3] (gN 3) (iR1 (e1 oLen (eV 0))) eYes (eDGet 2 (eV 3)))) [some (tab m1), some (tab m2), some r, none] = R → b_renaming [some (tab m1), some (tab m2), none, none] = R := fun R hR => by
    show sSeq _ _ _ = _
    refine seq_nx [some (tab m1), some (tab m2), none, none] (by simp [G1.d_asked_folk h0 hn]) ?_
    refine seq_nx [some (tab m1), some (tab m2), none, none] (by simp [G2.d_asked_folk h0 hn]) ?_
    refine seq_nx [some (tab m1), some (tab m2), none, none] (by rw [sIf_b (k := false) (by simp)]; rfl) ?_
    refine seq_nx [some (tab m1), some (tab m2), some r, none] ?_ hR
    rw [sAsg_def, eCall_def]
    have : eL [(eV 0), (eV 1), (eCall d_few_makers [(eV 0)]), eD0] [some (tab m1), some (tab m2), none, none] = .ok [tab m1, tab m2, fl gs, .dict []] := by
      simp only [eL_cons, eL_nil, eV_zero, eV_succ, eCall_def, bind_ok, hfew]; rfl
    rw [this, bind_ok, hr]; rfl
  have t1 : e2 oIsN (eV 2) (eK .none) [some (tab m1), some (tab m2), some r, none] = .ok (.bool (isNone r)) := rfl
  rcases htr with ⟨rfl, no⟩ | ⟨ks, φ, rfl, iso, all⟩
  · exact .inl ⟨runN_rt (body _ (sSeq_rt (show sIf _ _ _ _ = .rt .none by rw [sIf_b t1]; rfl))), fun ψ hψ => no ψ hψ fun x hx => by simp at hx⟩
  · refine .inr ⟨φ, runN_rt (body _ ?_), iso⟩
    refine seq_nx _ (by rw [sIf_b t1, isN_dic]; rfl) ?_
    rw [sRet_def, eComp_map (xs := List.finRange n) (i := fi) (P := fun _ => true) (F := fun x => fi (φ x)) (iR1_len hn rfl) (by rw [List.length_finRange]; omega)]
    · rw [filter_yes]
      unfold fl
      rw [List.map_map]; rfl
    · intro x _
      exact ⟨_, rfl, rfl, fun _ => get_dic (x := x) rfl rfl (all x)⟩
end
theorem d_renaming_ne {n n' : Nat} {m1 : Fin n → Fin n → Fin n} {m2 : Fin n' → Fin n' → Fin n'} {e1' : Fin n} {e2' : Fin n'} {v1 : Fin n → Fin n} {v2 : Fin n' → Fin n'} (G1 : Gr m1 e1' v1) (G2 : Gr m2 e2' v2) (h0 : 1 ≤ n) (hn : n ≤ 12) (h0' : 1 ≤ n') (hn' : n' ≤ 12) (h : n ≠ n') :
    d_renaming [tab m1, tab m2] = .ok .none := by
  apply runN_rt
  show sSeq _ _ [some (tab m1), some (tab m2), none, none] = _
  refine seq_nx [some (tab m1), some (tab m2), none, none] (by simp [G1.d_asked_folk h0 hn]) ?_
  refine seq_nx [some (tab m1), some (tab m2), none, none] (by simp [G2.d_asked_folk h0' hn']) ?_
  rw [sSeq_rt (show sIf _ _ _ _ = .rt .none by rw [sIf_b (k := true) (by simp; omega)]; rfl)]
end Tf
namespace Tf
open PySem
/-! ### texts as lists of signs -/
def St (a : List Nat) : Str := ⟨a.toArray⟩
theorem st_tl (a : List Nat) : TL.tl (St a) = a := by unfold St TL.tl; simp
theorem st_len (a : List Nat) : (St a).length = a.length := by rw [TL.len_tl, st_tl]
theorem st_of (x : Str) : x = St (TL.tl x) := TL.ext_tl (by rw [st_tl])
theorem sl_st : sl = St [47] := TL.ext_tl (by rw [st_tl, tl_sl])
theorem sp_st : sp = St [32] := TL.ext_tl (by rw [st_tl, tl_sp])
def cut (c : Nat) (a : List Nat) : List (List Nat) := TL.spl [c] 0 [] a
theorem split_st {c : Nat} (hc : c < 256) (a : List Nat) : Txt.split (St a) (St [c]) = (cut c a).map St := by
  have h : ∀ x : List Nat, St x = SX.S x := fun x => TL.ext_tl (by rw [st_tl])
  rw [h, h, SX.split_S (by simp) (by simp; exact hc)]
  unfold cut
  exact List.map_congr_left fun x _ => (h x).symm
theorem spl_ok (c0 : Nat) : ∀ (a acc : List Nat), TL.spl [c0] 0 acc a ≠ [] ∧ (TL.spl [c0] 0 acc a).length ≤ a.length + 1 ∧ ∀ w ∈ TL.spl [c0] 0 acc a, w.length ≤ acc.length + a.length ∧ ∀ x ∈ w, x ∈ acc ∨ x ∈ a
  | [], acc => by
    rw [TL.spl_nil]
    refine ⟨by simp, by simp, fun w hw => ?_⟩
    rw [List.mem_singleton.mp hw]
    exact ⟨by simp, fun x hx => .inl hx⟩
  | c :: r, acc => by
    by_cases h : TL.pre [c0] (c :: r) = true
    · rw [TL.spl_hit h]
      obtain ⟨h1, h2, h3⟩ := spl_ok c0 r []
      refine ⟨by simp, ?_, fun w hw => ?_⟩
      · show (TL.spl [c0] 0 [] r).length + 1 ≤ (r.length + 1) + 1
        omega
      · rcases List.mem_cons.mp hw with z | z
        · rw [z]; exact ⟨by omega, fun x hx => .inl hx⟩
        · obtain ⟨q1, q2⟩ := h3 w z
          refine ⟨by rw [List.length_cons]; simp at q1; omega, fun x hx => ?_⟩
          rcases q2 x hx with y | y
          · cases y
          · exact .inr (List.mem_cons_of_mem _ y)
    · rw [TL.spl_miss (by simpa using h)]
      obtain ⟨h1, h2, h3⟩ := spl_ok c0 r (acc ++ [c])
      refine ⟨h1, by rw [List.length_cons]; omega, fun w hw => ?_⟩
      obtain ⟨q1, q2⟩ := h3 w hw
      refine ⟨by rw [List.length_append, List.length_singleton] at q1; rw [List.length_cons]; omega, fun x hx => ?_⟩
      rcases q2 x hx with y | y
      · rcases List.mem_append.mp y with y | y
        · exact .inl y
        · rw [List.mem_singleton.mp y]; exact .inr (List.mem_cons_self ..)
      · exact .inr (List.mem_cons_of_mem _ y)
/-- a text that is short, of plain signs -/
structure Ok (N : Nat) (a : List Nat) : Prop where
  len : a.length ≤ N
  ch : ∀ x ∈ a, x < 128
theorem Ok.cut {N : Nat} {a : List Nat} (h : Ok N a) (c : Nat) : Tf.cut c a ≠ [] ∧ (Tf.cut c a).length ≤ N + 1 ∧ ∀ w ∈ Tf.cut c a, Ok N w := by
  obtain ⟨h1, h2, h3⟩ := spl_ok c a []
  refine ⟨h1, Nat.le_trans h2 (by have := h.len; omega), fun w hw => ?_⟩
  obtain ⟨q1, q2⟩ := h3 w hw
  exact ⟨by have := h.len; simp at q1; omega, fun x hx => (q2 x hx).elim (fun z => nomatch z) (h.ch x)⟩
theorem Ok.sh {N : Nat} {a : List Nat} (h : Ok N a) (k : Nat) : sh k (.str (St a)) := sh_str k fun c hc => h.ch c (by rw [← st_tl a]; exact hc)
theorem eqv_st (a b : List Nat) : PyData.eqv (.str (St a)) (.str (St b)) = decide (a = b) := by
  rw [PyData.eqv]
  rw [Bool.eq_iff_iff, beq_iff_eq, decide_eq_true_eq]
  exact ⟨fun h => by rw [← st_tl a, h, st_tl], fun h => by rw [h]⟩
theorem oEq_st {N M : Nat} {a b : List Nat} (ha : Ok N a) (hb : Ok M b) : oEq (.str (St a)) (.str (St b)) = .ok (.bool (decide (a = b))) := oEq_of (ha.sh 0) (hb.sh 0) (eqv_st a b)
theorem oLen_st {a : List Nat} (h : a.length ≤ 100000) : oLen (.str (St a)) = .ok (.int a.length) := by
  show (if lim (St a).length then Rs.ok (PyData.int (St a).length) else .no) = _
  rw [st_len, if_pos (show lim a.length = true from decide_eq_true h)]
theorem oIx_st {a : List Nat} {i c : Nat} (h : a.length ≤ 100000) (hc : a[i]? = some c) : oIx (.str (St a)) (.int (i : Nat)) = .ok (.str (St [c])) := by
  show (if lim (St a).length then (match L2.atI (St a).cps.toList (i : Nat) with | some c => Rs.ok (PyData.str ⟨#[c]⟩) | none => .no) else .no) = _
  rw [st_len, if_pos (show lim a.length = true from decide_eq_true h)]
  have : (St a).cps.toList = a := st_tl a
  rw [this, atI_nat, hc]; rfl
theorem iS_st {ax : DE} {e : En} {a : List Nat} (h : ax e = .ok (.str (St a))) : iS ax e = .ok (a.map fun c => .str (St [c])) := by
  unfold iS
  rw [h, bind_ok]
  show Rs.ok ((St a).cps.toList.map _) = _
  rw [show (St a).cps.toList = a from st_tl a]; rfl
def digB (c : Nat) : Bool := decide (48 ≤ c) && decide (c ≤ 57)
def figs : List Nat := [48, 49, 50, 51, 52, 53, 54, 55, 56, 57]
theorem figs_st : (Str.ofString "0123456789") = St figs := TL.ext_tl (by decide +kernel)
theorem mem_figs (c : Nat) : c ∈ figs ↔ digB c = true := by
  unfold figs digB
  simp only [List.mem_cons, List.not_mem_nil, or_false, Bool.and_eq_true, decide_eq_true_eq]
  omega
theorem oNiS_st (c : Nat) : oNiS (.str (St [c])) (.str "0123456789") = .ok (.bool (!digB c)) := by
  show oNiS (.str (St [c])) (.str (Str.ofString "0123456789")) = _
  rw [figs_st]
  show Rs.ok (PyData.bool (!decide (c ∈ (St figs).cps.toList))) = _
  rw [show (St figs).cps.toList = figs from st_tl figs]
  congr 3
  rw [Bool.eq_iff_iff, decide_eq_true_eq]
  exact mem_figs c
theorem find_st (c : Nat) : (Txt.find (St figs) (St [c]) < 0) ↔ digB c = false := by
  have h := StrLaws.found_one (St figs) c
  have hc : (⟨#[c]⟩ : Str) = St [c] := rfl
  rw [hc, show (St figs).cps.toList = figs from st_tl figs] at h
  unfold Txt.find
  cases hq : Builtin.Str.occurrences (St figs) (St [c]) 0 (St figs).length 1 with
  | nil =>
    rw [hq] at h
    have h : false = decide (c ∈ figs) := h
    have : ¬ c ∈ figs := of_decide_eq_false h.symm
    rw [mem_figs] at this
    simp only [Bool.not_eq_true] at this
    exact ⟨fun _ => this, fun _ => by decide⟩
  | cons i r =>
    rw [hq] at h
    have h : true = decide (c ∈ figs) := h
    have : c ∈ figs := of_decide_eq_true h.symm
    rw [mem_figs] at this
    exact ⟨fun z => by have z : (i : Int) < 0 := z; omega, fun z => by rw [this] at z; cases z⟩
/-! ### the worth of figures -/
def dv (w : List Nat) : Nat := NumText.digitsVal w
theorem dv_ge : ∀ (w : List Nat) (acc : Nat), acc * 10 ^ w.length ≤ w.foldl (fun acc c => acc * 10 + (c - 48)) acc
  | [], acc => by simp
  | c :: r, acc => by
    have := dv_ge r (acc * 10 + (c - 48))
    rw [List.foldl_cons]
    refine Nat.le_trans ?_ this
    rw [List.length_cons, Nat.pow_succ, Nat.mul_comm (10 ^ r.length) 10, ← Nat.mul_assoc]
    exact Nat.mul_le_mul_right _ (Nat.le_add_right _ _)
theorem dv_big {w : List Nat} (h3 : 3 ≤ w.length) (hd : w.all digB = true) (h0 : w.head? ≠ some 48) : 100 ≤ dv w := by
  cases w with
  | nil => simp at h3
  | cons c r =>
    have hc := List.all_eq_true.mp hd c (List.mem_cons_self ..)
    unfold digB at hc
    rw [Bool.and_eq_true, decide_eq_true_eq, decide_eq_true_eq] at hc
    have hc2 : c ≠ 48 := fun z => h0 (by rw [z]; rfl)
    have h := dv_ge r (0 * 10 + (c - 48))
    have hl : 2 ≤ r.length := by rw [List.length_cons] at h3; omega
    have hp : 10 ^ 2 ≤ 10 ^ r.length := Nat.pow_le_pow_right (by decide) hl
    show 100 ≤ r.foldl _ (0 * 10 + (c - 48))
    refine Nat.le_trans ?_ h
    refine Nat.le_trans (show 100 ≤ (0 * 10 + (c - 48)) * 10 ^ 2 by omega) (Nat.mul_le_mul_left _ hp)
theorem oIntS_st {w : List Nat} (h1 : w ≠ []) (hl : w.length ≤ 640) (hd : w.all digB = true) : oIntS (.str (St w)) = .ok (.int (dv w : Nat)) := by
  have hc : (St w).cps.toList = w := st_tl w
  have ad : NumText.AllDigits (St w).cps.toList := fun c hcm => by
    rw [hc] at hcm
    have := List.all_eq_true.mp hd c hcm
    unfold digB at this
    rwa [Bool.and_eq_true, decide_eq_true_eq, decide_eq_true_eq] at this
  have hi := intText_digits ad (by rw [hc]; exact h1) (by rw [st_len]; omega)
  show (if decide ((St w).length ≤ 640) then (match PySem.intText? (St w) with | some n => Rs.ok (PyData.int n) | none => .no) else .no) = _
  rw [st_len, if_pos (decide_eq_true hl), hi, hc]; rfl
end Tf
namespace Tf
open PySem
/-! ### loops and comprehensions that may raise -/
theorem forL_all {α : Type} {g : DG} {b : DS} {i : α → D} {I : En → Prop} {P : α → Bool} {c : EC} {xs : List α}
    (h : ∀ x ∈ xs, ∀ e, I e → ∃ e', g (i x) e = .ok e' ∧ ((P x = true ∧ ∃ e2, b e' = .nx e2 ∧ I e2) ∨ (P x = false ∧ b e' = .ex c))) {e : En} (h0 : I e) :
    (xs.all P = true ∧ ∃ e2, forL g b (xs.map i) e = .nx e2 ∧ I e2) ∨ (xs.all P = false ∧ forL g b (xs.map i) e = .ex c) := by
  induction xs generalizing e with
  | nil => exact .inl ⟨rfl, e, rfl, h0⟩
  | cons x xs ih =>
    obtain ⟨e', h1, h2⟩ := h x (List.mem_cons_self ..) e h0
    rcases h2 with ⟨hp, e2, h2, h3⟩ | ⟨hp, h2⟩
    · have ef : forL g b ((x :: xs).map i) e = forL g b (xs.map i) e2 := by
        rw [List.map_cons]
        conv => lhs; unfold forL
        rw [h1, fl_okk, h2]
      rw [ef, List.all_cons, hp, Bool.true_and]
      exact ih (fun y hy => h y (List.mem_cons_of_mem _ hy)) h3
    · refine .inr ⟨by rw [List.all_cons, hp, Bool.false_and], ?_⟩
      rw [List.map_cons]
      conv => lhs; unfold forL
      rw [h1, fl_okk, h2]
theorem compX_spec {α : Type} {own : List Nat} {g : DG} {a : DE} {e : En} {i F : α → D} {P : α → Bool} {c : EC} {xs : List α}
    (h : ∀ x ∈ xs, ∃ e', g (i x) (wipeE e own) = .ok e' ∧ a e' = if P x then .ok (F x) else .ex c) : compL own g eYes a e (xs.map i) = if xs.all P then .ok (xs.map F) else .ex c := by
  induction xs with
  | nil => rfl
  | cons x xs ih =>
    obtain ⟨e', h1, h2⟩ := h x (List.mem_cons_self ..)
    have ih := ih fun y hy => h y (List.mem_cons_of_mem _ hy)
    rw [List.map_cons]
    unfold compL
    rw [h1, bind_ok]
    show (a e').bind _ = _
    rw [h2, List.all_cons]
    cases P x
    · rfl
    · rw [if_pos rfl, bind_ok, ih, Bool.true_and]
      cases xs.all P <;> rfl
theorem eCompX_spec {α : Type} {own : List Nat} {g : DG} {it : DI} {a : DE} {e : En} {i F : α → D} {P : α → Bool} {c : EC} {xs : List α} (hi : it e = .ok (xs.map i)) (hl : xs.length ≤ 100000)
    (h : ∀ x ∈ xs, ∃ e', g (i x) (wipeE e own) = .ok e' ∧ a e' = if P x then .ok (F x) else .ex c) : eCompX own g it a e = if xs.all P then .ok (.list (xs.map F)) else .ex c := by
  unfold eCompX
  rw [hi, bind_ok, if_pos (by rw [List.length_map]; exact hl), compX_spec h]
  cases xs.all P <;> rfl
/-! ### a word -/
def dueB (w : List Nat) : Bool := !decide (w = []) && decide (w.length ≤ 40) && !(decide (1 < w.length) && decide (w.head? = some 48)) && w.all digB
def numB (w : List Nat) : Bool := dueB w && decide (w.length ≤ 2)
theorem ok1 (c : Nat) (h : c < 128) : Ok 1 [c] := ⟨Nat.le_refl _, fun x hx => by rw [List.mem_singleton.mp hx]; exact h⟩
theorem zero_st : (Str.ofString "0") = St [48] := TL.ext_tl (by decide +kernel)
theorem nil_st : (Str.ofString "") = St [] := TL.ext_tl (by decide +kernel)
theorem nf_w {N : Nat} {w : List Nat} (h : Ok N w) (hN : N ≤ 1000) : d_number_of [.str (St w)] = if numB w then .ok (.int (dv w : Nat)) else .ex .NoNote := by
  have hl := h.len
  have len : ∀ x1 : Option D, e1 oLen (eV 0) [some (.str (St w)), x1] = .ok (.int w.length) := fun x1 => by
    rw [e1_def, eV_zero, bind_ok, oLen_st (by omega)]
  have ch : eCh oLe oLe (eK (.int 1)) (e1 oLen (eV 0)) (eK (.int 2)) [some (.str (St w)), none] = .ok (.bool (decide (1 ≤ w.length) && decide (w.length ≤ 2))) := by
    unfold eCh
    rw [eK_ok, bind_ok, len, bind_ok, oLe_int, bind_ok]
    by_cases q : 1 ≤ w.length
    · rw [decide_eq_true (show (1 : Int) ≤ (w.length : Int) by omega), decide_eq_true q]
      simp only
      rw [eK_ok, bind_ok, oLe_int, Bool.true_and]
      congr 2
      rw [Bool.eq_iff_iff, decide_eq_true_eq, decide_eq_true_eq]; omega
    · rw [decide_eq_false (show ¬ (1 : Int) ≤ (w.length : Int) by omega), decide_eq_false q]; rfl
  have nt : e1 oNot (eCh oLe oLe (eK (.int 1)) (e1 oLen (eV 0)) (eK (.int 2))) [some (.str (St w)), none] = .ok (.bool (!(decide (1 ≤ w.length) && decide (w.length ≤ 2)))) := by
    rw [e1_def, ch, bind_ok, oNot_b]
  by_cases hr : 1 ≤ w.length ∧ w.length ≤ 2
  · obtain ⟨c, r, rfl⟩ : ∃ c r, w = c :: r := by
      cases w with
      | nil => simp at hr
      | cons c r => exact ⟨c, r, rfl⟩
    have hc := h.ch c (List.mem_cons_self ..)
    have i0 : oIx (.str (St (c :: r))) (.int 0) = .ok (.str (St [c])) := oIx_st (a := c :: r) (i := 0) (by omega) rfl
    have z : e2 oEq (e2 oIx (eV 0) (eK (.int 0))) (eK (.str "0")) [some (.str (St (c :: r))), none] = .ok (.bool (decide ([c] = [48]))) := by
      rw [e2_def, e2_def, eV_zero, bind_ok, eK_ok, bind_ok, i0, bind_ok, eK_ok, bind_ok]
      show oEq (.str (St [c])) (.str (Str.ofString "0")) = _
      rw [zero_st]
      exact oEq_st (ok1 c hc) (ok1 48 (by decide))
    have g1 : e2 oGt (e1 oLen (eV 0)) (eK (.int 1)) [some (.str (St (c :: r))), none] = .ok (.bool (decide (1 < (c :: r).length))) := by
      rw [e2_def, len, bind_ok, eK_ok, bind_ok, oGt_int]
      congr 2
      rw [Bool.eq_iff_iff, decide_eq_true_eq, decide_eq_true_eq]; omega
    have tt : eOr (e1 oNot (eCh oLe oLe (eK (.int 1)) (e1 oLen (eV 0)) (eK (.int 2)))) (eAnd (e2 oEq (e2 oIx (eV 0) (eK (.int 0))) (eK (.str "0"))) (e2 oGt (e1 oLen (eV 0)) (eK (.int 1)))) [some (.str (St (c :: r))), none] = .ok (.bool (decide ([c] = [48]) && decide (1 < (c :: r).length))) := by
      rw [eOr_b nt, decide_eq_true hr.1, decide_eq_true hr.2]
      show eAnd _ _ _ = _
      exact eAnd_bb z fun _ => g1
    by_cases q : (decide ([c] = [48]) && decide (1 < (c :: r).length)) = true
    · have nb : numB (c :: r) = false := by
        rw [Bool.and_eq_true, decide_eq_true_eq, decide_eq_true_eq] at q
        obtain ⟨q1, q2⟩ := q
        have q1 : c = 48 := by simpa using q1
        unfold numB dueB
        rw [decide_eq_true q2, q1]; simp
      rw [nb, if_neg Bool.false_ne_true]
      exact runN_ex (show sSeq _ _ _ = _ from sSeq_ex (show sIf _ _ _ [some (.str (St (c :: r))), none] = _ by rw [sIf_b tt, q]; rfl))
    · have q := Bool.not_eq_true _ |>.mp q
      have nq : numB (c :: r) = (c :: r).all digB := by
        have : (decide (1 < (c :: r).length) && decide ((c :: r).head? = some 48)) = false := by
          rw [← q, Bool.and_comm]
          congr 1
          rw [Bool.eq_iff_iff, decide_eq_true_eq, decide_eq_true_eq]; simp
        unfold numB dueB
        rw [this, decide_eq_true hr.2, decide_eq_true (show (c :: r).length ≤ 40 by omega)]
        simp
      have L := forL_all (g := gN 1) (b := sIf (e2 oNiS (eV 1) (eK (.str "0123456789"))) (sRaise .NoNote) sSkip) (i := fun x => .str (St [x])) (xs := c :: r) (P := digB) (c := .NoNote) (I := fun env => ∃ x1, env = [some (.str (St (c :: r))), x1]) (fun x _ env he => by
        obtain ⟨x1, rfl⟩ := he
        refine ⟨[some (.str (St (c :: r))), some (.str (St [x]))], rfl, ?_⟩
        have t : e2 oNiS (eV 1) (eK (.str "0123456789")) [some (.str (St (c :: r))), some (.str (St [x]))] = .ok (.bool (!digB x)) := oNiS_st x
        rw [sIf_b t]
        cases hd : digB x
        · exact .inr ⟨rfl, rfl⟩
        · exact .inl ⟨rfl, _, rfl, _, rfl⟩) (e := [some (.str (St (c :: r))), none]) ⟨_, rfl⟩
      have ef : sFor (gN 1) (iS (eV 0)) (sIf (e2 oNiS (eV 1) (eK (.str "0123456789"))) (sRaise .NoNote) sSkip) [some (.str (St (c :: r))), none] = forL (gN 1) (sIf (e2 oNiS (eV 1) (eK (.str "0123456789"))) (sRaise .NoNote) sSkip) ((c :: r).map fun x => .str (St [x])) [some (.str (St (c :: r))), none] := by
        rw [sFor_def, iS_st (a := c :: r) rfl, fl_okk]
      have pre : ∀ R, sSeq (sFor (gN 1) (iS (eV 0)) (sIf (e2 oNiS (eV 1) (eK (.str "0123456789"))) (sRaise .NoNote) sSkip)) (sRet (e1 oIntS (eV 0))) [some (.str (St (c :: r))), none] = R → b_number_of [some (.str (St (c :: r))), none] = R := fun R hR => by
        show sSeq _ _ _ = _
        exact seq_nx _ (by rw [sIf_b tt, q]; rfl) hR
      rw [nq]
      rcases L with ⟨hp, env2, hL, x1, rfl⟩ | ⟨hp, hL⟩
      · rw [hp, if_pos rfl]
        refine runN_rt (pre _ (seq_nx _ (ef.trans hL) ?_))
        rw [sRet_def, e1_def, eV_zero, bind_ok, oIntS_st (by simp) (by omega) hp]; rfl
      · rw [hp, if_neg Bool.false_ne_true]
        exact runN_ex (pre _ (sSeq_ex (ef.trans hL)))
  · have nb : numB w = false := by
      unfold numB dueB
      cases w with
      | nil => rfl
      | cons c r =>
        have : ¬ (c :: r).length ≤ 2 := fun z => hr ⟨by simp, z⟩
        rw [decide_eq_false this, Bool.and_false]
    rw [nb, if_neg Bool.false_ne_true]
    have tt : eOr (e1 oNot (eCh oLe oLe (eK (.int 1)) (e1 oLen (eV 0)) (eK (.int 2)))) (eAnd (e2 oEq (e2 oIx (eV 0) (eK (.int 0))) (eK (.str "0"))) (e2 oGt (e1 oLen (eV 0)) (eK (.int 1)))) [some (.str (St w)), none] = .ok (.bool true) := by
      rw [eOr_b nt, show (decide (1 ≤ w.length) && decide (w.length ≤ 2)) = false by
        rw [Bool.and_eq_false_iff, decide_eq_false_iff_not, decide_eq_false_iff_not]
        by_cases z : 1 ≤ w.length
        · exact .inr fun y => hr ⟨z, y⟩
        · exact .inl z]
      rfl
    exact runN_ex (show sSeq _ _ _ = _ from sSeq_ex (show sIf _ _ _ [some (.str (St w)), none] = _ by rw [sIf_b tt]; rfl))
/-! ### read -/
def rowN (l : List Nat) : List Int := (cut 32 l).map fun w => ((dv w : Nat) : Int)
def rowsN (a : List Nat) : List (List Int) := (cut 47 a).map rowN
theorem gsp {N c : Nat} {a : List Nat} (h : Ok N a) (hN : N ≤ 1000) (hc : c < 256) : gSplit (St a) (.str (St [c])) = .ok (.list ((cut c a).map fun w => .str (St w))) := by
  have := h.len
  rw [gSplit_ok (by rw [st_len]; omega) (by rw [st_len]; rfl), split_st hc, List.map_map]; rfl
theorem split_env {N c : Nat} {a : List Nat} {x y : DE} {e : En} (h : Ok N a) (hN : N ≤ 1000) (hc : c < 256) (hx : x e = .ok (.str (St a))) (hy : y e = .ok (.str (St [c]))) : iL (eSplit x y) e = .ok ((cut c a).map fun w => .str (St w)) := by
  rw [iL_def]
  unfold eSplit
  rw [hx, bind_ok]
  simp only
  rw [hy, bind_ok, gsp h hN hc]; rfl
theorem d_readX_st {N : Nat} {a : List Nat} (h : Ok N a) (hN : N ≤ 1000) : d_readX [.str (St a)] = if ((cut 47 a).all fun l => (cut 32 l).all numB) && isT (rowsN a) then .ok (it (rowsN a)) else .ex .NoNote := by
  obtain ⟨_, hl, hw⟩ := h.cut 47
  have q : eCompX [2] (gN 2) (iL (eSplit (eV 0) (eK (.str "/")))) (eCompX [3] (gN 3) (iL (eSplit (eV 2) (eK (.str " ")))) (eCall d_number_of [(eV 3)])) [some (.str (St a)), none, none, none] = if (cut 47 a).all (fun l => (cut 32 l).all numB) then .ok (it (rowsN a)) else .ex .NoNote := by
    rw [eCompX_spec (xs := cut 47 a) (i := fun l => .str (St l)) (F := fun l => il (rowN l)) (P := fun l => (cut 32 l).all numB) (c := .NoNote) (split_env h hN (by decide) rfl (by rw [eK_ok]; exact congrArg (fun x => Rs.ok (PyData.str x)) sl_st)) (by omega)]
    · unfold rowsN it; rw [List.map_map]; rfl
    · intro l hlm
      obtain ⟨_, hl2, hw2⟩ := (hw l hlm).cut 32
      refine ⟨[some (.str (St a)), none, some (.str (St l)), none], rfl, ?_⟩
      rw [eCompX_spec (xs := cut 32 l) (i := fun w => .str (St w)) (F := fun w => .int (dv w : Nat)) (P := numB) (c := .NoNote) (split_env (hw l hlm) hN (by decide) rfl (by rw [eK_ok]; exact congrArg (fun x => Rs.ok (PyData.str x)) sp_st)) (by omega)]
      · unfold rowN il; rw [List.map_map]; rfl
      · intro w hwm
        refine ⟨[some (.str (St a)), none, some (.str (St l)), some (.str (St w))], rfl, ?_⟩
        show d_number_of [.str (St w)] = _
        exact nf_w (hw2 w hwm) hN
  cases hA : (cut 47 a).all fun l => (cut 32 l).all numB
  · rw [hA] at q
    rw [Bool.false_and, if_neg Bool.false_ne_true]
    exact runN_ex (show sSeq _ _ [some (.str (St a)), none, none, none] = _ from sSeq_ex (by rw [sAsg_def, q]; rfl))
  · rw [hA] at q
    have pre : ∀ R, sSeq (sIf (e1 oNot (eCall d_is_table [(eV 1)])) (sRaise .NoNote) sSkip) (sRet (eV 1)) [some (.str (St a)), some (it (rowsN a)), none, none] = R → b_readX [some (.str (St a)), none, none, none] = R := fun R hR => by
      show sSeq _ _ _ = _
      exact seq_nx [some (.str (St a)), some (it (rowsN a)), none, none] (by rw [sAsg_def, q]; rfl) hR
    have tt : e1 oNot (eCall d_is_table [(eV 1)]) [some (.str (St a)), some (it (rowsN a)), none, none] = .ok (.bool (!isT (rowsN a))) := by simp [d_is_table_eq]
    rw [Bool.true_and]
    cases hT : isT (rowsN a)
    · rw [hT] at tt
      rw [if_neg Bool.false_ne_true]
      exact runN_ex (pre _ (sSeq_ex (show sIf _ _ _ _ = _ by rw [sIf_b tt]; rfl)))
    · rw [hT] at tt
      rw [if_pos rfl]
      exact runN_rt (pre _ (seq_nx _ (by rw [sIf_b tt]; rfl) rfl))
end Tf
namespace Tf
open PySem
theorem forL_good {α : Type} {g : DG} {b : DS} {i : α → D} {I : List α → En → Prop} {P : α → Bool} {d : D} {xs : List α}
    (h : ∀ pre x post, xs = pre ++ x :: post → ∀ e, I pre e → ∃ e', g (i x) e = .ok e' ∧ ((P x = true ∧ ∃ e2, b e' = .nx e2 ∧ I (pre ++ [x]) e2) ∨ (P x = false ∧ b e' = .rt d))) :
    ∀ (ys pre : List α), xs = pre ++ ys → ∀ e, I pre e → (ys.all P = true ∧ ∃ e2, forL g b (ys.map i) e = .nx e2 ∧ I xs e2) ∨ (ys.all P = false ∧ forL g b (ys.map i) e = .rt d)
  | [], pre, hx, e, h0 => by
    rw [List.append_nil] at hx
    exact .inl ⟨rfl, e, rfl, by rw [hx]; exact h0⟩
  | y :: ys, pre, hx, e, h0 => by
    obtain ⟨e', h1, h2⟩ := h pre y ys hx e h0
    rcases h2 with ⟨hp, e2, h2, h3⟩ | ⟨hp, h2⟩
    · have ef : forL g b ((y :: ys).map i) e = forL g b (ys.map i) e2 := by
        rw [List.map_cons]
        conv => lhs; unfold forL
        rw [h1, fl_okk, h2]
      rw [ef, List.all_cons, hp, Bool.true_and]
      exact forL_good h ys (pre ++ [y]) (by rw [hx]; simp) e2 h3
    · refine .inr ⟨by rw [List.all_cons, hp, Bool.false_and], ?_⟩
      rw [List.map_cons]
      conv => lhs; unfold forL
      rw [h1, fl_okk, h2]
def wB : DS := (sSeq (sIf (eOr (e2 oEq (eV 4) (eK (.str ""))) (eOr (e2 oGt (e1 oLen (eV 4)) (eK (.int 40))) (eAnd (e2 oGt (e1 oLen (eV 4)) (eK (.int 1))) (e2 oEq (e2 oIx (eV 4) (eK (.int 0))) (eK (.str "0")))))) (sRet (eK .none)) sSkip) (sSeq (sIf (e2 oGt (e1 oLen (eComp [6] (gN 6) (iS (eV 4)) (e2 oLt (eFind (eK (.str "0123456789")) (eV 6)) (eK (.int 0))) (eV 6))) (eK (.int 0))) (sRet (eK .none)) sSkip) (sChg 3 cApp [(e1 oIntS (eV 4))])))
theorem wB_ok {N : Nat} {w : List Nat} (h : Ok N w) (hN : N ≤ 1000) (s0 s1 s2 x6 : Option D) {xs : List Int} (hx : xs.length ≤ 10000) :
    (dueB w = true ∧ wB [s0, s1, s2, some (il xs), some (.str (St w)), none, x6] = .nx [s0, s1, s2, some (il (xs ++ [((dv w : Nat) : Int)])), some (.str (St w)), none, x6]) ∨ (dueB w = false ∧ wB [s0, s1, s2, some (il xs), some (.str (St w)), none, x6] = .rt .none) := by
  have hl := h.len
  generalize hE : ([s0, s1, s2, some (il xs), some (.str (St w)), none, x6] : En) = env
  have v4 : eV 4 env = .ok (.str (St w)) := by rw [← hE]; rfl
  have len : e1 oLen (eV 4) env = .ok (.int w.length) := by rw [e1_def, v4, bind_ok, oLen_st (by omega)]
  have t1 : eOr (e2 oEq (eV 4) (eK (.str ""))) (eOr (e2 oGt (e1 oLen (eV 4)) (eK (.int 40))) (eAnd (e2 oGt (e1 oLen (eV 4)) (eK (.int 1))) (e2 oEq (e2 oIx (eV 4) (eK (.int 0))) (eK (.str "0"))))) env = .ok (.bool (decide (w = []) || (decide (40 < w.length) || (decide (1 < w.length) && decide (w.head? = some 48))))) := by
    refine eOr_bb ?_ fun _ => eOr_bb ?_ fun _ => eAnd_bb ?_ fun hk => ?_
    · rw [e2_def, v4, bind_ok, eK_ok, bind_ok]
      show oEq (.str (St w)) (.str (Str.ofString "")) = _
      rw [nil_st]
      exact oEq_st h (b := []) (M := 0) ⟨Nat.le_refl _, fun x hx => nomatch hx⟩
    · rw [e2_def, len, bind_ok, eK_ok, bind_ok, oGt_int]
      congr 2
      rw [Bool.eq_iff_iff, decide_eq_true_eq, decide_eq_true_eq]; omega
    · rw [e2_def, len, bind_ok, eK_ok, bind_ok, oGt_int]
      congr 2
      rw [Bool.eq_iff_iff, decide_eq_true_eq, decide_eq_true_eq]; omega
    · have hk := of_decide_eq_true hk
      obtain ⟨c, r, hw⟩ : ∃ c r, w = c :: r := by
        cases hq : w with
        | nil => rw [hq] at hk; simp at hk
        | cons c r => exact ⟨c, r, rfl⟩
      have hc := h.ch c (by rw [hw]; exact List.mem_cons_self ..)
      have i0 : oIx (.str (St w)) (.int 0) = .ok (.str (St [c])) := oIx_st (a := w) (i := 0) (by omega) (by rw [hw]; rfl)
      rw [e2_def, e2_def, v4, bind_ok, eK_ok, bind_ok, i0, bind_ok, eK_ok, bind_ok]
      show oEq (.str (St [c])) (.str (Str.ofString "0")) = _
      rw [zero_st, oEq_st (ok1 c hc) (ok1 48 (by decide)), hw]
      congr 2
      rw [Bool.eq_iff_iff, decide_eq_true_eq, decide_eq_true_eq]; simp
  have q : eComp [6] (gN 6) (iS (eV 4)) (e2 oLt (eFind (eK (.str "0123456789")) (eV 6)) (eK (.int 0))) (eV 6) env = .ok (.list ((w.filter fun c => !digB c).map fun c => .str (St [c]))) := by
    rw [eComp_map (xs := w) (i := fun c => .str (St [c])) (P := fun c => !digB c) (F := fun c => .str (St [c])) (iS_st v4) (by omega)]
    intro c _
    refine ⟨[s0, s1, s2, some (il xs), some (.str (St w)), none, some (.str (St [c]))], by rw [← hE]; rfl, ?_, fun _ => rfl⟩
    show ((Rs.ok (PyData.int (Txt.find (Str.ofString "0123456789") (St [c])))).bind fun x => (Rs.ok (PyData.int 0)).bind fun y => oLt x y) = _
    rw [figs_st, bind_ok, bind_ok, oLt_int]
    congr 2
    rw [Bool.eq_iff_iff, decide_eq_true_eq, find_st, Bool.not_eq_true']
  have t2 : e2 oGt (e1 oLen (eComp [6] (gN 6) (iS (eV 4)) (e2 oLt (eFind (eK (.str "0123456789")) (eV 6)) (eK (.int 0))) (eV 6))) (eK (.int 0)) env = .ok (.bool (!(w.all digB))) := by
    rw [e2_def, e1_def, q, bind_ok, oLen_list, bind_ok, eK_ok, bind_ok, oGt_int, List.length_map]
    congr 2
    rw [Bool.eq_iff_iff, decide_eq_true_eq, Bool.not_eq_true', List.all_eq_false]
    constructor
    · intro z
      obtain ⟨c, hc⟩ := List.exists_mem_of_length_pos (l := w.filter fun c => !digB c) (by omega)
      obtain ⟨h1, h2⟩ := List.mem_filter.mp hc
      exact ⟨c, h1, by simpa using h2⟩
    · rintro ⟨c, h1, h2⟩
      have := List.length_pos_of_mem (l := w.filter fun c => !digB c) (List.mem_filter.mpr ⟨h1, (by simpa using h2 : (!digB c) = true)⟩)
      omega
  unfold wB
  cases hT : (decide (w = []) || (decide (40 < w.length) || (decide (1 < w.length) && decide (w.head? = some 48))))
  · rw [hT] at t1
    rw [Bool.or_eq_false_iff, Bool.or_eq_false_iff, decide_eq_false_iff_not, decide_eq_false_iff_not] at hT
    obtain ⟨n1, n2, n3⟩ := hT
    have ed : dueB w = w.all digB := by
      unfold dueB
      rw [n3, decide_eq_false n1, decide_eq_true (show w.length ≤ 40 by omega)]; rfl
    rw [ed]
    cases hA : w.all digB
    · rw [hA] at t2
      exact .inr ⟨rfl, seq_nx _ (by rw [sIf_b t1]; rfl) (sSeq_rt (by rw [sIf_b t2]; rfl))⟩
    · rw [hA] at t2
      refine .inl ⟨rfl, seq_nx _ (by rw [sIf_b t1]; rfl) (seq_nx _ (by rw [sIf_b t2]; rfl) ?_)⟩
      rw [← hE]
      rw [sChg_ok (j := 3) (xs := xs.map .int) (ds := [.int ((dv w : Nat) : Int)]) (ys := (xs ++ [((dv w : Nat) : Int)]).map .int) rfl ?_ ?_]
      · rfl
      · rw [hE, eL_cons, eL_nil, e1_def, v4, bind_ok, oIntS_st n1 (by omega) hA]; rfl
      · rw [cApp_ok (by rw [List.length_map]; omega), List.map_append]; rfl
  · rw [hT] at t1
    refine .inr ⟨?_, sSeq_rt (by rw [sIf_b t1]; rfl)⟩
    rw [Bool.or_eq_true, Bool.or_eq_true, decide_eq_true_eq, decide_eq_true_eq] at hT
    unfold dueB
    rcases hT with z | z | z
    · rw [decide_eq_true z]; rfl
    · rw [decide_eq_false (show ¬ w.length ≤ 40 by omega)]; simp
    · rw [z]; simp
def lB : DS := (sSeq (sAsg (gN 3) (eLst [])) (sSeq (sFor (gN 4) (iL (eSplit (eV 2) (eK (.str " ")))) wB) (sChg 1 cApp [(eV 3)])))
theorem lB_ok {N : Nat} {l : List Nat} (h : Ok N l) (hN : N ≤ 1000) (s0 x3 x4 x6 : Option D) {rows : List (List Int)} (hr : rows.length ≤ 10000) :
    ((cut 32 l).all dueB = true ∧ ∃ x4', lB [s0, some (it rows), some (.str (St l)), x3, x4, none, x6] = .nx [s0, some (it (rows ++ [rowN l])), some (.str (St l)), some (il (rowN l)), x4', none, x6]) ∨ ((cut 32 l).all dueB = false ∧ lB [s0, some (it rows), some (.str (St l)), x3, x4, none, x6] = .rt .none) := by
  obtain ⟨_, hl2, hw2⟩ := h.cut 32
  have L := forL_good (g := gN 4) (b := wB) (i := fun w => .str (St w)) (xs := cut 32 l) (P := dueB) (d := .none) (I := fun pre env => ∃ x4, env = [s0, some (it rows), some (.str (St l)), some (il (pre.map fun w => ((dv w : Nat) : Int))), x4, none, x6]) (fun pre w post hx env he => by
    obtain ⟨x4, rfl⟩ := he
    have hpl : pre.length ≤ 1001 := by
      have := congrArg List.length hx
      rw [List.length_append, List.length_cons] at this
      omega
    refine ⟨[s0, some (it rows), some (.str (St l)), some (il (pre.map fun w => ((dv w : Nat) : Int))), some (.str (St w)), none, x6], rfl, ?_⟩
    rcases wB_ok (hw2 w (by rw [hx]; simp)) hN s0 (some (it rows)) (some (.str (St l))) x6 (xs := pre.map fun w => ((dv w : Nat) : Int)) (by rw [List.length_map]; omega) with ⟨h1, h2⟩ | ⟨h1, h2⟩
    · exact .inl ⟨h1, _, h2, _, by rw [List.map_append]; rfl⟩
    · exact .inr ⟨h1, h2⟩) (cut 32 l) [] rfl [s0, some (it rows), some (.str (St l)), some (il []), x4, none, x6] ⟨x4, rfl⟩
  have ef : sFor (gN 4) (iL (eSplit (eV 2) (eK (.str " ")))) wB [s0, some (it rows), some (.str (St l)), some (il []), x4, none, x6] = forL (gN 4) wB ((cut 32 l).map fun w => .str (St w)) [s0, some (it rows), some (.str (St l)), some (il []), x4, none, x6] := by
    rw [sFor_def, split_env (a := l) (c := 32) h hN (by decide) rfl (by rw [eK_ok]; exact congrArg (fun x => Rs.ok (PyData.str x)) sp_st), fl_okk]
  unfold lB
  rcases L with ⟨h1, e2, h2, x4', rfl⟩ | ⟨h1, h2⟩
  · refine .inl ⟨h1, x4', seq_nx [s0, some (it rows), some (.str (St l)), some (il []), x4, none, x6] rfl (seq_nx _ (ef.trans h2) ?_)⟩
    rw [sChg_ok (j := 1) (xs := rows.map il) (ds := [il (rowN l)]) (ys := (rows ++ [rowN l]).map il) rfl rfl ?_]
    · rfl
    · rw [cApp_ok (by rw [List.length_map]; omega), List.map_append]; rfl
  · exact .inr ⟨h1, seq_nx [s0, some (it rows), some (.str (St l)), some (il []), x4, none, x6] rfl (sSeq_rt (ef.trans h2))⟩
def okR (s : Nat) (row : List Int) : Bool := decide (row.length = s) && row.all fun x => decide (x < s)
def AD (a : List Nat) : Bool := (cut 47 a).all fun l => (cut 32 l).all dueB
theorem rowN_ne (l : List Nat) : rowN l ≠ [] := fun z => (spl_ok 32 l []).1 (List.map_eq_nil_iff.mp z)
theorem isT_due (a : List Nat) : isT (rowsN a) = (decide ((rowsN a).length ≤ 12) && (rowsN a).all (okR (rowsN a).length)) := by
  have h1 : 1 ≤ (rowsN a).length := by
    unfold rowsN
    rw [List.length_map]
    exact List.length_pos_iff.mpr (spl_ok 47 a []).1
  unfold isT
  rw [decide_eq_true h1, Bool.true_and]
  congr 1
  rw [Bool.eq_iff_iff, List.all_eq_true, List.all_eq_true]
  refine forall_congr' fun r => forall_congr' fun hr => ?_
  obtain ⟨l, _, rfl⟩ := List.mem_map.mp hr
  unfold okRow okR
  rw [Bool.and_eq_true, Bool.and_eq_true, List.all_eq_true, List.all_eq_true]
  refine and_congr_right fun _ => forall_congr' fun x => forall_congr' fun hx => ?_
  obtain ⟨w, _, rfl⟩ := List.mem_map.mp hx
  rw [Bool.and_eq_true, decide_eq_true_eq, decide_eq_true_eq]
  constructor
  · exact fun h => h.2
  · exact fun h => ⟨by omega, h⟩
theorem d_due_st {N : Nat} {a : List Nat} (h : Ok N a) (hN : N ≤ 1000) : d__law_due [.str (St a)] = .ok (if AD a && isT (rowsN a) then it (rowsN a) else .none) := by
  obtain ⟨_, hl, hw⟩ := h.cut 47
  apply runN_rt
  show sSeq _ _ [some (.str (St a)), none, none, none, none, none, none] = _
  refine seq_nx [some (.str (St a)), some (it []), none, none, none, none, none] rfl ?_
  have L := forL_good (g := gN 2) (b := lB) (i := fun l => .str (St l)) (xs := cut 47 a) (P := fun l => (cut 32 l).all dueB) (d := .none) (I := fun pre env => ∃ x2 x3 x4, env = [some (.str (St a)), some (it (pre.map rowN)), x2, x3, x4, none, none]) (fun pre l post hx env he => by
    obtain ⟨x2, x3, x4, rfl⟩ := he
    have hpl : pre.length ≤ 1001 := by
      have := congrArg List.length hx
      rw [List.length_append, List.length_cons] at this
      omega
    refine ⟨[some (.str (St a)), some (it (pre.map rowN)), some (.str (St l)), x3, x4, none, none], rfl, ?_⟩
    rcases lB_ok (hw l (by rw [hx]; simp)) hN (some (.str (St a))) x3 x4 none (rows := pre.map rowN) (by rw [List.length_map]; omega) with ⟨h1, x4', h2⟩ | ⟨h1, h2⟩
    · exact .inl ⟨h1, _, h2, _, _, _, by rw [List.map_append]; rfl⟩
    · exact .inr ⟨h1, h2⟩) (cut 47 a) [] rfl [some (.str (St a)), some (it []), none, none, none, none, none] ⟨none, none, none, rfl⟩
  have ef : sFor (gN 2) (iL (eSplit (eV 0) (eK (.str "/")))) lB [some (.str (St a)), some (it []), none, none, none, none, none] = forL (gN 2) lB ((cut 47 a).map fun w => .str (St w)) [some (.str (St a)), some (it []), none, none, none, none, none] := by
    rw [sFor_def, split_env (a := a) (c := 47) h hN (by decide) rfl (by rw [eK_ok]; exact congrArg (fun x => Rs.ok (PyData.str x)) sl_st), fl_okk]
  show sSeq (sFor (gN 2) (iL (eSplit (eV 0) (eK (.str "/")))) lB) _ _ = _
  rcases L with ⟨h1, env2, h2, x2, x3, x4, rfl⟩ | ⟨h1, h2⟩
  · have hAD : AD a = true := h1
    rw [hAD, Bool.true_and, isT_due]
    refine seq_nx _ (ef.trans h2) ?_
    show sSeq _ _ [some (.str (St a)), some (it (rowsN a)), x2, x3, x4, none, none] = _
    refine seq_nx [some (.str (St a)), some (it (rowsN a)), x2, x3, x4, some (.int (rowsN a).length), none] (by simp) ?_
    have L2 := forL_good (g := gN 3) (b := sIf (eOr (e2 oNe (e1 oLen (eV 3)) (eV 5)) (e2 oGe (e1 oMax (eV 3)) (eV 5))) (sRet (eK .none)) sSkip) (i := il) (xs := rowsN a) (P := okR (rowsN a).length) (d := .none) (I := fun _ env => ∃ x3, env = [some (.str (St a)), some (it (rowsN a)), x2, x3, x4, some (.int (rowsN a).length), none]) (fun pre row post hx env he => by
      obtain ⟨x3, rfl⟩ := he
      refine ⟨[some (.str (St a)), some (it (rowsN a)), x2, some (il row), x4, some (.int (rowsN a).length), none], rfl, ?_⟩
      obtain ⟨l, _, hlr⟩ := List.mem_map.mp (show row ∈ rowsN a by rw [hx]; simp)
      obtain ⟨y, ys, hy⟩ : ∃ y ys, row = y :: ys := by
        cases hq : row with
        | nil => exact absurd (hlr.trans hq) (rowN_ne l)
        | cons y ys => exact ⟨y, ys, rfl⟩
      have c1 : e2 oNe (e1 oLen (eV 3)) (eV 5) [some (.str (St a)), some (it (rowsN a)), x2, some (il row), x4, some (.int (rowsN a).length), none] = .ok (.bool (!decide (row.length = (rowsN a).length))) := by
        rw [e2_def, e1_def, show eV 3 [some (.str (St a)), some (it (rowsN a)), x2, some (il row), x4, some (.int (rowsN a).length), none] = .ok (il row) from rfl, bind_ok, oLen_il, bind_ok]
        show oNe (.int row.length) (.int (rowsN a).length) = _
        rw [oNe_int]; simp only [Int.ofNat_inj]
      have c2 : e2 oGe (e1 oMax (eV 3)) (eV 5) [some (.str (St a)), some (it (rowsN a)), x2, some (il row), x4, some (.int (rowsN a).length), none] = .ok (.bool (decide (((rowsN a).length : Int) ≤ ys.foldl max y))) := by
        rw [e2_def, e1_def, show eV 3 [some (.str (St a)), some (it (rowsN a)), x2, some (il row), x4, some (.int (rowsN a).length), none] = .ok (il row) from rfl, bind_ok, hy, oMax_il, bind_ok]
        show oGe (.int _) (.int (rowsN a).length) = _
        rw [oGe_int]
      have tt := eOr_bb c1 fun _ => c2
      have ep : okR (rowsN a).length row = !(!decide (row.length = (rowsN a).length) || decide (((rowsN a).length : Int) ≤ ys.foldl max y)) := by
        unfold okR
        rw [Bool.not_or, Bool.not_not]
        congr 1
        rw [Bool.eq_iff_iff, List.all_eq_true, Bool.not_eq_true', decide_eq_false_iff_not, foldl_max_le, hy]
        constructor
        · intro z q
          rcases q with q | ⟨x, hx, q⟩
          · have := of_decide_eq_true (z y (List.mem_cons_self ..)); omega
          · have := of_decide_eq_true (z x (List.mem_cons_of_mem _ hx)); omega
        · intro z x hx
          apply decide_eq_true
          rcases List.mem_cons.mp hx with w | w
          · rw [w]
            by_cases q : ((rowsN a).length : Int) ≤ y
            · exact absurd (.inl q) z
            · omega
          · by_cases q : ((rowsN a).length : Int) ≤ x
            · exact absurd (.inr ⟨x, w, q⟩) z
            · omega
      rw [sIf_b tt, ep]
      cases (!decide (row.length = (rowsN a).length) || decide (((rowsN a).length : Int) ≤ ys.foldl max y))
      · exact .inl ⟨rfl, _, rfl, _, rfl⟩
      · exact .inr ⟨rfl, rfl⟩) (rowsN a) [] rfl [some (.str (St a)), some (it (rowsN a)), x2, x3, x4, some (.int (rowsN a).length), none] ⟨x3, rfl⟩
    have ef2 : sFor (gN 3) (iL (eV 1)) (sIf (eOr (e2 oNe (e1 oLen (eV 3)) (eV 5)) (e2 oGe (e1 oMax (eV 3)) (eV 5))) (sRet (eK .none)) sSkip) [some (.str (St a)), some (it (rowsN a)), x2, x3, x4, some (.int (rowsN a).length), none] = forL (gN 3) (sIf (eOr (e2 oNe (e1 oLen (eV 3)) (eV 5)) (e2 oGe (e1 oMax (eV 3)) (eV 5))) (sRet (eK .none)) sSkip) ((rowsN a).map il) [some (.str (St a)), some (it (rowsN a)), x2, x3, x4, some (.int (rowsN a).length), none] := rfl
    rcases L2 with ⟨q1, env3, q2, x3', rfl⟩ | ⟨q1, q2⟩
    · rw [q1, Bool.and_true]
      refine seq_nx _ (ef2.trans q2) ?_
      have tt : e2 oGt (eV 5) (eK (.int 12)) [some (.str (St a)), some (it (rowsN a)), x2, x3', x4, some (.int (rowsN a).length), none] = .ok (.bool (!decide ((rowsN a).length ≤ 12))) := by
        show oGt (.int (rowsN a).length) (.int 12) = _
        rw [oGt_int]
        congr 2
        rw [Bool.eq_iff_iff, decide_eq_true_eq, Bool.not_eq_true', decide_eq_false_iff_not]; omega
      cases hs : decide ((rowsN a).length ≤ 12)
      · rw [hs] at tt
        exact sSeq_rt (by rw [sIf_b tt]; rfl)
      · rw [hs] at tt
        exact seq_nx _ (by rw [sIf_b tt]; rfl) rfl
    · rw [q1, Bool.and_false]
      exact sSeq_rt (ef2.trans q2)
  · have hAD : AD a = false := h1
    rw [hAD]
    exact sSeq_rt (ef.trans h2)
/-- what is read by words is read by the law alike -/
theorem same_read (a : List Nat) : (((cut 47 a).all fun l => (cut 32 l).all numB) && isT (rowsN a)) = (AD a && isT (rowsN a)) := by
  cases hT : isT (rowsN a)
  · rw [Bool.and_false, Bool.and_false]
  · rw [Bool.and_true, Bool.and_true]
    rw [isT_due, Bool.and_eq_true, decide_eq_true_eq, List.all_eq_true] at hT
    obtain ⟨h12, hR⟩ := hT
    unfold AD
    rw [Bool.eq_iff_iff, List.all_eq_true, List.all_eq_true]
    refine forall_congr' fun l => forall_congr' fun hl => ?_
    rw [List.all_eq_true, List.all_eq_true]
    refine forall_congr' fun w => forall_congr' fun hw => ?_
    unfold numB
    rw [Bool.and_eq_true, decide_eq_true_eq]
    refine ⟨fun h => h.1, fun h => ⟨h, ?_⟩⟩
    apply Classical.byContradiction
    intro h3
    have hr := hR (rowN l) (List.mem_map.mpr ⟨l, hl, rfl⟩)
    unfold okR at hr
    rw [Bool.and_eq_true, List.all_eq_true] at hr
    have hx := of_decide_eq_true (hr.2 ((dv w : Nat) : Int) (List.mem_map.mpr ⟨w, hw, rfl⟩))
    unfold dueB at h
    rw [Bool.and_eq_true, Bool.and_eq_true, Bool.and_eq_true] at h
    have h0 : w.head? ≠ some 48 := fun z => by
      have := h.1.2
      rw [decide_eq_true z, decide_eq_true (show 1 < w.length by omega)] at this
      cases this
    have := dv_big (show 3 ≤ w.length by omega) h.2 h0
    omega
end Tf
namespace Tf
open PySem
namespace K14
theorem cut_head (a : List Nat) (k : Nat) : L2.cutS (St a) none (some ((k : Nat) : Int)) = St (a.take k) := by
  unfold L2.cutS
  rw [HT.sIx_nat]
  show (⟨(((St a).cps.toList.drop 0).take (min k (St a).length - 0)).toArray⟩ : Str) = _
  rw [st_len, show (St a).cps.toList = a from st_tl a, List.drop_zero, Nat.sub_zero]
  unfold St
  by_cases h : k ≤ a.length
  · rw [Nat.min_eq_left h]
  · rw [Nat.min_eq_right (by omega), List.take_of_length_le (Nat.le_refl _), List.take_of_length_le (by omega)]
theorem cut_tail (a : List Nat) (k : Nat) : L2.cutS (St a) (some ((k : Nat) : Int)) none = St (a.drop k) := by
  unfold L2.cutS
  rw [HT.sIx_nat]
  show (⟨(((St a).cps.toList.drop (min k (St a).length)).take ((St a).length - min k (St a).length)).toArray⟩ : Str) = _
  rw [st_len, show (St a).cps.toList = a from st_tl a]
  unfold St
  by_cases h : k ≤ a.length
  · rw [Nat.min_eq_left h, List.take_of_length_le (by rw [List.length_drop]; exact Nat.le_refl _)]
  · rw [Nat.min_eq_right (by omega), List.drop_of_length_le (Nat.le_refl _), List.drop_of_length_le (show a.length ≤ k by omega)]; simp
theorem gS_head {a : List Nat} (h : a.length ≤ 100000) (k : Nat) : gSlS (.str (St a)) none (some ((k : Nat) : Int)) = .ok (.str (St (a.take k))) := by
  show (if lim (St a).length then Rs.ok (PyData.str (L2.cutS (St a) none (some ((k : Nat) : Int)))) else .no) = _
  rw [st_len, if_pos (show lim a.length = true from decide_eq_true h), cut_head]
theorem gS_tail {a : List Nat} (h : a.length ≤ 100000) (k : Nat) : gSlS (.str (St a)) (some ((k : Nat) : Int)) none = .ok (.str (St (a.drop k))) := by
  show (if lim (St a).length then Rs.ok (PyData.str (L2.cutS (St a) (some ((k : Nat) : Int)) none)) else .no) = _
  rw [st_len, if_pos (show lim a.length = true from decide_eq_true h), cut_tail]
theorem addS {a b : List Nat} (h : a.length + b.length ≤ 100000) : oAddS (.str (St a)) (.str (St b)) = .ok (.str (St (a ++ b))) := by
  show (if lim ((St a).length + (St b).length) then Rs.ok (PyData.str (St a ++ St b)) else .no) = _
  rw [st_len, st_len, if_pos (show lim (a.length + b.length) = true from decide_eq_true h)]
  congr 2
  exact TL.ext_tl (by rw [TL.tl_append, st_tl, st_tl, st_tl])
theorem Ok.app {N M : Nat} {a b : List Nat} (ha : Ok N a) (hb : Ok M b) : Ok (N + M) (a ++ b) := ⟨by rw [List.length_append]; have := ha.len; have := hb.len; omega, fun x hx => (List.mem_append.mp hx).elim (ha.ch x) (hb.ch x)⟩
theorem Ok.mono {N M : Nat} {a : List Nat} (ha : Ok N a) (h : N ≤ M) : Ok M a := ⟨Nat.le_trans ha.len h, ha.ch⟩
theorem Ok.take {N : Nat} {a : List Nat} (ha : Ok N a) (k : Nat) : Ok N (a.take k) := ⟨by rw [List.length_take]; have := ha.len; omega, fun x hx => ha.ch x (List.mem_of_mem_take hx)⟩
theorem Ok.drop {N : Nat} {a : List Nat} (ha : Ok N a) (k : Nat) : Ok N (a.drop k) := ⟨by rw [List.length_drop]; have := ha.len; omega, fun x hx => ha.ch x (List.mem_of_mem_drop hx)⟩
def okC (N : Nat) (a : List Nat) : Bool := decide (a.length ≤ N) && a.all fun x => decide (x < 128)
theorem ok_of {N : Nat} {a : List Nat} (h : okC N a = true) : Ok N a := by
  unfold okC at h
  rw [Bool.and_eq_true, decide_eq_true_eq, List.all_eq_true] at h
  exact ⟨h.1, fun x hx => of_decide_eq_true (h.2 x hx)⟩
def signs : List Nat := [32, 48, 49, 50, 57, 45, 43, 95, 46, 9, 10, 97, 44, 47, 51, 56]
def signD : D := .list (signs.map fun c => .str (St [c]))
def row13 : List Nat := (List.replicate 12 [48, 32]).flatten ++ [48]
def bigL : List Nat := (List.replicate 12 (row13 ++ [47])).flatten ++ row13
def odds1 : List (List Nat) := [[], [32], [48], [49], [48, 48], [48, 32, 49, 47, 49, 32, 48], [48, 32, 49, 47, 49, 32, 48, 47], [47, 48], [48, 32, 49, 47, 49, 32, 32, 48], [48, 32, 49, 32, 47, 49, 32, 48], [48, 32, 49, 47, 49, 32, 50], [48, 32, 49, 47, 49], [48, 49, 32, 49, 47, 49, 32, 48]]
def odds2 : List (List Nat) := [[48, 32, 49, 47, 49, 95, 48, 32, 48], [43, 48], [48, 10], [48, 32, 49, 9, 49, 32, 48], bigL, [45, 48], [48, 32, 49, 47, 49, 32, 48, 48]]
def oddD (o : List (List Nat)) : D := .list (o.map fun a => .str (St a))
theorem odds_ok : ((odds1 ++ odds2).all (okC 400)) = true := by decide +kernel
theorem signs_ok : (signs.all fun c => decide (c < 128)) = true := by decide +kernel
theorem sg_lst (e : En) : eLst [(eK (.str " ")), (eK (.str "0")), (eK (.str "1")), (eK (.str "2")), (eK (.str "9")), (eK (.str "-")), (eK (.str "+")), (eK (.str "_")), (eK (.str ".")), (eK (.str "\t")), (eK (.str "\n")), (eK (.str "a")), (eK (.str ",")), (eK (.str "/")), (eK (.str "3")), (eK (.str "8"))] e = .ok signD := by
  show Rs.ok (PyData.list [.str " ", .str "0", .str "1", .str "2", .str "9", .str "-", .str "+", .str "_", .str ".", .str "\t", .str "\n", .str "a", .str ",", .str "/", .str "3", .str "8"]) = _
  kernel_rfl
theorem od1_lst (e : En) : eLst [(eK (.str "")), (eK (.str " ")), (eK (.str "0")), (eK (.str "1")), (eK (.str "00")), (eK (.str "0 1/1 0")), (eK (.str "0 1/1 0/")), (eK (.str "/0")), (eK (.str "0 1/1  0")), (eK (.str "0 1 /1 0")), (eK (.str "0 1/1 2")), (eK (.str "0 1/1")), (eK (.str "01 1/1 0"))] e = .ok (oddD odds1) := by
  show Rs.ok (PyData.list [.str "", .str " ", .str "0", .str "1", .str "00", .str "0 1/1 0", .str "0 1/1 0/", .str "/0", .str "0 1/1  0", .str "0 1 /1 0", .str "0 1/1 2", .str "0 1/1", .str "01 1/1 0"]) = _
  kernel_rfl
theorem big_eq : eJoin (eK (.str "/")) (e2 oRep (eLst [(eJoin (eK (.str " ")) (e2 oRep (eLst [(eK (.str "0"))]) (eK (.int 13))))]) (eK (.int 13))) [] = .ok (.str (St bigL)) := by kernel_rfl
theorem big_env (e : En) : eJoin (eK (.str "/")) (e2 oRep (eLst [(eJoin (eK (.str " ")) (e2 oRep (eLst [(eK (.str "0"))]) (eK (.int 13))))]) (eK (.int 13))) e = .ok (.str (St bigL)) := by
  rw [← big_eq]; rfl
theorem od2_lst (e : En) : eLst [(eK (.str "0 1/1_0 0")), (eK (.str "+0")), (eK (.str "0\n")), (eK (.str "0 1\t1 0")), (eJoin (eK (.str "/")) (e2 oRep (eLst [(eJoin (eK (.str " ")) (e2 oRep (eLst [(eK (.str "0"))]) (eK (.int 13))))]) (eK (.int 13)))), (eK (.str "-0")), (eK (.str "0 1/1 00"))] e = .ok (oddD odds2) := by
  rw [eLst_def]
  simp only [eL_cons, eL_nil, eK_ok, bind_ok, big_env]
  have : ([PyData.str "0 1/1_0 0", .str "+0", .str "0\n", .str "0 1\t1 0"], [PyData.str "-0", .str "0 1/1 00"]) = ([PyData.str (St [48, 32, 49, 47, 49, 95, 48, 32, 48]), .str (St [43, 48]), .str (St [48, 10]), .str (St [48, 32, 49, 9, 49, 32, 48])], [PyData.str (St [45, 48]), .str (St [48, 32, 49, 47, 49, 32, 48, 48])]) := by kernel_rfl
  have h1 := congrArg Prod.fst this
  have h2 := congrArg Prod.snd this
  simp only [List.cons.injEq] at h1 h2
  unfold oddD odds2
  simp only [List.map_cons, List.map_nil]
  rw [h1.1, h1.2.1, h1.2.2.1, h1.2.2.2.1, h2.1, h2.2.1]
theorem d_spoilt {a : List Nat} (h : Ok 444 a) (ns : List Int) : ∃ b, Ok 1000 b ∧ d__law_spoilt [il ns, .str (St a)] = .ok (.str (St b)) := by
  obtain ⟨c4, hc4⟩ := d_cell ns 4
  obtain ⟨c5, hc5⟩ := d_cell ns 5
  obtain ⟨c6, hc6⟩ := d_cell ns 6
  obtain ⟨c7, hc7⟩ := d_cell ns 7
  have hc4 : d__law_cell_at [il ns, .int 4] = .ok (.int c4) := hc4
  have hc5 : d__law_cell_at [il ns, .int 5] = .ok (.int c5) := hc5
  have hc6 : d__law_cell_at [il ns, .int 6] = .ok (.int c6) := hc6
  have hc7 : d__law_cell_at [il ns, .int 7] = .ok (.int c7) := hc7
  have hl := h.len
  obtain ⟨k4, hk4, ek4⟩ := tmod c4 (show 1 ≤ 16 by decide)
  have ek4 : c4 % 16 = (k4 : Int) := ek4
  obtain ⟨k5, hk5, ek5⟩ := tmod c5 (show 1 ≤ a.length + 1 by omega)
  obtain ⟨k6, hk6, ek6⟩ := tmod c6 (show 1 ≤ 4 by decide)
  have ek6 : c6 % 4 = (k6 : Int) := ek6
  obtain ⟨k7, hk7, ek7⟩ := tmod c7 (show 1 ≤ 20 by decide)
  have ek7 : c7 % 20 = (k7 : Int) := ek7
  obtain ⟨sg, hsg⟩ : ∃ sg, signs[k4]? = some sg := ⟨_, List.getElem?_eq_getElem (show k4 < signs.length from hk4)⟩
  have sgc : sg < 128 := of_decide_eq_true (List.all_eq_true.mp signs_ok sg (List.mem_of_getElem? hsg))
  have sgi : oIx signD (.int (k4 : Nat)) = .ok (.str (St [sg])) := oIx_at (by rw [List.getElem?_map, hsg]; rfl)
  have oS := ok1 sg sgc
  have pre : ∀ R, sSeq (sIf (e2 oEq (eV 5) (eK (.int 0))) (sRet (e2 oAddS (e2 oAddS (eSlS (eV 1) none (some (eV 4))) (eV 3)) (eSlS (eV 1) (some (eV 4)) none))) sSkip) (sSeq (sIf (e2 oEq (eV 5) (eK (.int 1))) (sRet (e2 oAddS (eSlS (eV 1) none (some (eV 4))) (eSlS (eV 1) (some (e2 oAddS (eV 4) (eK (.int 1)))) none))) sSkip) (sSeq (sIf (e2 oEq (eV 5) (eK (.int 2))) (sRet (e2 oAddS (e2 oAddS (eSlS (eV 1) none (some (eV 4))) (eV 3)) (eSlS (eV 1) (some (e2 oAddS (eV 4) (eK (.int 1)))) none))) sSkip) (sSeq (sAsg (gN 6) (eLst [(eK (.str "")), (eK (.str " ")), (eK (.str "0")), (eK (.str "1")), (eK (.str "00")), (eK (.str "0 1/1 0")), (eK (.str "0 1/1 0/")), (eK (.str "/0")), (eK (.str "0 1/1  0")), (eK (.str "0 1 /1 0")), (eK (.str "0 1/1 2")), (eK (.str "0 1/1")), (eK (.str "01 1/1 0"))])) (sSeq (sAsg (gN 6) (e2 oCat (eV 6) (eLst [(eK (.str "0 1/1_0 0")), (eK (.str "+0")), (eK (.str "0\n")), (eK (.str "0 1\t1 0")), (eJoin (eK (.str "/")) (e2 oRep (eLst [(eJoin (eK (.str " ")) (e2 oRep (eLst [(eK (.str "0"))]) (eK (.int 13))))]) (eK (.int 13)))), (eK (.str "-0")), (eK (.str "0 1/1 00"))]))) (sRet (e2 oIx (eV 6) (e2 oMod (eCall d__law_cell_at [(eV 0), (eK (.int 7))]) (eK (.int 20)))))))))
      [some (il ns), some (.str (St a)), some signD, some (.str (St [sg])), some (.int (k5 : Nat)), some (.int (k6 : Nat)), none] = R → b__law_spoilt [some (il ns), some (.str (St a)), none, none, none, none, none] = R := fun R hR => by
    show sSeq _ _ _ = _
    refine seq_nx [some (il ns), some (.str (St a)), some signD, none, none, none, none] (by rw [sAsg_def, sg_lst]; rfl) ?_
    refine seq_nx [some (il ns), some (.str (St a)), some signD, some (.str (St [sg])), none, none, none] (by simp [hc4, oMod_int (show (0 : Int) < 16 by decide), ek4, sgi]) ?_
    refine seq_nx [some (il ns), some (.str (St a)), some signD, some (.str (St [sg])), some (.int (k5 : Nat)), none, none] ?_ ?_
    · simp only [sAsg_def, gN_def, e2_def, e1_def, eCall_def, eL_cons, eL_nil, eV_succ, eV_zero, eK_ok, bind_ok, hc5, oLen_st (show a.length ≤ 100000 by omega), oAddS_int]
      rw [show ((a.length : Int) + 1) = ((a.length + 1 : Nat) : Int) by omega, oMod_int (by omega), ek5]; rfl
    exact seq_nx [some (il ns), some (.str (St a)), some signD, some (.str (St [sg])), some (.int (k5 : Nat)), some (.int (k6 : Nat)), none] (by simp [hc6, oMod_int (show (0 : Int) < 4 by decide), ek6]) hR
  generalize hE : ([some (il ns), some (.str (St a)), some signD, some (.str (St [sg])), some (.int (k5 : Nat)), some (.int (k6 : Nat)), none] : En) = env at pre
  have tq : ∀ k : Int, e2 oEq (eV 5) (eK (.int k)) env = .ok (.bool (decide ((k6 : Int) = k))) := fun k => by rw [← hE]; simp
  have v3 : eV 3 env = .ok (.str (St [sg])) := by rw [← hE]; rfl
  have hd : eSlS (eV 1) none (some (eV 4)) env = .ok (.str (St (a.take k5))) := by
    rw [← hE]
    show gSlS (.str (St a)) none (some ((k5 : Nat) : Int)) = _
    exact gS_head (by omega) k5
  have tl0 : eSlS (eV 1) (some (eV 4)) none env = .ok (.str (St (a.drop k5))) := by
    rw [← hE]
    show gSlS (.str (St a)) (some ((k5 : Nat) : Int)) none = _
    exact gS_tail (by omega) k5
  have tl1 : eSlS (eV 1) (some (e2 oAddS (eV 4) (eK (.int 1)))) none env = .ok (.str (St (a.drop (k5 + 1)))) := by
    rw [← hE]
    show gSlS (.str (St a)) (some (((k5 + 1 : Nat)) : Int)) none = _
    exact gS_tail (by omega) (k5 + 1)
  have o1 := Ok.take h k5
  have l1 := o1.len
  match k6, hk6 with
  | 0, _ =>
    have o2 := Ok.drop h k5
    have l2 := o2.len
    refine ⟨a.take k5 ++ [sg] ++ a.drop k5, Ok.mono (Ok.app (Ok.app o1 oS) o2) (by decide), runN_rt (pre _ (sSeq_rt ?_))⟩
    rw [sIf_b (show e2 oEq (eV 5) (eK (.int 0)) env = .ok (.bool true) from tq 0), if_pos rfl, sRet_def, e2_def, e2_def, hd, bind_ok, v3, bind_ok, addS (by rw [List.length_singleton]; omega), bind_ok, tl0, bind_ok, addS (by rw [List.length_append, List.length_singleton]; omega)]; rfl
  | 1, _ =>
    have o2 := Ok.drop h (k5 + 1)
    have l2 := o2.len
    refine ⟨a.take k5 ++ a.drop (k5 + 1), Ok.mono (Ok.app o1 o2) (by decide), runN_rt (pre _ (seq_nx _ (by rw [sIf_b (tq 0), decide_eq_false (by decide)]; rfl) (sSeq_rt ?_)))⟩
    rw [sIf_b (show e2 oEq (eV 5) (eK (.int 1)) env = .ok (.bool true) from tq 1), if_pos rfl, sRet_def, e2_def, hd, bind_ok, tl1, bind_ok, addS (by omega)]; rfl
  | 2, _ =>
    have o2 := Ok.drop h (k5 + 1)
    have l2 := o2.len
    refine ⟨a.take k5 ++ [sg] ++ a.drop (k5 + 1), Ok.mono (Ok.app (Ok.app o1 oS) o2) (by decide), runN_rt (pre _ (seq_nx _ (by rw [sIf_b (tq 0), decide_eq_false (by decide)]; rfl) (seq_nx _ (by rw [sIf_b (tq 1), decide_eq_false (by decide)]; rfl) (sSeq_rt ?_))))⟩
    rw [sIf_b (show e2 oEq (eV 5) (eK (.int 2)) env = .ok (.bool true) from tq 2), if_pos rfl, sRet_def, e2_def, e2_def, hd, bind_ok, v3, bind_ok, addS (by rw [List.length_singleton]; omega), bind_ok, tl1, bind_ok, addS (by rw [List.length_append, List.length_singleton]; omega)]; rfl
  | 3, _ =>
    obtain ⟨b, hb⟩ : ∃ b, (odds1 ++ odds2)[k7]? = some b := ⟨_, List.getElem?_eq_getElem (show k7 < (odds1 ++ odds2).length from hk7)⟩
    refine ⟨b, Ok.mono (ok_of (List.all_eq_true.mp odds_ok b (List.mem_of_getElem? hb))) (by decide), runN_rt (pre _ (seq_nx _ (by rw [sIf_b (tq 0), decide_eq_false (by decide)]; rfl) (seq_nx _ (by rw [sIf_b (tq 1), decide_eq_false (by decide)]; rfl) (seq_nx _ (by rw [sIf_b (tq 2), decide_eq_false (by decide)]; rfl) ?_))))⟩
    rw [← hE]
    refine seq_nx [some (il ns), some (.str (St a)), some signD, some (.str (St [sg])), some (.int (k5 : Nat)), some (.int (3 : Nat)), some (oddD odds1)] (by rw [sAsg_def, od1_lst]; rfl) ?_
    refine seq_nx [some (il ns), some (.str (St a)), some signD, some (.str (St [sg])), some (.int (k5 : Nat)), some (.int (3 : Nat)), some (oddD (odds1 ++ odds2))] ?_ ?_
    · rw [sAsg_def, e2_def, od2_lst]; rfl
    · have ix : oIx (oddD (odds1 ++ odds2)) (.int (k7 : Nat)) = .ok (.str (St b)) := oIx_at (by rw [List.getElem?_map, hb]; rfl)
      simp [hc7, oMod_int (show (0 : Int) < 20 by decide), ek7, ix]
  | k + 4, h => omega
def tailS : DS := (sSeq (sAsg (gN 5) (eCall d__law_due [(eV 4)])) (sSeq (sAsg (gN 6) (eCall d__law_told_k14 [(eV 4)])) (sSeq (sIf (e2 oIsN (eV 5) (eK .none)) (sRet (e2 oEq (eV 6) (eK (.str "note")))) sSkip) (sRet (eAnd (e1 isList (eV 6)) (e2 oEq (eV 6) (eV 5)))))))
theorem told_ok {a : List Nat} (h : Ok 1000 a) : d__law_told_k14 [.str (St a)] = .ok (if AD a && isT (rowsN a) then it (rowsN a) else .str "note") := by
  have hr := d_readX_st h (Nat.le_refl _)
  rw [same_read] at hr
  refine runN_rt ?_
  show sTryW (sRet (eCall d_readX [(eV 0)])) sSkip [some (.str (St a)), none] = _
  unfold sTryW
  have : sRet (eCall d_readX [(eV 0)]) [some (.str (St a)), none] = (d_readX [.str (St a)]).fl .rt := rfl
  rw [this, hr]
  cases (AD a && isT (rowsN a)) <;> rfl
theorem tail_true {a : List Nat} (h : Ok 1000 a) (s0 s1 s2 s3 y7 y8 y9 y10 : Option D) : tailS [s0, s1, s2, s3, some (.str (St a)), none, none, y7, y8, y9, y10] = .rt (.bool true) := by
  have hd := d_due_st h (Nat.le_refl _)
  have ht := told_ok h
  unfold tailS
  cases hX : AD a && isT (rowsN a)
  · rw [hX] at hd ht
    have hd : d__law_due [.str (St a)] = .ok .none := hd
    have ht : d__law_told_k14 [.str (St a)] = .ok (.str "note") := ht
    refine seq_nx [s0, s1, s2, s3, some (.str (St a)), some .none, none, y7, y8, y9, y10] (by simp [hd]) ?_
    refine seq_nx [s0, s1, s2, s3, some (.str (St a)), some .none, some (.str "note"), y7, y8, y9, y10] (by simp [ht]) ?_
    refine sSeq_rt ?_
    rw [sIf_b (k := true) rfl, if_pos rfl, sRet_def, e2_def, eK_ok, show eV 6 [s0, s1, s2, s3, some (.str (St a)), some .none, some (.str "note"), y7, y8, y9, y10] = .ok (.str "note") from rfl, bind_ok, bind_ok, oEq_self (sh_str 0 (by decide +kernel))]; rfl
  · rw [hX] at hd ht
    have hd : d__law_due [.str (St a)] = .ok (it (rowsN a)) := hd
    have ht : d__law_told_k14 [.str (St a)] = .ok (it (rowsN a)) := ht
    refine seq_nx [s0, s1, s2, s3, some (.str (St a)), some (it (rowsN a)), none, y7, y8, y9, y10] (by simp [hd]) ?_
    refine seq_nx [s0, s1, s2, s3, some (.str (St a)), some (it (rowsN a)), some (it (rowsN a)), y7, y8, y9, y10] (by simp [ht]) ?_
    refine seq_nx _ (by rw [sIf_b (k := false) rfl]; rfl) ?_
    rw [sRet_def, eAnd_bb (k := true) (l := true) rfl fun _ => ?_]
    · rfl
    · rw [e2_def, show eV 6 [s0, s1, s2, s3, some (.str (St a)), some (it (rowsN a)), some (it (rowsN a)), y7, y8, y9, y10] = .ok (it (rowsN a)) from rfl, bind_ok, show eV 5 [s0, s1, s2, s3, some (.str (St a)), some (it (rowsN a)), some (it (rowsN a)), y7, y8, y9, y10] = .ok (it (rowsN a)) from rfl, bind_ok, oEq_self (sh_it _)]
theorem law_true (ns : List Int) (hl : ns.length ≤ 63) : d_law_k14 [.list (ns.map .int)] = .ok (.bool true) := by
  obtain ⟨c0, h0⟩ := d_cell ns 0
  obtain ⟨c1, h1⟩ := d_cell ns 1
  obtain ⟨c3, h3⟩ := d_cell ns 3
  have h0 : d__law_cell_at [il ns, .int 0] = .ok (.int c0) := h0
  have h1 : d__law_cell_at [il ns, .int 1] = .ok (.int c1) := h1
  have h3 : d__law_cell_at [il ns, .int 3] = .ok (.int c3) := h3
  obtain ⟨j, hj, ej⟩ := tmod c0 (show 1 ≤ 12 by decide)
  have ej : c0 % 12 = (j : Int) := ej
  have s1 : (1 : Int) + (j : Int) = ((1 + j : Nat) : Int) := by omega
  have dr : ∀ a b : Fin (1 + j), ∃ r : Fin (1 + j), d__law_draw [.int c1, .int (a.val * (1 + j) + b.val : Nat), .int (1 + j : Nat)] = .ok (fi r) := fun a b => by
    have ha := a.isLt
    have hb := b.isLt
    have : a.val * (1 + j) ≤ 12 * 12 := Nat.mul_le_mul (by omega) (by omega)
    obtain ⟨r, hr, h⟩ := d_draw c1 (a.val * (1 + j) + b.val) (1 + j) (by omega) (by omega) (by omega)
    exact ⟨⟨r, hr⟩, h⟩
  let m : Fin (1 + j) → Fin (1 + j) → Fin (1 + j) := fun a b => Classical.choose (dr a b)
  have hm : ∀ a b, d__law_draw [.int c1, .int (a.val * (1 + j) + b.val : Nat), .int (1 + j : Nat)] = .ok (fi (m a b)) := fun a b => Classical.choose_spec (dr a b)
  have hn : 1 + j ≤ 12 := by omega
  apply runN_rt
  show sSeq _ _ [some (il ns), none, none, none, none, none, none, none, none, none, none] = _
  refine seq_nx [some (il ns), some (.int (1 + j : Nat)), none, none, none, none, none, none, none, none, none] (by simp [h0, oMod_int (show (0 : Int) < 12 by decide), ej]) ?_
  refine seq_nx [some (il ns), some (.int (1 + j : Nat)), some (.int c1), none, none, none, none, none, none, none, none] (by simp [h1]) ?_
  have q : eComp [7] (gN 7) (iR1 (eV 1)) eYes (eComp [8] (gN 8) (iR1 (eV 1)) eYes (eCall d__law_draw [(eV 2), (e2 oAddS (e2 oMul (eV 7) (eV 1)) (eV 8)), (eV 1)])) [some (il ns), some (.int (1 + j : Nat)), some (.int c1), none, none, none, none, none, none, none, none] = .ok (tab m) := by
    rw [eComp_map (xs := List.finRange (1 + j)) (i := fi) (P := fun _ => true) (F := fun a => rowD (m a)) (iR1_n rfl (by omega)) (by rw [List.length_finRange]; omega)]
    · rw [filter_yes]; rfl
    · intro a _
      refine ⟨_, rfl, rfl, fun _ => ?_⟩
      show eComp [8] (gN 8) (iR1 (eV 1)) eYes (eCall d__law_draw [(eV 2), (e2 oAddS (e2 oMul (eV 7) (eV 1)) (eV 8)), (eV 1)]) [some (il ns), some (.int (1 + j : Nat)), some (.int c1), none, none, none, none, some (fi a), none, none, none] = _
      rw [eComp_map (xs := List.finRange (1 + j)) (i := fi) (P := fun _ => true) (F := fun b => fi (m a b)) (iR1_n rfl (by omega)) (by rw [List.length_finRange]; omega)]
      · rw [filter_yes]; unfold rowD fl; rw [List.map_map]; rfl
      · intro b _
        refine ⟨_, rfl, rfl, fun _ => ?_⟩
        have ha := a.isLt
        have mu : oMul (fi a) (.int (1 + j : Nat)) = .ok (.int (a.val * (1 + j) : Nat)) := by
          rw [show fi a = .int (a.val : Int) from rfl, oMul_small (.inl (small_of (by omega) (by omega)))]
          rw [Int.natCast_mul]
        have ad : oAddS (.int (a.val * (1 + j) : Nat)) (fi b) = .ok (.int (a.val * (1 + j) + b.val : Nat)) := by
          rw [show fi b = .int (b.val : Int) from rfl, oAddS_int, Int.natCast_add]
        have hab := hm a b
        show eCall d__law_draw [(eV 2), (e2 oAddS (e2 oMul (eV 7) (eV 1)) (eV 8)), (eV 1)] [some (il ns), some (.int (1 + j : Nat)), some (.int c1), none, none, none, none, some (fi a), some (fi b), none, none] = _
        simp only [eCall_def, eL_cons, eL_nil, e2_def, eV_succ, eV_zero, bind_ok, mu, ad, hab]
  refine seq_nx [some (il ns), some (.int (1 + j : Nat)), some (.int c1), some (tab m), none, none, none, none, none, none, none] (by rw [sAsg_def, q]; rfl) ?_
  have qt : eJoin (eK (.str "/")) (eComp [9] (gN 9) (iL (eV 3)) eYes (eJoin (eK (.str " ")) (eComp [10] (gN 10) (iL (eV 9)) eYes (e1 oStr (eV 10))))) [some (il ns), some (.int (1 + j : Nat)), some (.int c1), some (tab m), none, none, none, none, none, none, none] = .ok (.str (textT m)) := by
    have q1 : eComp [9] (gN 9) (iL (eV 3)) eYes (eJoin (eK (.str " ")) (eComp [10] (gN 10) (iL (eV 9)) eYes (e1 oStr (eV 10)))) [some (il ns), some (.int (1 + j : Nat)), some (.int c1), some (tab m), none, none, none, none, none, none, none] = .ok (.list (((List.finRange (1 + j)).map (rowT m)).map .str)) := by
      rw [eComp_map (xs := List.finRange (1 + j)) (i := fun a => rowD (m a)) (P := fun _ => true) (F := fun a => .str (rowT m a)) rfl (by rw [List.length_finRange]; omega)]
      · rw [filter_yes, List.map_map]; rfl
      · intro a _
        refine ⟨_, rfl, rfl, fun _ => ?_⟩
        have q2 : eComp [10] (gN 10) (iL (eV 9)) eYes (e1 oStr (eV 10)) [some (il ns), some (.int (1 + j : Nat)), some (.int c1), some (tab m), none, none, none, none, none, some (rowD (m a)), none] = .ok (.list (((List.finRange (1 + j)).map fun b => nm (m a b).val).map .str)) := by
          rw [eComp_map (xs := (List.finRange (1 + j)).map (m a)) (i := fi) (P := fun _ => true) (F := fun b => .str (nm b.val)) rfl (by rw [List.length_map, List.length_finRange]; omega)]
          · rw [filter_yes, List.map_map, List.map_map]; rfl
          · intro b _
            have : oStr (fi b) = .ok (.str (nm b.val)) := oStr_nm (by have := b.isLt; omega)
            exact ⟨_, rfl, rfl, fun _ => by simp [wipeE, this]⟩
        show (match PyData.str " " with | .str s => (eComp [10] (gN 10) (iL (eV 9)) eYes (e1 oStr (eV 10)) [some (il ns), some (.int (1 + j : Nat)), some (.int c1), some (tab m), none, none, none, none, none, some (rowD (m a)), none]).bind (gJoin s) | _ => .no) = _
        rw [q2]
        simp only [bind_ok]
        exact gJoin_map (joinLim_of (B := 2) (fun x hx => by
          obtain ⟨b, _, rfl⟩ := List.mem_map.mp hx
          exact nm_len (by have := (m a b).isLt; omega)) (by
          rw [List.length_map, List.length_finRange, show (Str.ofString " ").length = 1 from len_sp]; omega))
    show (match PyData.str "/" with | .str s => (eComp [9] (gN 9) (iL (eV 3)) eYes (eJoin (eK (.str " ")) (eComp [10] (gN 10) (iL (eV 9)) eYes (e1 oStr (eV 10)))) [some (il ns), some (.int (1 + j : Nat)), some (.int c1), some (tab m), none, none, none, none, none, none, none]).bind (gJoin s) | _ => .no) = _
    rw [q1]
    simp only [bind_ok]
    exact gJoin_map (joinLim_of (B := 36) (fun x hx => by
      obtain ⟨b, _, rfl⟩ := List.mem_map.mp hx
      exact rowT_len m hn b) (by
      rw [List.length_map, List.length_finRange, show (Str.ofString "/").length = 1 from len_sl]; omega))
  have et : textT m = St (TL.tl (textT m)) := st_of _
  have oT : Ok 444 (TL.tl (textT m)) := ⟨by rw [← TL.len_tl]; exact textT_len m hn, text_chars m hn⟩
  rw [et] at qt
  generalize TL.tl (textT m) = a at qt oT
  refine seq_nx [some (il ns), some (.int (1 + j : Nat)), some (.int c1), some (tab m), some (.str (St a)), none, none, none, none, none, none] (by rw [sAsg_def, qt]; rfl) ?_
  have tt : e2 oGt (e2 oMod (eCall d__law_cell_at [(eV 0), (eK (.int 3))]) (eK (.int 4))) (eK (.int 0)) [some (il ns), some (.int (1 + j : Nat)), some (.int c1), some (tab m), some (.str (St a)), none, none, none, none, none, none] = .ok (.bool (decide (0 < c3 % 4))) := by simp [h3, oMod_int (show (0 : Int) < 4 by decide)]
  by_cases hq : 0 < c3 % 4
  · obtain ⟨b, hb, hs⟩ := d_spoilt oT ns
    refine seq_nx [some (il ns), some (.int (1 + j : Nat)), some (.int c1), some (tab m), some (.str (St b)), none, none, none, none, none, none] ?_ (tail_true hb _ _ _ _ _ _ _ _)
    rw [sIf_b tt, decide_eq_true hq, if_pos rfl]
    simp [hs]
  · refine seq_nx _ (by rw [sIf_b tt, decide_eq_false hq]; rfl) (tail_true (Ok.mono oT (by decide)) _ _ _ _ _ _ _ _)
end K14
end Tf
namespace Tf.K14
open PySem PySem.Spec PyProof.Rows L2
/-! the walk through law_k14_read_or_refused: printed by gen.py -/
def topS (i : Nat) : Stmt := PySem.Challenge.pw_tablefolk_k14_read_or_refused.main.body.getD i (.Pass ⟨0, 0, 0, 0⟩)
abbrev st_is_table : Stmt := topS 11
theorem sc_is_table : FnScope ["table", "size", "row"] ["table"] (defScope st_is_table) := ⟨rfl, rfl, rfl, by decide +kernel, rfl, by decide +kernel, by decide +kernel⟩
abbrev st_number_of : Stmt := topS 14
theorem sc_number_of : FnScope ["word", "sign"] ["word"] (defScope st_number_of) := ⟨rfl, rfl, rfl, by decide +kernel, rfl, by decide +kernel, by decide +kernel⟩
abbrev st_read : Stmt := topS 15
theorem sc_read : FnScope ["text", "table", "row", "word"] ["text"] (defScope st_read) := ⟨rfl, rfl, rfl, by decide +kernel, rfl, by decide +kernel, by decide +kernel⟩
abbrev st__law_cell_at : Stmt := topS 17
theorem sc__law_cell_at : FnScope ["script", "k"] ["script", "k"] (defScope st__law_cell_at) := ⟨rfl, rfl, rfl, by decide +kernel, rfl, by decide +kernel, by decide +kernel⟩
abbrev st__law_draw : Stmt := topS 18
theorem sc__law_draw : FnScope ["cell", "k", "bound", "left", "j", "stir"] ["cell", "k", "bound"] (defScope st__law_draw) := ⟨rfl, rfl, rfl, by decide +kernel, rfl, by decide +kernel, by decide +kernel⟩
abbrev st__law_word_of : Stmt := topS 19
theorem sc__law_word_of : FnScope ["e", "some"] ["e"] (defScope st__law_word_of) := ⟨rfl, rfl, rfl, by decide +kernel, rfl, by decide +kernel, by decide +kernel⟩
abbrev st__law_due : Stmt := topS 20
theorem sc__law_due : FnScope ["text", "table", "line", "row", "word", "size", "sign"] ["text"] (defScope st__law_due) := ⟨rfl, rfl, rfl, by decide +kernel, rfl, by decide +kernel, by decide +kernel⟩
abbrev st__law_told : Stmt := topS 21
theorem sc__law_told : FnScope ["text", "e"] ["text"] (defScope st__law_told) := ⟨rfl, rfl, rfl, by decide +kernel, rfl, by decide +kernel, by decide +kernel⟩
abbrev st__law_spoilt : Stmt := topS 22
theorem sc__law_spoilt : FnScope ["script", "text", "some", "sign", "at", "way", "odd"] ["script", "text"] (defScope st__law_spoilt) := ⟨rfl, rfl, rfl, by decide +kernel, rfl, by decide +kernel, by decide +kernel⟩
abbrev st_law : Stmt := topS 23
theorem sc_law : FnScope ["script", "size", "cell", "table", "text", "due", "found", "a", "b", "row", "number"] ["script"] (defScope st_law) := ⟨rfl, rfl, rfl, by decide +kernel, rfl, by decide +kernel, by decide +kernel⟩
structure TxX (K : PySem.W.Frag) (mg : Str → Option Value) (x : Str) : Prop where
  ex : ∃ C : Addr, mg x = some (.ref C) ∧ PySem.W.excIn K C [.type "ValueError", .type "Exception", .type "BaseException", .type "object"] "ValueError.__new__" = true ∧ PySem.W.keepIn K (.ref C) = true ∧ PySem.W.subIn K (.ref C) (.type "BaseException") = some true ∧ PySem.W.typeIn K (.ref C) = some (.type "type")
structure Tx (K : PySem.W.Frag) (mg : Str → Option Value) (C_NoNote : Addr) (t_FIGURES t_MOST : Tok) : Prop where
  b_ValueError : mg "ValueError" = none
  b_int : mg "int" = none
  b_isinstance : mg "isinstance" = none
  b_len : mg "len" = none
  b_list : mg "list" = none
  b_max : mg "max" = none
  b_min : mg "min" = none
  b_range : mg "range" = none
  b_str : mg "str" = none
  c_FIGURES : mg "FIGURES" = some (.str "0123456789" t_FIGURES)
  c_MOST : mg "MOST" = some (.int 12 t_MOST)
  q_NoNote : PySem.W.excIn K C_NoNote [.type "ValueError", .type "Exception", .type "BaseException", .type "object"] "ValueError.__new__" = true
  g_NoNote : mg "NoNote" = some (.ref C_NoNote)
  k_NoNote : PySem.W.keepIn K (.ref C_NoNote) = true
  s_NoNote : PySem.W.subIn K (.ref C_NoNote) (.type "BaseException") = some true
  t_NoNote : PySem.W.typeIn K (.ref C_NoNote) = some (.type "type")
section
variable {P : Program} {w : World} {K : PySem.W.Frag} {mg : Str → Option Value} {base : Heap} {C_NoNote : Addr} {t_FIGURES t_MOST : Tok}
theorem ok_is_table (T : Tx K mg C_NoNote t_FIGURES t_MOST) {f : Addr} {fd : FuncData} (F : Fun K "is_table" "is_table" st_is_table f fd)  : FnOk P w K mg base (L2.CX P w) 1 f fd ["table"] (Pr K mg 1 .new d_is_table) :=
  fn_pdN F sc_is_table rfl fun cdv A outer s H E hr => ⟨[.un, .un, .un], (pds_cons (ks1 := [.any, .new, .un]) (pd1_set (j := 1) sc_is_table.nd (pd_b1 cd_len (pd_var (m := .any) (pv 0)) T.b_len boot_len)) (pds_cons (ks1 := [.any, .new, .un]) (pd1_if (PDW.t (pdw_or (pdt_cmp od_lt (pd_var (m := .new) (pv 1)) pd_int) (pdw_or1 (pdt_cmp od_gt (pd_var (m := .new) (pv 1)) (pd_const (pe_glob (v := .int 12) (by rfl) T.c_MOST ⟨_, rfl⟩) fun _ => .int _))))) (pds_one (pd1_ret pd_bl)) pds_nil) (pds_wkL (ks1 := [.any, .new, .any]) (pds_cons (ks1 := [.any, .new, .any]) (pd1_for passOwnD rfl (pdi_list (m := .any) (pd_var (m := .any) (pv 0))) (pdg_name (j := 2) (my := .any) sc_is_table.nd) (pds_one (pd1_if (PDW.t (pdw_or (pdt_cmp (od_ne (un64 hr)) (pd_b1 cd_len (pd_var (m := .any) (pv 2)) T.b_len boot_len) (pd_var (m := .new) (pv 1))) (pdw_or (pdt_cmp od_lt (pd_b1 (cd_min rfl) (pd_var (m := .any) (pv 2)) T.b_min boot_min) pd_int) (pdw_or1 (pdt_cmp od_ge (pd_b1 (cd_max rfl) (pd_var (m := .any) (pv 2)) T.b_max boot_max) (pd_var (m := .new) (pv 1))))))) (pds_one (pd1_ret pd_bl)) pds_nil))) (pds_one (pd1_ret pd_bl))))))⟩
theorem ok_number_of (T : Tx K mg C_NoNote t_FIGURES t_MOST) {f : Addr} {fd : FuncData} (F : Fun K "number_of" "number_of" st_number_of f fd)  : FnOk P w K mg base (L2.CX P w) 1 f fd ["word"] (Pr K mg 1 .new d_number_of) :=
  fn_pdN F sc_number_of rfl fun cdv A outer s H E hr => ⟨[.un, .un], (pds_cons (ks1 := [.any, .un]) (pd1_if (PDW.t (pdw_or (pdt_not (pdt_ch od_le od_le pd_int (pd_b1 cd_len (pd_var (m := .any) (pv 0)) T.b_len boot_len) pd_int)) (pdw_or1 (PDW.t (pdw_and (pdt_cmp (od_eq (un64 hr)) (pd_ix (m := .any) (pd_var (m := .any) (pv 0)) pd_int) pd_str) (pdw_and1 (pdt_cmp od_gt (pd_b1 cd_len (pd_var (m := .any) (pv 0)) T.b_len boot_len) pd_int))))))) (pds_one (pd1_raise (k := .NoNote) rfl takesD rfl T.q_NoNote T.g_NoNote T.k_NoNote (raises_own T.s_NoNote T.t_NoNote))) pds_nil) (pds_wkL (ks1 := [.any, .new]) (pds_cons (ks1 := [.any, .new]) (pd1_for passOwnD rfl (pdi_str (pd_var (m := .any) (pv 0))) (pdg_name (j := 1) (my := .new) sc_number_of.nd) (pds_one (pd1_if (pdt_cmp od_niS (pd_var (m := .new) (pv 1)) (pd_const (pe_glob (v := .str "0123456789") (by rfl) T.c_FIGURES ⟨_, rfl⟩) fun _ => .str _)) (pds_one (pd1_raise (k := .NoNote) rfl takesD rfl T.q_NoNote T.g_NoNote T.k_NoNote (raises_own T.s_NoNote T.t_NoNote))) pds_nil))) (pds_one (pd1_ret (pd_t1 cd_intS (pd_var (m := .any) (pv 0)) T.b_int boot_int))))))⟩
theorem ok_read (T : Tx K mg C_NoNote t_FIGURES t_MOST) {f : Addr} {fd : FuncData} (F : Fun K "read" "read" st_read f fd) (c_is_table : Cal P w K mg base "is_table" ["table"] 1 1 .new d_is_table) (c_number_of : Cal P w K mg base "number_of" ["word"] 1 1 .new d_number_of) : FnOk P w K mg base (L2.CX P w) 2 f fd ["text"] (Pr K mg 1 .o2 d_readX) :=
  fn_pdN F sc_read rfl fun cdv A outer s H E hr => ⟨[.un, .un, .un, .un], (pds_cons (ks1 := [.any, .o2, .un, .un]) (pd1_setLcX2 (m := .o2) (own := [("row", 2)]) (ks1 := [.any, .un, .new, .un]) (j := 1) rfl sc_read.nd rfl rfl (sw_true rfl rfl rfl (by decide +kernel)) (takesL_of takesD) rfl rfl rfl (PDI.weak (pdi_list (m := .new) (pd_le (pd_split (pd_var (m := .any) (pv 0)) pd_str)))) (blkOk_by (own := [("row", 2)]) (by kernel_rfl)) (free_by (by kernel_rfl)) ⟨fun _ _ _ _ _ => (pdg_name (j := 2) (my := .new) sc_read.nd), fun _ _ _ _ _ _ tk1 => (pd_compX (own := [("word", 3)]) (ks1 := [.any, .un, .new, .new]) rfl sc_read.nd tk1 rfl rfl rfl (PDI.weak (pdi_list (m := .new) (pd_le (pd_split (pd_var (m := .new) (pv 2)) pd_str)))) (blkOk_by (own := [("word", 3)]) (by kernel_rfl)) (free_by (by kernel_rfl)) ⟨fun _ _ _ _ _ => (pdg_name (j := 3) (my := .new) sc_read.nd), fun _ _ _ _ _ _ tk2 => (pd_callC c_number_of (hr.mono (by decide)) (passesL tk2) (pdl_cons (pd_B (pd_var (m := .new) (pv 3))) pdl_nil))⟩)⟩) (pds_cons (ks1 := [.any, .o2, .un, .un]) (pd1_if (pdt_not (pdt_val (pd_callC c_is_table (hr.mono (by decide)) passD (pdl_cons (pd_varB (pv 1)) pdl_nil)))) (pds_one (pd1_raise (k := .NoNote) rfl takesD rfl T.q_NoNote T.g_NoNote T.k_NoNote (raises_own T.s_NoNote T.t_NoNote))) pds_nil) (pds_one (pd1_retO (pv 1)))))⟩
theorem ok__law_cell_at (T : Tx K mg C_NoNote t_FIGURES t_MOST) {f : Addr} {fd : FuncData} (F : Fun K "_law_cell_at" "_law_cell_at" st__law_cell_at f fd)  : FnOk P w K mg base (L2.CX P w) 1 f fd ["script", "k"] (Pr K mg 2 .new d__law_cell_at) :=
  fn_pdN F sc__law_cell_at rfl fun cdv A outer s H E hr => ⟨[.un, .un], (pds_cons (ks1 := [.any, .any]) (pd1_if (pdt_cmp od_lt (pd_var (m := .any) (pv 1)) (pd_b1 cd_len (pd_var (m := .any) (pv 0)) T.b_len boot_len)) (pds_one (pd1_ret (pd_fl (pd_ix (m := .any) (pd_var (m := .any) (pv 0)) (pd_var (m := .any) (pv 1)))))) pds_nil) (pds_one (pd1_ret pd_int)))⟩
theorem ok__law_draw (T : Tx K mg C_NoNote t_FIGURES t_MOST) {f : Addr} {fd : FuncData} (F : Fun K "_law_draw" "_law_draw" st__law_draw f fd)  : FnOk P w K mg base (L2.CX P w) 1 f fd ["cell", "k", "bound"] (Pr K mg 3 .new d__law_draw) :=
  fn_pdN F sc__law_draw rfl fun cdv A outer s H E hr => ⟨[.un, .un, .un, .un, .un, .un], (pds_cons (ks1 := [.any, .any, .any, .un, .un, .un]) (pd1_if (pdt_cmp (od_eq (un64 hr)) (pd_op od_mod (pd_var (m := .any) (pv 0)) pd_int) pd_int) (pds_cons (ks1 := [.any, .any, .any, .new, .un, .un]) (pd1_set (j := 3) sc__law_draw.nd (pd_op od_div (pd_var (m := .any) (pv 0)) pd_int)) (pds_wkL (ks1 := [.any, .any, .any, .new, .new, .un]) (pds_cons (ks1 := [.any, .any, .any, .new, .new, .un]) (pd1_for passOwnD rfl (pdi_r1 (pd_var (m := .any) (pv 1)) T.b_range) (pdg_name (j := 4) (my := .new) sc__law_draw.nd) (pds_one (pd1_set (j := 3) sc__law_draw.nd (pd_op od_div (pd_var (m := .new) (pv 3)) (pd_var (m := .any) (pv 2)))))) (pds_one (pd1_ret (pd_op od_mod (pd_var (m := .new) (pv 3)) (pd_var (m := .any) (pv 2)))))))) pds_nil) (pds_cons (ks1 := [.any, .any, .any, .un, .un, .new]) (pd1_set (j := 5) sc__law_draw.nd (pd_op od_mod (pd_op od_mul (pd_op od_add (pd_op od_add (pd_op od_mod (pd_var (m := .any) (pv 0)) pd_int) (pd_op od_mul pd_int (pd_var (m := .any) (pv 1)))) pd_int) pd_int) pd_int)) (pds_cons (ks1 := [.any, .any, .any, .un, .un, .new]) (pd1_set (j := 5) sc__law_draw.nd (pd_op od_mod (pd_op od_mul (pd_var (m := .new) (pv 5)) (pd_var (m := .new) (pv 5))) pd_int)) (pds_cons (ks1 := [.any, .any, .any, .un, .un, .new]) (pd1_set (j := 5) sc__law_draw.nd (pd_op od_mod (pd_op od_mul (pd_op od_add (pd_var (m := .new) (pv 5)) (pd_op od_mul pd_int (pd_op od_add (pd_var (m := .any) (pv 1)) pd_int))) pd_int) pd_int)) (pds_one (pd1_ret (pd_op od_mod (pd_op od_div (pd_var (m := .new) (pv 5)) pd_int) (pd_var (m := .any) (pv 2)))))))))⟩
theorem ok__law_word_of (T : Tx K mg C_NoNote t_FIGURES t_MOST) {CF : Addr} {Cs : EC → Addr} (XX : ExK K CF Cs) (XG : ∀ c : EC, mg c.nm = some (.ref (Cs c))) {f : Addr} {fd : FuncData} (F : Fun K "_law_word_of" "_law_word_of" st__law_word_of f fd) : WordOk P w K mg base 1 f fd Cs :=
  word_fn F sc__law_word_of (g := b_word) (fun cdv A outer s H E p c hr hz hv => ⟨[.un, .un], (pds_cons (ks1 := [.any, .new]) (pd1_set (j := 1) sc__law_word_of.nd (pd_le (pd_lstS (pdl_cons (pd_isE (p := p.1) (oe := p.2) (List.mem_singleton.mpr rfl) (XX.x c) hz hv (pd_var (m := .any) (pv 0)) (pe_glob (v := .ref (Cs .NoTable)) (by rfl) (XG .NoTable) rfl) (fun _ h => h) (XX.one c .NoTable) T.b_isinstance) (pdl_cons (pd_isE (p := p.1) (oe := p.2) (List.mem_singleton.mpr rfl) (XX.x c) hz hv (pd_var (m := .any) (pv 0)) (pe_glob (v := .ref (Cs .NoFolk)) (by rfl) (XG .NoFolk) rfl) (fun _ h => h) (XX.one c .NoFolk) T.b_isinstance) (pdl_cons (pd_isE (p := p.1) (oe := p.2) (List.mem_singleton.mpr rfl) (XX.x c) hz hv (pd_var (m := .any) (pv 0)) (pe_glob (v := .ref (Cs .NoElement)) (by rfl) (XG .NoElement) rfl) (fun _ h => h) (XX.one c .NoElement) T.b_isinstance) pdl_nil)))))) (pds_cons (ks1 := [.any, .new]) (pd1_set (j := 1) sc__law_word_of.nd (pd_le (pd_cat (pd_var (m := .new) (pv 1)) (pd_le (pd_lstS (pdl_cons (pd_isE (p := p.1) (oe := p.2) (List.mem_singleton.mpr rfl) (XX.x c) hz hv (pd_var (m := .any) (pv 0)) (pe_glob (v := .ref (Cs .NoPart)) (by rfl) (XG .NoPart) rfl) (fun _ h => h) (XX.one c .NoPart) T.b_isinstance) (pdl_cons (pd_isE (p := p.1) (oe := p.2) (List.mem_singleton.mpr rfl) (XX.x c) hz hv (pd_var (m := .any) (pv 0)) (pe_glob (v := .ref (Cs .NotLoose)) (by rfl) (XG .NotLoose) rfl) (fun _ h => h) (XX.one c .NotLoose) T.b_isinstance) (pdl_cons (pd_isE (p := p.1) (oe := p.2) (List.mem_singleton.mpr rfl) (XX.x c) hz hv (pd_var (m := .any) (pv 0)) (pe_glob (v := .ref (Cs .TooLarge)) (by rfl) (XG .TooLarge) rfl) (fun _ h => h) (XX.one c .TooLarge) T.b_isinstance) pdl_nil)))))))) (pds_cons (ks1 := [.any, .new]) (pd1_set (j := 1) sc__law_word_of.nd (pd_le (pd_cat (pd_var (m := .new) (pv 1)) (pd_le (pd_lstS (pdl_cons (pd_isE (p := p.1) (oe := p.2) (List.mem_singleton.mpr rfl) (XX.x c) hz hv (pd_var (m := .any) (pv 0)) (pe_glob (v := .ref (Cs .NoNote)) (by rfl) (XG .NoNote) rfl) (fun _ h => h) (XX.one c .NoNote) T.b_isinstance) pdl_nil)))))) (pds_cons (ks1 := [.any, .new]) (pd1_if (PDW.t (pdw_or (pdt_cmp (od_ne (un64h hr)) (pd_countB (pd_var (m := .new) (pv 1)) pd_bl) pd_int) (pdw_or1 (pdt_not (pdt_val (pd_isE (p := p.1) (oe := p.2) (List.mem_singleton.mpr rfl) (XX.x c) hz hv (pd_var (m := .any) (pv 0)) (pe_bltn (v := .ty "ValueError") (by rfl) T.b_ValueError (by decide +kernel) rfl) (fun _ h => h) (XX.val c) T.b_isinstance)))))) (pds_one (pd1_ret pd_str)) pds_nil) (pds_one (pd1_ret (pd_ix (m := .new) (pd_le (pd_lstS (pdl_cons pd_str (pdl_cons pd_str (pdl_cons pd_str (pdl_cons pd_str (pdl_cons pd_str (pdl_cons pd_str (pdl_cons pd_str pdl_nil))))))))) (pd_index (un65h hr) (pd_var (m := .new) (pv 1)) pd_bl))))))))⟩) b_word_ok
theorem ok__law_due (T : Tx K mg C_NoNote t_FIGURES t_MOST) {f : Addr} {fd : FuncData} (F : Fun K "_law_due" "_law_due" st__law_due f fd)  : FnOk P w K mg base (L2.CX P w) 1 f fd ["text"] (Pr K mg 1 .new d__law_due) :=
  fn_pdN F sc__law_due rfl fun cdv A outer s H E hr => ⟨[.un, .un, .un, .un, .un, .un, .un], (pds_cons (ks1 := [.any, .o1, .un, .un, .un, .un, .un]) (pd1_set (j := 1) sc__law_due.nd (pd_lst pdl_nil)) (pds_wkL (ks1 := [.any, .o1, .new, .new, .new, .un, .un]) (pds_cons (ks1 := [.any, .o1, .new, .new, .new, .un, .un]) (pd1_for passOwnD rfl (pdi_list (m := .new) (pd_le (pd_split (pd_var (m := .any) (pv 0)) pd_str))) (pdg_name (j := 2) (my := .new) sc__law_due.nd) (pds_cons (ks1 := [.any, .o1, .new, .o1, .new, .un, .un]) (pd1_set (j := 3) sc__law_due.nd (pd_lst pdl_nil)) (pds_cons (ks1 := [.any, .o1, .new, .o1, .new, .un, .un]) (pd1_for passOwnD rfl (pdi_list (m := .new) (pd_le (pd_split (pd_var (m := .new) (pv 2)) pd_str))) (pdg_name (j := 4) (my := .new) sc__law_due.nd) (pds_cons (ks1 := [.any, .o1, .new, .o1, .new, .un, .un]) (pd1_if (PDW.t (pdw_or (pdt_cmp (od_eq (un64 hr)) (pd_var (m := .new) (pv 4)) pd_str) (pdw_or (pdt_cmp od_gt (pd_b1 cd_len (pd_var (m := .new) (pv 4)) T.b_len boot_len) pd_int) (pdw_or1 (PDW.t (pdw_and (pdt_cmp od_gt (pd_b1 cd_len (pd_var (m := .new) (pv 4)) T.b_len boot_len) pd_int) (pdw_and1 (pdt_cmp (od_eq (un64 hr)) (pd_ix (m := .new) (pd_var (m := .new) (pv 4)) pd_int) pd_str)))))))) (pds_one (pd1_ret pd_non)) pds_nil) (pds_cons (ks1 := [.any, .o1, .new, .o1, .new, .un, .un]) (pd1_if (pdt_cmp od_gt (pd_b1 cd_len (pd_comp (own := [("sign", 6)]) (ks1 := [.any, .o1, .new, .o1, .new, .un, .new]) rfl sc__law_due.nd (PDI.weak (pdi_str (pd_var (m := .new) (pv 4)))) (blkOk_by (own := [("sign", 6)]) (by kernel_rfl)) ⟨fun _ _ _ _ _ => (pdg_name (j := 6) (my := .new) sc__law_due.nd), fun _ _ _ _ _ => (pdts_one (pdt_cmp od_lt (pd_find pd_str (pd_var (m := .new) (pv 6))) pd_int)), fun _ _ _ _ _ => (pd_var (m := .new) (pv 6))⟩) T.b_len boot_len) pd_int) (pds_one (pd1_ret pd_non)) pds_nil) (pds_one (pd1_app (pv 3) (pdl_cons (pd_t1 cd_intS (pd_var (m := .new) (pv 4)) T.b_int boot_int) pdl_nil)))))) (pds_wkL (ks1 := [.any, .o1, .new, .new, .new, .un, .un]) (pds_one (pd1_app (pv 1) (pdl_cons (pd_var (m := .new) (pv 3)) pdl_nil))))))) (pds_cons (ks1 := [.any, .o1, .new, .new, .new, .new, .un]) (pd1_set (j := 5) sc__law_due.nd (pd_b1 cd_len (pd_varB (pv 1)) T.b_len boot_len)) (pds_wkL (ks1 := [.any, .new, .new, .new, .new, .new, .un]) (pds_cons (ks1 := [.any, .new, .new, .new, .new, .new, .un]) (pd1_for passOwnD rfl (pdi_list (m := .new) (pd_var (m := .new) (pv 1))) (pdg_name (j := 3) (my := .new) sc__law_due.nd) (pds_one (pd1_if (PDW.t (pdw_or (pdt_cmp (od_ne (un64 hr)) (pd_b1 cd_len (pd_var (m := .new) (pv 3)) T.b_len boot_len) (pd_var (m := .new) (pv 5))) (pdw_or1 (pdt_cmp od_ge (pd_b1 (cd_max rfl) (pd_var (m := .new) (pv 3)) T.b_max boot_max) (pd_var (m := .new) (pv 5)))))) (pds_one (pd1_ret pd_non)) pds_nil))) (pds_cons (ks1 := [.any, .new, .new, .new, .new, .new, .un]) (pd1_if (pdt_cmp od_gt (pd_var (m := .new) (pv 5)) pd_int) (pds_one (pd1_ret pd_non)) pds_nil) (pds_one (pd1_ret (pd_var (m := .new) (pv 1)))))))))))⟩
theorem ok__law_told (T : Tx K mg C_NoNote t_FIGURES t_MOST) {CF : Addr} {Cs : EC → Addr} (XX : ExK K CF Cs) (XG : ∀ c : EC, mg c.nm = some (.ref (Cs c))) (XF : mg "FolkError" = some (.ref CF)) {f : Addr} {fd : FuncData} (F : Fun K "_law_told" "_law_told" st__law_told f fd) (c__law_word_of : CalW P w K mg base "_law_word_of" 1 Cs) (c_read : Cal P w K mg base "read" ["text"] 2 1 .o2 d_readX) : FnOk P w K mg base (L2.CX P w) 3 f fd ["text"] (Pr K mg 1 .new d__law_told_k14) :=
  fn_pdTry F sc__law_told rfl fun cdv A outer s H E hr => ⟨[.un, .un], (pds0_try (ks1 := [.un, .un]) (i := 1) c__law_word_of (hr.mono (by decide)) XX XG rfl rfl takesD (.inl rfl) XF (fun pn xe E' hx => (pds_one (pd1_ret (pd_le (pd_callC c_read (hr.mono (by decide)) hx (pdl_cons (pd_B (pd_var (m := .any) (pv 0))) pdl_nil)))))) pds_nil sc__law_told.nd rfl rfl (.inl rfl) rfl rfl)⟩
theorem ok__law_spoilt (T : Tx K mg C_NoNote t_FIGURES t_MOST) {f : Addr} {fd : FuncData} (F : Fun K "_law_spoilt" "_law_spoilt" st__law_spoilt f fd) (c__law_cell_at : Cal P w K mg base "_law_cell_at" ["script", "k"] 1 2 .new d__law_cell_at) : FnOk P w K mg base (L2.CX P w) 2 f fd ["script", "text"] (Pr K mg 2 .new d__law_spoilt) :=
  fn_pdN F sc__law_spoilt rfl fun cdv A outer s H E hr => ⟨[.un, .un, .un, .un, .un, .un, .un], (pds_cons (ks1 := [.any, .any, .new, .un, .un, .un, .un]) (pd1_set (j := 2) sc__law_spoilt.nd (pd_le (pd_lst (pdl_cons pd_str (pdl_cons pd_str (pdl_cons pd_str (pdl_cons pd_str (pdl_cons pd_str (pdl_cons pd_str (pdl_cons pd_str (pdl_cons pd_str (pdl_cons pd_str (pdl_cons pd_str (pdl_cons pd_str (pdl_cons pd_str (pdl_cons pd_str (pdl_cons pd_str (pdl_cons pd_str (pdl_cons pd_str pdl_nil))))))))))))))))))) (pds_cons (ks1 := [.any, .any, .new, .new, .un, .un, .un]) (pd1_set (j := 3) sc__law_spoilt.nd (pd_ix (m := .new) (pd_var (m := .new) (pv 2)) (pd_op od_mod (pd_callC c__law_cell_at (hr.mono (by decide)) passD (pdl_cons (pd_B (pd_var (m := .any) (pv 0))) (pdl_cons (pd_B pd_int) pdl_nil))) pd_int))) (pds_cons (ks1 := [.any, .any, .new, .new, .new, .un, .un]) (pd1_set (j := 4) sc__law_spoilt.nd (pd_op od_mod (pd_callC c__law_cell_at (hr.mono (by decide)) passD (pdl_cons (pd_B (pd_var (m := .any) (pv 0))) (pdl_cons (pd_B pd_int) pdl_nil))) (pd_op od_add (pd_b1 cd_len (pd_var (m := .any) (pv 1)) T.b_len boot_len) pd_int))) (pds_cons (ks1 := [.any, .any, .new, .new, .new, .new, .un]) (pd1_set (j := 5) sc__law_spoilt.nd (pd_op od_mod (pd_callC c__law_cell_at (hr.mono (by decide)) passD (pdl_cons (pd_B (pd_var (m := .any) (pv 0))) (pdl_cons (pd_B pd_int) pdl_nil))) pd_int)) (pds_cons (ks1 := [.any, .any, .new, .new, .new, .new, .un]) (pd1_if (pdt_cmp (od_eq (un64 hr)) (pd_var (m := .new) (pv 5)) pd_int) (pds_one (pd1_ret (pd_op od_add (pd_op od_add (pd_slS (pd_var (m := .any) (pv 1)) pdo_none (pdo_some (pd_var (m := .new) (pv 4)))) (pd_var (m := .new) (pv 3))) (pd_slS (pd_var (m := .any) (pv 1)) (pdo_some (pd_var (m := .new) (pv 4))) pdo_none)))) pds_nil) (pds_cons (ks1 := [.any, .any, .new, .new, .new, .new, .un]) (pd1_if (pdt_cmp (od_eq (un64 hr)) (pd_var (m := .new) (pv 5)) pd_int) (pds_one (pd1_ret (pd_op od_add (pd_slS (pd_var (m := .any) (pv 1)) pdo_none (pdo_some (pd_var (m := .new) (pv 4)))) (pd_slS (pd_var (m := .any) (pv 1)) (pdo_some (pd_op od_add (pd_var (m := .new) (pv 4)) pd_int)) pdo_none)))) pds_nil) (pds_cons (ks1 := [.any, .any, .new, .new, .new, .new, .un]) (pd1_if (pdt_cmp (od_eq (un64 hr)) (pd_var (m := .new) (pv 5)) pd_int) (pds_one (pd1_ret (pd_op od_add (pd_op od_add (pd_slS (pd_var (m := .any) (pv 1)) pdo_none (pdo_some (pd_var (m := .new) (pv 4)))) (pd_var (m := .new) (pv 3))) (pd_slS (pd_var (m := .any) (pv 1)) (pdo_some (pd_op od_add (pd_var (m := .new) (pv 4)) pd_int)) pdo_none)))) pds_nil) (pds_cons (ks1 := [.any, .any, .new, .new, .new, .new, .new]) (pd1_set (j := 6) sc__law_spoilt.nd (pd_le (pd_lst (pdl_cons pd_str (pdl_cons pd_str (pdl_cons pd_str (pdl_cons pd_str (pdl_cons pd_str (pdl_cons pd_str (pdl_cons pd_str (pdl_cons pd_str (pdl_cons pd_str (pdl_cons pd_str (pdl_cons pd_str (pdl_cons pd_str (pdl_cons pd_str pdl_nil)))))))))))))))) (pds_cons (ks1 := [.any, .any, .new, .new, .new, .new, .new]) (pd1_set (j := 6) sc__law_spoilt.nd (pd_le (pd_cat (pd_var (m := .new) (pv 6)) (pd_le (pd_lst (pdl_cons pd_str (pdl_cons pd_str (pdl_cons pd_str (pdl_cons pd_str (pdl_cons (pd_join pd_str (pd_rep (pd_lst (pdl_cons (pd_join pd_str (pd_rep (pd_lst (pdl_cons pd_str pdl_nil)) pd_int)) pdl_nil)) pd_int)) (pdl_cons pd_str (pdl_cons pd_str pdl_nil)))))))))))) (pds_one (pd1_ret (pd_ix (m := .new) (pd_var (m := .new) (pv 6)) (pd_op od_mod (pd_callC c__law_cell_at (hr.mono (by decide)) passD (pdl_cons (pd_B (pd_var (m := .any) (pv 0))) (pdl_cons (pd_B pd_int) pdl_nil))) pd_int)))))))))))))⟩
theorem ok_law (T : Tx K mg C_NoNote t_FIGURES t_MOST) {f : Addr} {fd : FuncData} (F : Fun K "law" "law" st_law f fd) (c__law_cell_at : Cal P w K mg base "_law_cell_at" ["script", "k"] 3 2 .new d__law_cell_at) (c__law_draw : Cal P w K mg base "_law_draw" ["cell", "k", "bound"] 3 3 .new d__law_draw) (c__law_due : Cal P w K mg base "_law_due" ["text"] 3 1 .new d__law_due) (c__law_spoilt : Cal P w K mg base "_law_spoilt" ["script", "text"] 3 2 .new d__law_spoilt) (c__law_told : Cal P w K mg base "_law_told" ["text"] 3 1 .new d__law_told_k14) : FnOk P w K mg base (L2.CX P w) 4 f fd ["script"] (Pr K mg 1 .new d_law_k14) :=
  fn_pdN F sc_law rfl fun cdv A outer s H E hr => ⟨[.un, .un, .un, .un, .un, .un, .un, .un, .un, .un, .un], (pds_cons (ks1 := [.any, .new, .un, .un, .un, .un, .un, .un, .un, .un, .un]) (pd1_set (j := 1) sc_law.nd (pd_op od_add pd_int (pd_op od_mod (pd_callC c__law_cell_at (hr.mono (by decide)) passD (pdl_cons (pd_B (pd_var (m := .any) (pv 0))) (pdl_cons (pd_B pd_int) pdl_nil))) pd_int))) (pds_cons (ks1 := [.any, .new, .new, .un, .un, .un, .un, .un, .un, .un, .un]) (pd1_set (j := 2) sc_law.nd (pd_callC c__law_cell_at (hr.mono (by decide)) passD (pdl_cons (pd_B (pd_var (m := .any) (pv 0))) (pdl_cons (pd_B pd_int) pdl_nil)))) (pds_cons (ks1 := [.any, .new, .new, .new, .un, .un, .un, .un, .un, .un, .un]) (pd1_setLc (m := .new) (own := [("a", 7)]) (ks1 := [.any, .new, .new, .un, .un, .un, .un, .new, .un, .un, .un]) (j := 3) rfl sc_law.nd rfl rfl (sw_true rfl rfl rfl (by decide +kernel)) (PDI.weak (pdi_r1 (pd_var (m := .new) (pv 1)) T.b_range)) (blkOk_by (own := [("a", 7)]) (by kernel_rfl)) ⟨fun _ _ _ _ _ => (pdg_name (j := 7) (my := .new) sc_law.nd), fun _ _ _ _ _ => pdts_nil, fun _ _ _ _ _ => (pd_le (pd_comp (own := [("b", 8)]) (ks1 := [.any, .new, .new, .un, .un, .un, .un, .new, .new, .un, .un]) rfl sc_law.nd (PDI.weak (pdi_r1 (pd_var (m := .new) (pv 1)) T.b_range)) (blkOk_by (own := [("b", 8)]) (by kernel_rfl)) ⟨fun _ _ _ _ _ => (pdg_name (j := 8) (my := .new) sc_law.nd), fun _ _ _ _ _ => pdts_nil, fun _ _ _ _ _ => (pd_callC c__law_draw (hr.mono (by decide)) passB (pdl_cons (pd_B (pd_var (m := .new) (pv 2))) (pdl_cons (pd_B (pd_op od_add (pd_op od_mul (pd_var (m := .new) (pv 7)) (pd_var (m := .new) (pv 1))) (pd_var (m := .new) (pv 8)))) (pdl_cons (pd_B (pd_var (m := .new) (pv 1))) pdl_nil))))⟩))⟩) (pds_cons (ks1 := [.any, .new, .new, .new, .new, .un, .un, .un, .un, .un, .un]) (pd1_set (j := 4) sc_law.nd (pd_join pd_str (pd_comp (own := [("row", 9)]) (ks1 := [.any, .new, .new, .new, .un, .un, .un, .un, .un, .new, .un]) rfl sc_law.nd (PDI.weak (pdi_list (m := .new) (pd_var (m := .new) (pv 3)))) (blkOk_by (own := [("row", 9)]) (by kernel_rfl)) ⟨fun _ _ _ _ _ => (pdg_name (j := 9) (my := .new) sc_law.nd), fun _ _ _ _ _ => pdts_nil, fun _ _ _ _ _ => (pd_join pd_str (pd_comp (own := [("number", 10)]) (ks1 := [.any, .new, .new, .new, .un, .un, .un, .un, .un, .new, .new]) rfl sc_law.nd (PDI.weak (pdi_list (m := .new) (pd_var (m := .new) (pv 9)))) (blkOk_by (own := [("number", 10)]) (by kernel_rfl)) ⟨fun _ _ _ _ _ => (pdg_name (j := 10) (my := .new) sc_law.nd), fun _ _ _ _ _ => pdts_nil, fun _ _ _ _ _ => (pd_t1 cd_str (pd_var (m := .new) (pv 10)) T.b_str boot_str)⟩))⟩))) (pds_cons (ks1 := [.any, .new, .new, .new, .new, .un, .un, .un, .un, .un, .un]) (pd1_if (pdt_cmp od_gt (pd_op od_mod (pd_callC c__law_cell_at (hr.mono (by decide)) passD (pdl_cons (pd_B (pd_var (m := .any) (pv 0))) (pdl_cons (pd_B pd_int) pdl_nil))) pd_int) pd_int) (pds_one (pd1_set (j := 4) sc_law.nd (pd_callC c__law_spoilt (hr.mono (by decide)) passD (pdl_cons (pd_B (pd_var (m := .any) (pv 0))) (pdl_cons (pd_B (pd_var (m := .new) (pv 4))) pdl_nil))))) pds_nil) (pds_cons (ks1 := [.any, .new, .new, .new, .new, .new, .un, .un, .un, .un, .un]) (pd1_set (j := 5) sc_law.nd (pd_callC c__law_due (hr.mono (by decide)) passD (pdl_cons (pd_B (pd_var (m := .new) (pv 4))) pdl_nil))) (pds_cons (ks1 := [.any, .new, .new, .new, .new, .new, .new, .un, .un, .un, .un]) (pd1_set (j := 6) sc_law.nd (pd_callC c__law_told (hr.mono (by decide)) passD (pdl_cons (pd_B (pd_var (m := .new) (pv 4))) pdl_nil))) (pds_cons (ks1 := [.any, .new, .new, .new, .new, .new, .new, .un, .un, .un, .un]) (pd1_if (pdt_cmp od_isN (pd_var (m := .new) (pv 5)) pd_non) (pds_one (pd1_ret (pd_cmp (od_eq (un64 hr)) (pd_var (m := .new) (pv 6)) pd_str))) pds_nil) (pds_one (pd1_ret (pd_and (pd_isi (pd_var (m := .new) (pv 6)) isList_ok isList_ex T.b_isinstance T.b_list boot_list) (pd_one (pd_cmp (od_eq (un64 hr)) (pd_var (m := .new) (pv 6)) (pd_var (m := .new) (pv 5)))))))))))))))⟩
end
set_option maxHeartbeats 0 in
theorem all_mk {P : Program} {w : World} {K : PySem.W.Frag} {h : Heap} {mg : Str → Option Value} {fa f0 f1 f2 f3 f4 f5 f6 f7 f8 f9 C_NoNote : Addr} {t_FIGURES t_MOST : Tok} (X : K.In h) (G : h.Ns mainGlobals mg) (hfa : mg "law" = some (.ref fa))
    {od0 an0 od1 an1 od2 an2 od3 an3 od4 an4 od5 an5 od6 an6 od7 an7 od8 an8 od9 an9 : Option Addr} {sl0 sl1 sl2 sl3 sl4 sl5 sl6 sl7 sl8 sl9 : Array (Option Value)} {oc0 kV0 dc0 pm0 cd0 ct0 oc1 kV1 dc1 pm1 cd1 ct1 oc2 kV2 dc2 pm2 cd2 ct2 oc3 kV3 dc3 pm3 cd3 ct3 oc4 kV4 dc4 pm4 cd4 ct4 oc5 kV5 dc5 pm5 cd5 ct5 oc6 kV6 dc6 pm6 cd6 ct6 oc7 kV7 dc7 pm7 cd7 ct7 oc8 kV8 dc8 pm8 cd8 ct8 oc9 kV9 dc9 pm9 cd9 ct9 : Value}
    (a0 : PySem.W.nsIn K mainGlobals "is_table" = some (some (.ref f0))) (l0 : K.lookup f0 = some ⟨oc0, od0, .func (PySem.W.fnOf "is_table" "is_table" (defArgs st_is_table) (defBody st_is_table) (defScope st_is_table) .none kV0 dc0 pm0 an0 cd0 ct0), sl0⟩) (q0 : PySem.W.codeIn K cd0 "is_table" = true) (k0 : PySem.W.keepIn K (.ref f0) = true)
    (a1 : PySem.W.nsIn K mainGlobals "number_of" = some (some (.ref f1))) (l1 : K.lookup f1 = some ⟨oc1, od1, .func (PySem.W.fnOf "number_of" "number_of" (defArgs st_number_of) (defBody st_number_of) (defScope st_number_of) .none kV1 dc1 pm1 an1 cd1 ct1), sl1⟩) (q1 : PySem.W.codeIn K cd1 "number_of" = true) (k1 : PySem.W.keepIn K (.ref f1) = true)
    (a2 : PySem.W.nsIn K mainGlobals "read" = some (some (.ref f2))) (l2 : K.lookup f2 = some ⟨oc2, od2, .func (PySem.W.fnOf "read" "read" (defArgs st_read) (defBody st_read) (defScope st_read) .none kV2 dc2 pm2 an2 cd2 ct2), sl2⟩) (q2 : PySem.W.codeIn K cd2 "read" = true) (k2 : PySem.W.keepIn K (.ref f2) = true)
    (a3 : PySem.W.nsIn K mainGlobals "_law_cell_at" = some (some (.ref f3))) (l3 : K.lookup f3 = some ⟨oc3, od3, .func (PySem.W.fnOf "_law_cell_at" "_law_cell_at" (defArgs st__law_cell_at) (defBody st__law_cell_at) (defScope st__law_cell_at) .none kV3 dc3 pm3 an3 cd3 ct3), sl3⟩) (q3 : PySem.W.codeIn K cd3 "_law_cell_at" = true) (k3 : PySem.W.keepIn K (.ref f3) = true)
    (a4 : PySem.W.nsIn K mainGlobals "_law_draw" = some (some (.ref f4))) (l4 : K.lookup f4 = some ⟨oc4, od4, .func (PySem.W.fnOf "_law_draw" "_law_draw" (defArgs st__law_draw) (defBody st__law_draw) (defScope st__law_draw) .none kV4 dc4 pm4 an4 cd4 ct4), sl4⟩) (q4 : PySem.W.codeIn K cd4 "_law_draw" = true) (k4 : PySem.W.keepIn K (.ref f4) = true)
    (a5 : PySem.W.nsIn K mainGlobals "_law_word_of" = some (some (.ref f5))) (l5 : K.lookup f5 = some ⟨oc5, od5, .func (PySem.W.fnOf "_law_word_of" "_law_word_of" (defArgs st__law_word_of) (defBody st__law_word_of) (defScope st__law_word_of) .none kV5 dc5 pm5 an5 cd5 ct5), sl5⟩) (q5 : PySem.W.codeIn K cd5 "_law_word_of" = true) (k5 : PySem.W.keepIn K (.ref f5) = true)
    (a6 : PySem.W.nsIn K mainGlobals "_law_due" = some (some (.ref f6))) (l6 : K.lookup f6 = some ⟨oc6, od6, .func (PySem.W.fnOf "_law_due" "_law_due" (defArgs st__law_due) (defBody st__law_due) (defScope st__law_due) .none kV6 dc6 pm6 an6 cd6 ct6), sl6⟩) (q6 : PySem.W.codeIn K cd6 "_law_due" = true) (k6 : PySem.W.keepIn K (.ref f6) = true)
    (a7 : PySem.W.nsIn K mainGlobals "_law_told" = some (some (.ref f7))) (l7 : K.lookup f7 = some ⟨oc7, od7, .func (PySem.W.fnOf "_law_told" "_law_told" (defArgs st__law_told) (defBody st__law_told) (defScope st__law_told) .none kV7 dc7 pm7 an7 cd7 ct7), sl7⟩) (q7 : PySem.W.codeIn K cd7 "_law_told" = true) (k7 : PySem.W.keepIn K (.ref f7) = true)
    (a8 : PySem.W.nsIn K mainGlobals "_law_spoilt" = some (some (.ref f8))) (l8 : K.lookup f8 = some ⟨oc8, od8, .func (PySem.W.fnOf "_law_spoilt" "_law_spoilt" (defArgs st__law_spoilt) (defBody st__law_spoilt) (defScope st__law_spoilt) .none kV8 dc8 pm8 an8 cd8 ct8), sl8⟩) (q8 : PySem.W.codeIn K cd8 "_law_spoilt" = true) (k8 : PySem.W.keepIn K (.ref f8) = true)
    (a9 : PySem.W.nsIn K mainGlobals "law" = some (some (.ref f9))) (l9 : K.lookup f9 = some ⟨oc9, od9, .func (PySem.W.fnOf "law" "law" (defArgs st_law) (defBody st_law) (defScope st_law) .none kV9 dc9 pm9 an9 cd9 ct9), sl9⟩) (q9 : PySem.W.codeIn K cd9 "law" = true) (k9 : PySem.W.keepIn K (.ref f9) = true)
    (b_ValueError : PySem.W.nsIn K mainGlobals "ValueError" = some none)
    (b_int : PySem.W.nsIn K mainGlobals "int" = some none)
    (b_isinstance : PySem.W.nsIn K mainGlobals "isinstance" = some none)
    (b_len : PySem.W.nsIn K mainGlobals "len" = some none)
    (b_list : PySem.W.nsIn K mainGlobals "list" = some none)
    (b_max : PySem.W.nsIn K mainGlobals "max" = some none)
    (b_min : PySem.W.nsIn K mainGlobals "min" = some none)
    (b_range : PySem.W.nsIn K mainGlobals "range" = some none)
    (b_str : PySem.W.nsIn K mainGlobals "str" = some none)
    (c_FIGURES : PySem.W.nsIn K mainGlobals "FIGURES" = some (some (.str "0123456789" t_FIGURES)))
    (c_MOST : PySem.W.nsIn K mainGlobals "MOST" = some (some (.int 12 t_MOST)))
    (g_NoNote : PySem.W.nsIn K mainGlobals "NoNote" = some (some (.ref C_NoNote))) (q_NoNote : PySem.W.excIn K C_NoNote [.type "ValueError", .type "Exception", .type "BaseException", .type "object"] "ValueError.__new__" = true) (k_NoNote : PySem.W.keepIn K (.ref C_NoNote) = true) (s_NoNote : PySem.W.subIn K (.ref C_NoNote) (.type "BaseException") = some true) (t_NoNote : PySem.W.typeIn K (.ref C_NoNote) = some (.type "type"))
    {D_NoTable : Addr} (y_NoTable : PySem.W.nsIn K mainGlobals "NoTable" = some (some (.ref D_NoTable)))
    {D_NoFolk : Addr} (y_NoFolk : PySem.W.nsIn K mainGlobals "NoFolk" = some (some (.ref D_NoFolk)))
    {D_NoElement : Addr} (y_NoElement : PySem.W.nsIn K mainGlobals "NoElement" = some (some (.ref D_NoElement)))
    {D_NoPart : Addr} (y_NoPart : PySem.W.nsIn K mainGlobals "NoPart" = some (some (.ref D_NoPart)))
    {D_NotLoose : Addr} (y_NotLoose : PySem.W.nsIn K mainGlobals "NotLoose" = some (some (.ref D_NotLoose)))
    {D_TooLarge : Addr} (y_TooLarge : PySem.W.nsIn K mainGlobals "TooLarge" = some (some (.ref D_TooLarge)))
    {D_NoNote : Addr} (y_NoNote : PySem.W.nsIn K mainGlobals "NoNote" = some (some (.ref D_NoNote)))
    {D_FolkError : Addr} (y_FolkError : PySem.W.nsIn K mainGlobals "FolkError" = some (some (.ref D_FolkError)))
    (hx : ExK K D_FolkError (ecA D_NoTable D_NoFolk D_NoElement D_NoPart D_NotLoose D_TooLarge D_NoNote))
    : ∃ fd : FuncData, (∀ (s : Shared) (v : Value), BindsTo s fd ⟨[v], []⟩ [("script", v)]) ∧ ∀ base : Heap, K.In base → base.Ns mainGlobals mg → FnOk P w K mg base (L2.CX P w) 4 fa fd ["script"] (Pr K mg 1 .new d_law_k14) := by
  have e := hfa.symm.trans (PySem.W.mg_of X G a9)
  cases e
  have F0 := fun_mk (st := st_is_table) l0 q0 k0
  have F1 := fun_mk (st := st_number_of) l1 q1 k1
  have F2 := fun_mk (st := st_read) l2 q2 k2
  have F3 := fun_mk (st := st__law_cell_at) l3 q3 k3
  have F4 := fun_mk (st := st__law_draw) l4 q4 k4
  have F5 := fun_mk (st := st__law_word_of) l5 q5 k5
  have F6 := fun_mk (st := st__law_due) l6 q6 k6
  have F7 := fun_mk (st := st__law_told) l7 q7 k7
  have F8 := fun_mk (st := st__law_spoilt) l8 q8 k8
  have F9 := fun_mk (st := st_law) l9 q9 k9
  have B0 : ∀ c : Unit, Binds K _ ["table"] [] := fun _ => F0.binds (ps := ["table"]) fun _ _ _ _ _ _ us hl => match us, hl with | [_], _ => rfl
  have B1 : ∀ c : Unit, Binds K _ ["word"] [] := fun _ => F1.binds (ps := ["word"]) fun _ _ _ _ _ _ us hl => match us, hl with | [_], _ => rfl
  have B2 : ∀ c : Unit, Binds K _ ["text"] [] := fun _ => F2.binds (ps := ["text"]) fun _ _ _ _ _ _ us hl => match us, hl with | [_], _ => rfl
  have B3 : ∀ c : Unit, Binds K _ ["script", "k"] [] := fun _ => F3.binds (ps := ["script", "k"]) fun _ _ _ _ _ _ us hl => match us, hl with | [_, _], _ => rfl
  have B4 : ∀ c : Unit, Binds K _ ["cell", "k", "bound"] [] := fun _ => F4.binds (ps := ["cell", "k", "bound"]) fun _ _ _ _ _ _ us hl => match us, hl with | [_, _, _], _ => rfl
  have B5 : ∀ c : Unit, Binds K _ ["e"] [] := fun _ => F5.binds (ps := ["e"]) fun _ _ _ _ _ _ us hl => match us, hl with | [_], _ => rfl
  have B6 : ∀ c : Unit, Binds K _ ["text"] [] := fun _ => F6.binds (ps := ["text"]) fun _ _ _ _ _ _ us hl => match us, hl with | [_], _ => rfl
  have B7 : ∀ c : Unit, Binds K _ ["text"] [] := fun _ => F7.binds (ps := ["text"]) fun _ _ _ _ _ _ us hl => match us, hl with | [_], _ => rfl
  have B8 : ∀ c : Unit, Binds K _ ["script", "text"] [] := fun _ => F8.binds (ps := ["script", "text"]) fun _ _ _ _ _ _ us hl => match us, hl with | [_, _], _ => rfl
  have B9 : ∀ c : Unit, Binds K _ ["script"] [] := fun _ => F9.binds (ps := ["script"]) fun _ _ _ _ _ _ us hl => match us, hl with | [_], _ => rfl
  have T : Tx K mg C_NoNote t_FIGURES t_MOST := ⟨PySem.W.mg_none_of X G b_ValueError, PySem.W.mg_none_of X G b_int, PySem.W.mg_none_of X G b_isinstance, PySem.W.mg_none_of X G b_len, PySem.W.mg_none_of X G b_list, PySem.W.mg_none_of X G b_max, PySem.W.mg_none_of X G b_min, PySem.W.mg_none_of X G b_range, PySem.W.mg_none_of X G b_str, PySem.W.mg_of X G c_FIGURES, PySem.W.mg_of X G c_MOST, q_NoNote, PySem.W.mg_of X G g_NoNote, k_NoNote, s_NoNote, t_NoNote⟩
  have XG : ∀ c : EC, mg c.nm = some (.ref (ecA D_NoTable D_NoFolk D_NoElement D_NoPart D_NotLoose D_TooLarge D_NoNote c)) := fun c => match c with | .NoTable => PySem.W.mg_of X G y_NoTable | .NoFolk => PySem.W.mg_of X G y_NoFolk | .NoElement => PySem.W.mg_of X G y_NoElement | .NoPart => PySem.W.mg_of X G y_NoPart | .NotLoose => PySem.W.mg_of X G y_NotLoose | .TooLarge => PySem.W.mg_of X G y_TooLarge | .NoNote => PySem.W.mg_of X G y_NoNote
  refine ⟨PySem.W.fnOf "law" "law" (defArgs st_law) (defBody st_law) (defScope st_law) .none kV9 dc9 pm9 an9 cd9 ct9, fun s v => .of_eq (by rfl), fun base _ _ => ?_⟩
  have O0 := ok_is_table (P := P) (w := w) (base := base) T F0 
  have O1 := ok_number_of (P := P) (w := w) (base := base) T F1 
  have O2 := ok_read (P := P) (w := w) (base := base) T F2 ⟨⟨_, _, PySem.W.mg_of X G a0, k0, B0 (), O0.mono (by decide)⟩⟩ ⟨⟨_, _, PySem.W.mg_of X G a1, k1, B1 (), O1.mono (by decide)⟩⟩
  have O3 := ok__law_cell_at (P := P) (w := w) (base := base) T F3 
  have O4 := ok__law_draw (P := P) (w := w) (base := base) T F4 
  have O5 := ok__law_word_of (P := P) (w := w) (base := base) T hx XG F5
  have O6 := ok__law_due (P := P) (w := w) (base := base) T F6 
  have O7 := ok__law_told (P := P) (w := w) (base := base) T hx XG (PySem.W.mg_of X G y_FolkError) F7 ⟨⟨_, _, PySem.W.mg_of X G a5, k5, B5 (), O5⟩⟩ ⟨⟨_, _, PySem.W.mg_of X G a2, k2, B2 (), O2.mono (by decide)⟩⟩
  have O8 := ok__law_spoilt (P := P) (w := w) (base := base) T F8 ⟨⟨_, _, PySem.W.mg_of X G a3, k3, B3 (), O3.mono (by decide)⟩⟩
  exact ok_law T F9 ⟨⟨_, _, PySem.W.mg_of X G a3, k3, B3 (), O3.mono (by decide)⟩⟩ ⟨⟨_, _, PySem.W.mg_of X G a4, k4, B4 (), O4.mono (by decide)⟩⟩ ⟨⟨_, _, PySem.W.mg_of X G a6, k6, B6 (), O6.mono (by decide)⟩⟩ ⟨⟨_, _, PySem.W.mg_of X G a8, k8, B8 (), O8.mono (by decide)⟩⟩ ⟨⟨_, _, PySem.W.mg_of X G a7, k7, B7 (), O7.mono (by decide)⟩⟩
end Tf.K14
open PySem PySem.W PyProof.Rows
set_option maxHeartbeats 0 in
theorem PySem.Challenge.cw_tablefolk_k14_read_or_refused_holds : PySem.Challenge.rw_tablefolk_k14_read_or_refused.Holds := by
  w_on; o_law; k_head; (case hw => w_witness2)
  k_fill
  refine L2.walk_ofB (l := PySem.Challenge.rw_tablefolk_k14_read_or_refused) (n := 63) (k := 4) (x := "script") (CX := fun w => L2.CX PySem.Challenge.rw_tablefolk_k14_read_or_refused.prog w) (sp := fun w => Tf.spL _) rfl (by decide) rfl ⟨rfl, by decide, by decide⟩ (fun w h Y => PySem.W.kIn_of Y) ?F (fun _ _ a ns hl hb _ hS => ⟨a, ns, rfl, hS, hl, hb, fun _ => rfl⟩) ?X
  case F =>
    intro w mg fa h KX G hmg
    refine' Tf.law_fit (fun ns hl _ => Tf.K14.law_true ns hl) (Tf.K14.all_mk KX G hmg ?a0 ?l0 ?q0 ?k0 ?a1 ?l1 ?q1 ?k1 ?a2 ?l2 ?q2 ?k2 ?a3 ?l3 ?q3 ?k3 ?a4 ?l4 ?q4 ?k4 ?a5 ?l5 ?q5 ?k5 ?a6 ?l6 ?q6 ?k6 ?a7 ?l7 ?q7 ?k7 ?a8 ?l8 ?q8 ?k8 ?a9 ?l9 ?q9 ?k9 ?b_ValueError ?b_int ?b_isinstance ?b_len ?b_list ?b_max ?b_min ?b_range ?b_str ?c_FIGURES ?c_MOST ?g_NoNote ?q_NoNote ?k_NoNote ?s_NoNote ?t_NoNote ?y_NoTable ?y_NoFolk ?y_NoElement ?y_NoPart ?y_NotLoose ?y_TooLarge ?y_NoNote ?y_FolkError ?hx)
    (case a0 => k_is)
    (case l0 => k_is)
    (case q0 => k_is)
    (case k0 => k_is)
    (case a1 => k_is)
    (case l1 => k_is)
    (case q1 => k_is)
    (case k1 => k_is)
    (case a2 => k_is)
    (case l2 => k_is)
    (case q2 => k_is)
    (case k2 => k_is)
    (case a3 => k_is)
    (case l3 => k_is)
    (case q3 => k_is)
    (case k3 => k_is)
    (case a4 => k_is)
    (case l4 => k_is)
    (case q4 => k_is)
    (case k4 => k_is)
    (case a5 => k_is)
    (case l5 => k_is)
    (case q5 => k_is)
    (case k5 => k_is)
    (case a6 => k_is)
    (case l6 => k_is)
    (case q6 => k_is)
    (case k6 => k_is)
    (case a7 => k_is)
    (case l7 => k_is)
    (case q7 => k_is)
    (case k7 => k_is)
    (case a8 => k_is)
    (case l8 => k_is)
    (case q8 => k_is)
    (case k8 => k_is)
    (case a9 => k_is)
    (case l9 => k_is)
    (case q9 => k_is)
    (case k9 => k_is)
    (case b_ValueError => k_is)
    (case b_int => k_is)
    (case b_isinstance => k_is)
    (case b_len => k_is)
    (case b_list => k_is)
    (case b_max => k_is)
    (case b_min => k_is)
    (case b_range => k_is)
    (case b_str => k_is)
    (case c_FIGURES => k_is)
    (case c_MOST => k_is)
    (case g_NoNote => k_is)
    (case q_NoNote => k_exc)
    (case k_NoNote => k_is)
    (case s_NoNote => k_is)
    (case t_NoNote => k_is)
    (case y_NoTable => k_is)
    (case y_NoFolk => k_is)
    (case y_NoElement => k_is)
    (case y_NoPart => k_is)
    (case y_NotLoose => k_is)
    (case y_TooLarge => k_is)
    (case y_NoNote => k_is)
    (case y_FolkError => k_is)
    (case hx => exact ⟨fun c => by cases c <;> exact ⟨by k_is, by k_is, by k_is, by k_is, by k_is, by k_is, by k_is, by k_is⟩, fun c => by cases c <;> k_is, fun c k => by cases c <;> cases k <;> k_is, fun c => by cases c <;> k_is, fun c => by cases c <;> k_is, by k_is, by k_is, by k_is⟩)
  case X =>
    intro w H s e s1 h
    obtain ⟨_, _, _, _, _, _, _, _, _, _, _, _, z⟩ := h
    exact z
