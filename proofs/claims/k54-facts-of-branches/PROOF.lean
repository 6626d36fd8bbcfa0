import PyProof.Rows.All
import Wide.All
import OpenK.AllK
import Wide.FinOn
import HandS.ForMost
import HandS.ForExc
import HandS.Flow
import HandS.Wide
import HandS.WideBits
import HandS.Deep
import HandS.IsInst
import HandS.SortInts
import HandS.TupAny
import HandS.CallSlots
import HandS.Head0
import HandS.Head1
import HandS.Head2
import HandS.HeadEnd
import HandS.HeadHook1
import HandS.HeadHook2
import HandS.Defaults
import HandS.Rev
import HandS.Conv
import HandS.Dict
import HandS.More
import HandS.WordsDict
import HandS.AnyAll
import HandS.EndTab
import HandS.Strs
import HandS.Style
import HandS.TupLe
import PyProof.Rows.SortShellAny
import HandS.Set
import HandS.SetFor
import HandS.Zip
import HandS.Nested
import HandS.DictComp
import HandS.NoneIn
import PySem.Challenge.RW_unweave_k54_facts_of_branches
section
set_option Elab.async false
set_option linter.all false
set_option maxRecDepth 100000
set_option maxHeartbeats 4000000
/-! MP, part a: a small language with a functional meaning. -/
namespace MP
open PySem

/-! ### values, objects, results -/
inductive MV where
  | non | bl (b : Bool) | int (i : Int) | str (x : Str) | tup (xs : List MV) | rol (xs : List MV) | loc (l : Nat) | ty (n : String) | cls (c : Nat)
inductive MO where
  | lst (xs : List MV)
  | dct (ks : List L2.Key) (xs : List MV)
  | ins (c : Str) (ns : List Str) (xs : List MV)
  | tbl (x : Str × Option Str)
abbrev MH := List MO
structure Exn where
  c : Nat
  fs : List (Nat × MV)
inductive Res (α : Type) where
  | ok (a : α) (h : MH) | exc (x : Exn) (h : MH) | bad
namespace Res
def bind {α β : Type} : Res α → (α → MH → Res β) → Res β
  | .ok a h, f => f a h
  | .exc x h, _ => .exc x h
  | .bad, _ => .bad
@[simp] theorem bind_ok {α β : Type} (a : α) (h : MH) (f : α → MH → Res β) : (Res.ok a h).bind f = f a h := rfl
@[simp] theorem bind_exc {α β : Type} (x : Exn) (h : MH) (f : α → MH → Res β) : (Res.exc x h : Res α).bind f = .exc x h := rfl
@[simp] theorem bind_bad {α β : Type} (f : α → MH → Res β) : (Res.bad : Res α).bind f = .bad := rfl
end Res
abbrev En := List (Option MV)
/-- how a statement ends -/
inductive SR where
  | nx (e : En) (h : MH) | rt (v : MV) (h : MH) | bk (e : En) (h : MH) | ct (e : En) (h : MH) | exc (x : Exn) (e : En) (h : MH) | bad


/-! ### data under == (a mutual pair of relations; dat reads them) -/
mutual
inductive Dn (h : MH) : MV → PyData → Prop
  | non : Dn h .non .none
  | bl (b : Bool) : Dn h (.bl b) (.bool b)
  | int (i : Int) : Dn h (.int i) (.int i)
  | str (x : Str) : Dn h (.str x) (.str x)
  | tup {xs : List MV} {ds : List PyData} : Dns h xs ds → Dn h (.tup xs) (.tuple ds)
  | rol {xs : List MV} {ds : List PyData} : Dns h xs ds → Dn h (.rol xs) (.list ds)
  | loc {l : Nat} {xs : List MV} {ds : List PyData} : h[l]? = some (.lst xs) → Dns h xs ds → Dn h (.loc l) (.list ds)
inductive Dns (h : MH) : List MV → List PyData → Prop
  | nil : Dns h [] []
  | cons {x : MV} {xs : List MV} {d : PyData} {ds : List PyData} : Dn h x d → Dns h xs ds → Dns h (x :: xs) (d :: ds)
end
mutual
theorem Dn.inj {h : MH} : ∀ {d d' : PyData} {v : MV}, Dn h v d → Dn h v d' → d = d'
  | .none, _, _, .non, .non => rfl
  | .bool _, _, _, .bl _, .bl _ => rfl
  | .int _, _, _, .int _, .int _ => rfl
  | .str _, _, _, .str _, .str _ => rfl
  | .tuple ds, _, _, .tup a, .tup b => by rw [Dns.inj a b]
  | .list ds, _, _, .rol a, .rol b => by rw [Dns.inj a b]
  | .list ds, _, _, .loc e a, .loc e' b => by
    rw [e] at e'
    cases e'
    rw [Dns.inj a b]
theorem Dns.inj {h : MH} : ∀ {ds ds' : List PyData} {xs : List MV}, Dns h xs ds → Dns h xs ds' → ds = ds'
  | [], _, _, .nil, .nil => rfl
  | d :: ds, _, _, .cons a r, .cons b s => by rw [Dn.inj a b, Dns.inj r s]
end
open Classical in
noncomputable def dat (h : MH) (v : MV) : Option PyData := if e : ∃ d, Dn h v d then some (Classical.choose e) else none
theorem dat_of {h : MH} {v : MV} {d : PyData} (x : Dn h v d) : dat h v = some d := by
  have e : ∃ d, Dn h v d := ⟨d, x⟩
  unfold dat
  rw [dif_pos e, Dn.inj (Classical.choose_spec e) x]
theorem of_dat {h : MH} {v : MV} {d : PyData} (e : dat h v = some d) : Dn h v d := by
  unfold dat at e
  split at e
  · rename_i x
    rw [← Option.some.inj e]
    exact Classical.choose_spec x
  · cases e

/-! ### operations -/
inductive BOp where
  | add | sub | mul | fdiv | mod | pow
  deriving DecidableEq
inductive COp where
  | eq | ne | lt | le | gt | ge | is | isn | inn | nin
  deriving DecidableEq
inductive Bi where
  | len | min2 | max2 | abs | int | list | tuple | sum | isInt | isBool | sorted | isList | isTup | isStr | maxL | minL | allL | anyL | lrng | sset
  deriving DecidableEq
inductive Mt where
  | append | pop | popAt | index
  deriving DecidableEq
inductive IK where
  | val | rng1 | rng2 | rev | zip
  deriving DecidableEq
inductive Tg where
  | nm (i : Nat) | tp (is : List Nat)
  deriving DecidableEq

def addO (x y : MV) (h : MH) : Option (MV × MH) := match x, y with
  | .int i, .int j => some (.int (i + j), h)
  | .str a, .str b => if a.length + b.length ≤ sizeLine then some (.str (a ++ b), h) else none
  | .tup xs, .tup ys => if xs.length + ys.length ≤ sizeLine then some (.tup (xs ++ ys), h) else none
  | .loc a, .loc b => match h[a]?, h[b]? with
    | some (.lst xs), some (.lst ys) => if xs.length + ys.length ≤ sizeLine then some (.loc h.length, h ++ [.lst (xs ++ ys)]) else none
    | _, _ => none
  | _, _ => none
/-- x op= y on a name -/
def augO (o : BOp) (x y : MV) (h : MH) : Option (MV × MH) := match o, x, y with
  | .add, .int i, .int j => some (.int (i + j), h)
  | .sub, .int i, .int j => some (.int (i - j), h)
  | .mul, .int i, .int j => if CMulB i j then some (.int (i * j), h) else none
  | .add, .loc a, .loc b => match h[a]?, h[b]? with
    | some (.lst xs), some (.lst ys) => if xs.length + ys.length ≤ sizeLine then some (.loc a, h.set a (.lst (xs ++ ys))) else none
    | _, _ => none
  | _, _, _ => none
where CMulB (i j : Int) : Bool := (decide (-(2 ^ 64) < i) && decide (i < 2 ^ 64)) || (decide (-(2 ^ 64) < j) && decide (j < 2 ^ 64))
def binO (o : BOp) (x y : MV) (h : MH) : Option (MV × MH) := match o with
  | .add => addO x y h
  | .sub => match x, y with
    | .int i, .int j => some (.int (i - j), h)
    | _, _ => none
  | .mul => match x, y with
    | .int i, .int j => if augO.CMulB i j then some (.int (i * j), h) else none
    | .loc a, .int k => match h[a]? with
      | some (.lst xs) => if -(2 ^ 63) ≤ k ∧ k < 2 ^ 63 ∧ xs.length * k.toNat ≤ sizeLine then some (.loc h.length, h ++ [.lst (List.replicate k.toNat xs).flatten]) else none
      | _ => none
    | _, _ => none
  | .fdiv => match x, y with
    | .int i, .int j => if j ≠ 0 ∧ j.natAbs < 1073741824 then some (.int (i.fdiv j), h) else none
    | _, _ => none
  | .mod => match x, y with
    | .int i, .int j => if j ≠ 0 then some (.int (i.fmod j), h) else none
    | _, _ => none
  | .pow => match x, y with
    | .int i, .int j => if 0 ≤ j ∧ j ≤ 1000000 ∧ i.natAbs < 2 ^ 64 then some (.int (i ^ j.toNat), h) else none
    | _, _ => none

/-- data that may be compared: as the model lays it, not too deep -/
def shp (d : PyData) : Bool := d.canLay0 && decide (d.depth ≤ 128)
theorem canLay_of_shp {d : PyData} (h : shp d = true) : d.canLay0 = true := (Bool.and_eq_true_iff.mp h).1
theorem depth_of_shp {d : PyData} (h : shp d = true) : d.depth ≤ 128 := of_decide_eq_true (Bool.and_eq_true_iff.mp h).2
theorem room_shp {A : Around} {d e : PyData} (h : shp d = true) (hu : A.units + 128 < cLine) : A.units + min d.depth e.depth < cLine := by
  have h1 := depth_of_shp h
  have h2 : min d.depth e.depth ≤ d.depth := Nat.min_le_left _ _
  omega
theorem room_in_shp {A : Around} {xs : List PyData} {d : PyData} (h : shp d = true) (hu : A.units + 129 < cLine) : A.units + 1 + min (PyData.depthAll xs) d.depth < cLine := by
  have h1 := depth_of_shp h
  have h2 : min (PyData.depthAll xs) d.depth ≤ d.depth := Nat.min_le_right _ _
  omega
noncomputable def eqO (x y : MV) (h : MH) : Option Bool := match dat h x, dat h y with
  | some d, some e => if shp d = true ∧ shp e = true then some (PyData.eqv d e) else none
  | _, _ => none
def MV.isNon : MV → Bool
  | .non => true
  | _ => false
/-- a flat thing -/
def flatM : MV → Bool
  | .non | .bl _ | .int _ | .str _ => true
  | _ => false
def flatD : MV → PyData
  | .bl b => .bool b
  | .int i => .int i
  | .str x => .str x
  | _ => .none
noncomputable def inL (x y : MV) (h : MH) : Option Bool := match y with
  | .tup ys => if flatM x = true ∧ ys.all flatM = true then some (ys.any fun z => PyData.eqv (flatD z) (flatD x)) else none
  | .loc _ | .rol _ => match dat h x, dat h y with
    | some d, some (.list ds) => if shp d = true ∧ shp (.list ds) = true then some (ds.any fun z => PyData.eqv z d) else none
    | _, _ => none
  | _ => none
/-! dicts: the keys, the values -/
def keyO : MV → Option L2.Key
  | .int i => some (.inl i)
  | .str x => some (.inr x)
  | _ => none
def kIx : List L2.Key → L2.Key → Option Nat
  | [], _ => none
  | a :: r, k => if a = k then some 0 else (kIx r k).map (· + 1)
def dctO (x : MV) (h : MH) : Option (List L2.Key × List MV) := match x with
  | .loc l => match h[l]? with
    | some (.dct ks xs) => some (ks, xs)
    | _ => none
  | _ => none
def dGetO (d : List L2.Key × List MV) (y : MV) : Option (Option MV) := (keyO y).map fun k => (kIx d.1 k).bind fun i => d.2[i]?
def dPut (ks : List L2.Key) (xs : List MV) (k : L2.Key) (v : MV) : MO := match kIx ks k with
  | some i => .dct ks (xs.set i v)
  | none => .dct (ks ++ [k]) (xs ++ [v])
def dPutK (ks : List L2.Key) (xs : List MV) (k : L2.Key) (v : MV) : List L2.Key × List MV := match kIx ks k with
  | some i => (ks, xs.set i v)
  | none => (ks ++ [k], xs ++ [v])
def keyM : L2.Key → MV
  | .inl i => .int i
  | .inr x => .str x
def dIn (x y : MV) (h : MH) : Option Bool := (dctO y h).bind fun d => (keyO x).map fun k => (kIx d.1 k).isSome
noncomputable def inO (x y : MV) (h : MH) : Option Bool := (inL x y h).or (dIn x y h)
noncomputable def cmpO (o : COp) (x y : MV) (h : MH) : Option Bool := match o with
  | .eq => eqO x y h
  | .ne => (eqO x y h).map (!·)
  | .is => match y with
    | .non => some x.isNon
    | .bl b => match x with
      | .bl a => some (decide (a = b))
      | _ => none
    | _ => none
  | .isn => match y with
    | .non => some (!x.isNon)
    | .bl b => match x with
      | .bl a => some (!decide (a = b))
      | _ => none
    | _ => none
  | .inn => inO x y h
  | .nin => (inO x y h).map (!·)
  | .lt => match x, y with
    | .int i, .int j => some (decide (i < j))
    | _, _ => none
  | .le => match x, y with
    | .int i, .int j => some (decide (i ≤ j))
    | _, _ => none
  | .gt => match x, y with
    | .int i, .int j => some (decide (j < i))
    | _, _ => none
  | .ge => match x, y with
    | .int i, .int j => some (decide (j ≤ i))
    | _, _ => none
def truL (x : MV) (h : MH) : Option Bool := match x with
  | .non => some false
  | .bl b => some b
  | .int i => some (i != 0)
  | .str y => if y.length ≤ sizeLine then some ((y.length : Int) != 0) else none
  | .tup xs => some (!xs.isEmpty)
  | .rol xs => some (!xs.isEmpty)
  | .loc l => match h[l]? with
    | some (.lst xs) => some (!xs.isEmpty)
    | _ => none
  | _ => none
def truO (x : MV) (h : MH) : Option Bool := (truL x h).or ((dctO x h).map fun d => !d.1.isEmpty)
def oR {α : Type} (h : MH) : Option α → Res α
  | some a => .ok a h
  | none => .bad
@[simp] theorem oR_some {α : Type} (h : MH) (a : α) : oR h (some a) = .ok a h := rfl
@[simp] theorem oR_none {α : Type} (h : MH) : oR h (none : Option α) = .bad := rfl
def oP : Option (MV × MH) → Res MV
  | some (a, h) => .ok a h
  | none => .bad
@[simp] theorem oP_some (a : MV) (h : MH) : oP (some (a, h)) = .ok a h := rfl
@[simp] theorem oP_none : oP none = .bad := rfl
/-- the items of a list or tuple -/
def itemsO (x : MV) (h : MH) : Option (List MV) := match x with
  | .tup xs => some xs
  | .rol xs => some xs
  | .loc l => match h[l]? with
    | some (.lst xs) => some xs
    | _ => none
  | _ => none
/-- the items of a list -/
def listO (x : MV) (h : MH) : Option (List MV) := match x with
  | .rol xs => some xs
  | .loc l => match h[l]? with
    | some (.lst xs) => some xs
    | _ => none
  | _ => none
def ixL (x y : MV) (h : MH) : Option MV := match y with
  | .int i => match x with
    | .str z => if z.length ≤ sizeLine then (L2.atI z.cps.toList i).map fun c => .str ⟨#[c]⟩ else none
    | _ => (itemsO x h).bind fun xs => L2.atI xs i
  | _ => none
def ixO (x y : MV) (h : MH) : Option MV := (ixL x y h).or ((dctO x h).bind fun d => (dGetO d y).bind id)
def cutM (xs : List MV) (lo hi : Option Int) : List MV := (xs.drop (HT.sIx xs.length 0 lo)).take (HT.sIx xs.length xs.length hi - HT.sIx xs.length 0 lo)
def slO (x : MV) (l u : Option Int) (h : MH) : Option (MV × MH) := match x with
  | .loc a => match h[a]? with
    | some (.lst xs) => some (.loc h.length, h ++ [.lst (cutM xs l u)])
    | _ => none
  | .rol xs => some (.loc h.length, h ++ [.lst (cutM xs l u)])
  | .tup xs => if HT.sIx xs.length 0 l = 0 ∧ HT.sIx xs.length xs.length u = xs.length then none else some (.tup (cutM xs l u), h)
  | _ => none
def intsO : List MV → Option (List Int)
  | [] => some []
  | .int i :: r => (intsO r).map (i :: ·)
  | _ :: _ => none
def blsO : List MV → Option (List Bool)
  | [] => some []
  | .bl b :: r => (blsO r).map (b :: ·)
  | _ :: _ => none
/-- a value's type's name -/
def tyNmM (x : MV) (h : MH) : Option String := match x with
  | .int _ => some "int"
  | .bl _ => some "bool"
  | .non => some "NoneType"
  | .str _ => some "str"
  | .tup _ => some "tuple"
  | .rol _ => some "list"
  | .loc l => match h[l]? with
    | some (.lst _) => some "list"
    | _ => none
  | _ => none
def maxI : Int → List Int → Int
  | a, [] => a
  | a, b :: r => maxI (if b > a then b else a) r
def minI : Int → List Int → Int
  | a, [] => a
  | a, b :: r => minI (if b < a then b else a) r
/-- without its repetitions -/
def dedI : List Int → List Int
  | [] => []
  | x :: r => if x ∈ r then dedI r else x :: dedI r
def setI (ns : List Int) : List Int := (dedI ns).mergeSort (fun a b => decide (a ≤ b))
/- by choice, so that no kernel reckons with these numbers -/
noncomputable def rngOk (i : Int) : Bool := @decide (-(2 ^ 62) ≤ i) (Classical.propDecidable _) && @decide (i < 2 ^ 62) (Classical.propDecidable _)
noncomputable def lenOk (n : Nat) : Bool := @decide (n ≤ 16777216) (Classical.propDecidable _)
noncomputable def biL (b : Bi) (vs : List MV) (h : MH) : Option (MV × MH) := match b, vs with
  | .len, [.str x] => if x.length ≤ sizeLine then some (.int x.length, h) else none
  | .len, [x] => (itemsO x h).map fun xs => (.int xs.length, h)
  | .min2, [.int i, .int j] => some (.int (if j < i then j else i), h)
  | .max2, [.int i, .int j] => some (.int (if j > i then j else i), h)
  | .abs, [.int i] => some (.int (if i < 0 then -i else i), h)
  | .int, [.int i] => some (.int i, h)
  | .int, [.bl k] => some (.int (if k then 1 else 0), h)
  | .list, [x] => match itemsO x h with
    | some xs => some (.loc h.length, h ++ [.lst xs])
    | none => none
  | .tuple, [.tup xs] => some (.tup xs, h)
  | .tuple, [x] => (itemsO x h).map fun xs => (.tup xs, h)
  | .sum, [x] => ((listO x h).bind intsO).map fun ns => (.int ns.sum, h)
  | .isInt, [x] => match x with
    | .int _ | .bl _ => some (.bl true, h)
    | .non | .str _ | .tup _ | .rol _ => some (.bl false, h)
    | .loc l => match h[l]? with
      | some (.lst _) => some (.bl false, h)
      | _ => none
    | _ => none
  | .isBool, [x] => match x with
    | .bl _ => some (.bl true, h)
    | .int _ | .non | .str _ | .tup _ | .rol _ => some (.bl false, h)
    | .loc l => match h[l]? with
      | some (.lst _) => some (.bl false, h)
      | _ => none
    | _ => none
  | .sorted, [x] => match (listO x h).bind intsO with
    | some ns => some (.loc h.length, h ++ [.lst ((ns.mergeSort (fun a b => decide (a ≤ b))).map .int)])
    | none => none
  | .allL, [x] => ((listO x h).bind blsO).map fun bs => (.bl (bs.all id), h)
  | .anyL, [x] => ((listO x h).bind blsO).map fun bs => (.bl (bs.any id), h)
  | .isList, [x] => (tyNmM x h).map fun t => (.bl (t == "list"), h)
  | .isTup, [x] => (tyNmM x h).map fun t => (.bl (t == "tuple"), h)
  | .isStr, [x] => (tyNmM x h).map fun t => (.bl (t == "str"), h)
  | .maxL, [x] => match (listO x h).bind intsO with
    | some (n :: ns) => some (.int (maxI n ns), h)
    | _ => none
  | .minL, [x] => match (listO x h).bind intsO with
    | some (n :: ns) => some (.int (minI n ns), h)
    | _ => none
  | .sset, [x] => match (listO x h).bind intsO with
    | some ns => if ns.length < 4000 then some (.loc h.length, h ++ [.lst ((setI ns).map .int)]) else none
    | none => none
  | .lrng, [.int a, .int b] => if (rngOk a && (rngOk b && lenOk (b - a).toNat)) = true then some (.loc h.length, h ++ [.lst (((List.range (b - a).toNat).map fun (k : Nat) => a + (k : Int)).map .int)]) else none
  | _, _ => none
def keyIs : List L2.Key → Option (List Int)
  | [] => some []
  | .inl i :: r => (keyIs r).map (i :: ·)
  | _ :: _ => none
def biD (b : Bi) (vs : List MV) (h : MH) : Option (MV × MH) := match b, vs with
  | .len, [x] => (dctO x h).map fun d => (.int d.1.length, h)
  | .list, [x] => (dctO x h).map fun d => (.loc h.length, h ++ [.lst (d.1.map keyM)])
  | .sorted, [x] => (dctO x h).bind fun d => (keyIs d.1).map fun ns => (.loc h.length, h ++ [.lst ((ns.mergeSort (fun a b => decide (a ≤ b))).map .int)])
  | _, _ => none
noncomputable def biO (b : Bi) (vs : List MV) (h : MH) : Option (MV × MH) := match b with
  | .len => (biL .len vs h).or (biD .len vs h)
  | .list => (biL .list vs h).or (biD .list vs h)
  | .sorted => (biL .sorted vs h).or (biD .sorted vs h)
  | b => biL b vs h
/-- the first place of an equal flat thing -/
def idxO (x : MV) : List MV → Option Nat
  | [] => none
  | z :: r => if PyData.eqv (flatD z) (flatD x) = true then some 0 else (idxO x r).map (· + 1)
def mtO (m : Mt) (x : MV) (vs : List MV) (h : MH) : Option (MV × MH) := match x with
  | .loc l => match h[l]? with
    | some (.lst xs) => match m, vs with
      | .append, [y] => if xs.length < sizeLine then some (.non, h.set l (.lst (xs ++ [y]))) else none
      | .pop, [] => match xs[xs.length - 1]? with
        | some y => some (y, h.set l (.lst xs.dropLast))
        | none => none
      | .popAt, [.int i] => if -(2 ^ 63) ≤ i ∧ i < 2 ^ 63 then match PySem.seqIndex? i xs.length with
          | some k => match xs[k]? with
            | some y => some (y, h.set l (.lst (xs.eraseIdx k)))
            | none => none
          | none => none
        else none
      | .index, [y] => if flatM y = true ∧ xs.all flatM = true then (idxO y xs).map fun (k : Nat) => (.int (k : Int), h) else none
      | _, _ => none
    | _ => none
  | _ => none
/-- the receiver of a method, ahead of its arguments -/
def recvO (m : Mt) (x : MV) (h : MH) : Bool := match x with
  | .loc l => match h[l]? with
    | some (.lst _) => true
    | _ => false
  | _ => false
def setL (o i v : MV) (h : MH) : Option MH := match o, i with
  | .loc l, .int k => match h[l]? with
    | some (.lst xs) => (L2.ixN xs.length k).map fun j => h.set l (.lst (xs.set j v))
    | _ => none
  | _, _ => none
def setD (o i v : MV) (h : MH) : Option MH := match o with
  | .loc l => (dctO o h).bind fun d => (keyO i).bind fun k => if d.1.length < sizeLine then some (h.set l (dPut d.1 d.2 k v)) else none
  | _ => none
/-! instances -/
def insO (x : MV) (h : MH) : Option (Str × List Str × List MV) := match x with
  | .loc l => match h[l]? with
    | some (.ins c ns xs) => some (c, ns, xs)
    | _ => none
  | _ => none
def nIx : List Str → Str → Option Nat
  | [], _ => none
  | a :: r, k => if a = k then some 0 else (nIx r k).map (· + 1)
/-- the attribute f -/
def fldO (cs : List Str) (x : MV) (f : Str) (h : MH) : Option MV := (insO x h).bind fun o => if cs.contains o.1 = true then (nIx o.2.1 f).bind fun i => o.2.2[i]? else none
def fPut (c : Str) (ns : List Str) (xs : List MV) (f : Str) (v : MV) : MO := match nIx ns f with
  | some i => .ins c ns (xs.set i v)
  | none => .ins c (ns ++ [f]) (xs ++ [v])
def setFldO (cs : List Str) (o : MV) (f : Str) (v : MV) (h : MH) : Option MH := match o with
  | .loc l => (insO o h).bind fun d => if cs.contains d.1 = true ∧ d.2.1.length < 900 then some (h.set l (fPut d.1 d.2.1 d.2.2 f v)) else none
  | _ => none
/-- the texts' first place -/
def strsO : List MV → Option (List Str)
  | [] => some []
  | .str x :: r => (strsO r).map (x :: ·)
  | _ :: _ => none
def sIdx (x : Str) : List Str → Option Nat
  | [] => none
  | z :: r => if z = x then some 0 else (sIdx x r).map (· + 1)
def tidxO (x y : MV) : Option MV := match x, y with
  | .tup xs, .str z => (strsO xs).bind fun ss => (sIdx z ss).map fun (k : Nat) => .int (k : Int)
  | _, _ => none
/-- all(lo <= x <= hi for x in ..) -/
def allRO (l : Nat) (x : Str × Option Str) (lo hi : Int) (v : MV) (h : MH) : Option Bool := match h[l]? with
  | some (.tbl y) => if y = x then (((listO v h).bind intsO).map fun ns => ns.all fun n => decide (lo ≤ n) && decide (n ≤ hi)) else none
  | _ => none
/-! ### pure tests -/
inductive QE where
  | v (i : Nat)
  | it
  | int (n : Int)
  | ix (a b : QE)
  | cmp (o : COp) (a b : QE)
  | and (a b : QE)
  | or (a b : QE)
  | not (a : QE)
  deriving DecidableEq
noncomputable def cmpQ (o : COp) (x y : MV) (h : MH) : Option Bool := match o with
  | .is => none
  | .isn => none
  | o => cmpO o x y h
noncomputable def QE.den (e : En) (it : MV) (h : MH) : QE → Option MV
  | .v i => (e[i]?).bind id
  | .it => some it
  | .int n => some (.int n)
  | .ix a b => (QE.den e it h a).bind fun x => (QE.den e it h b).bind fun y => ixO x y h
  | .cmp o a b => (QE.den e it h a).bind fun x => (QE.den e it h b).bind fun y => (cmpQ o x y h).map .bl
  | .and a b => (QE.den e it h a).bind fun x => match x with
    | .bl false => some (.bl false)
    | .bl true => QE.den e it h b
    | _ => none
  | .or a b => (QE.den e it h a).bind fun x => match x with
    | .bl false => QE.den e it h b
    | .bl true => some (.bl true)
    | _ => none
  | .not a => (QE.den e it h a).bind fun x => match x with
    | .bl k => some (.bl (!k))
    | _ => none
/-- a test of every item -/
def testsO (f : MV → Option MV) : List MV → Option (List Bool)
  | [] => some []
  | x :: r => match f x with
    | some (.bl b) => (testsO f r).map (b :: ·)
    | _ => none
/-- any or all of a test over a list's items -/
noncomputable def genO (an : Bool) (l : Nat) (x : Str × Option Str) (q : QE) (e : En) (v : MV) (h : MH) : Option Bool := match h[l]? with
  | some (.tbl y) => if y = x then ((listO v h).bind fun xs => testsO (fun m => QE.den e m h q) xs).map fun bs => if an then bs.any id else bs.all id else none
  | _ => none
/-- the pairs of a display -/
def dPairs : List MV → List L2.Key → List MV → Option (List L2.Key × List MV)
  | [], ks, xs => some (ks, xs)
  | [_], _, _ => none
  | a :: v :: r, ks, xs => (keyO a).bind fun k => match kIx ks k with
    | some i => dPairs r ks (xs.set i v)
    | none => dPairs r (ks ++ [k]) (xs ++ [v])
def dispO (vs : List MV) (h : MH) : Option (MV × MH) := if vs.length ≤ 30 then (dPairs vs [] []).map fun d => (.loc h.length, h ++ [.dct d.1 d.2]) else none
def setIxO (o i v : MV) (h : MH) : Option MH := (setL o i v h).or (setD o i v h)
/-- what a for walks: the item at turn i, none at the end -/
abbrev Src := Nat → MH → Option (Option MV)
def srcRev (l n : Nat) : Src := fun i h => if i < n then (match h[l]? with
    | some (.lst ys) => (ys[n - 1 - i]?).map some
    | _ => none) else some none
noncomputable def srcO (k : IK) (vs : List MV) (h : MH) : Option Src := match k, vs with
  | .val, [.tup xs] => some fun i _ => some xs[i]?
  | .val, [.rol xs] => some fun i _ => some xs[i]?
  | .val, [.loc l] => match h[l]? with
    | some (.lst _) => some fun i h => match h[l]? with
      | some (.lst xs) => some xs[i]?
      | _ => none
    | _ => none
  | .val, [.str x] => some fun i _ => some ((x.cps[i]?).map fun c => .str ⟨#[c]⟩)
  | .rng1, [.int j] => if rngOk j then some fun i _ => some (if i < j.toNat then some (.int (0 + i)) else none) else none
  | .rev, [.tup xs] => some fun i _ => some xs.reverse[i]?
  | .rev, [.rol xs] => some fun i _ => some xs.reverse[i]?
  | .rev, [.loc l] => match h[l]? with
    | some (.lst xs) => some (srcRev l xs.length)
    | _ => none
  | .zip, [.tup xs, .tup ys] => some fun i _ => some (List.zipWith (fun x y => MV.tup [x, y]) xs ys)[i]?
  | .rng2, [.int a, .int b] => if rngOk a && rngOk b then some fun i _ => some (if i < (b - a).toNat then some (.int (a + i)) else none) else none
  | _, _ => none
def tgSets : List Nat → List MV → En → Option En
  | [], [], e => some e
  | i :: is, v :: vs, e => tgSets is vs (e.set i (some v))
  | _, _, _ => none
def Tg.set (t : Tg) (v : MV) (e : En) : Option En := match t with
  | .nm i => some (e.set i (some v))
  | .tp is => match v with
    | .tup xs => tgSets is xs e
    | _ => none
/-- name = value, a, b = tuple or list -/
def Tg.setH (t : Tg) (v : MV) (h : MH) (e : En) : Option En := match t with
  | .nm i => some (e.set i (some v))
  | .tp is => match v with
    | .tup xs => tgSets is xs e
    | .loc l => match h[l]? with
      | some (.lst xs) => tgSets is xs e
      | _ => none
    | _ => none
theorem setH_of {t : Tg} {v : MV} {h : MH} {e e' : En} (q : t.set v e = some e') : t.setH v h e = some e' := by
  cases t with
  | nm i => exact q
  | tp is =>
    cases v with
    | tup xs => exact q
    | _ => cases q

/-! ### loops without a bound -/
section
variable {S R : Type}
def loopN (bad : R) (turn : Nat → S → S ⊕ R) : Nat → Nat → S → R
  | 0, _, _ => bad
  | n + 1, i, s => match turn i s with
    | .inl s' => loopN bad turn n (i + 1) s'
    | .inr r => r
theorem loopN_mono {bad : R} {turn : Nat → S → S ⊕ R} : ∀ {n i : Nat} {s : S} {r : R}, loopN bad turn n i s = r → r ≠ bad → ∀ m, n ≤ m → loopN bad turn m i s = r
  | 0, _, _, _, e, hb, _, _ => absurd e.symm hb
  | n + 1, i, s, r, e, hb, 0, h => absurd h (Nat.not_succ_le_zero n)
  | n + 1, i, s, r, e, hb, m + 1, h => by
    unfold loopN at e ⊢
    cases q : turn i s with
    | inl s' =>
      rw [q] at e
      exact loopN_mono e hb m (Nat.le_of_succ_le_succ h)
    | inr r' =>
      rw [q] at e
      exact e
open Classical in
noncomputable def loop (bad : R) (turn : Nat → S → S ⊕ R) (i : Nat) (s : S) : R := if x : ∃ n, loopN bad turn n i s ≠ bad then loopN bad turn (Classical.choose x) i s else bad
theorem loop_of {bad : R} {turn : Nat → S → S ⊕ R} {n i : Nat} {s : S} {r : R} (e : loopN bad turn n i s = r) (hb : r ≠ bad) : loop bad turn i s = r := by
  have x : ∃ n, loopN bad turn n i s ≠ bad := ⟨n, by rw [e]; exact hb⟩
  unfold loop
  rw [dif_pos x]
  have e2 := loopN_mono (turn := turn) rfl (Classical.choose_spec x) (max n (Classical.choose x)) (Nat.le_max_right _ _)
  have e1 := loopN_mono e hb (max n (Classical.choose x)) (Nat.le_max_left _ _)
  rw [← e2, e1]
theorem of_loop {bad : R} {turn : Nat → S → S ⊕ R} {i : Nat} {s : S} (hb : loop bad turn i s ≠ bad) : ∃ n, loopN bad turn n i s = loop bad turn i s := by
  by_cases x : ∃ n, loopN bad turn n i s ≠ bad
  · refine ⟨Classical.choose x, ?_⟩
    unfold loop
    rw [dif_pos x]
  · unfold loop at hb
    rw [dif_neg x] at hb
    exact absurd rfl hb
theorem loop_eq (bad : R) (turn : Nat → S → S ⊕ R) (i : Nat) (s : S) : loop bad turn i s = match turn i s with
    | .inl s' => loop bad turn (i + 1) s'
    | .inr r => r := by
  cases q : turn i s with
  | inr r =>
    show loop bad turn i s = r
    by_cases hb : r = bad
    · unfold loop
      have x : ¬ ∃ n, loopN bad turn n i s ≠ bad := by
        rintro ⟨n, hn⟩
        cases n with
        | zero => exact hn rfl
        | succ n =>
          unfold loopN at hn
          rw [q] at hn
          exact hn hb
      rw [dif_neg x, hb]
    · refine loop_of (n := 1) ?_ hb
      unfold loopN
      rw [q]
  | inl s' =>
    show loop bad turn i s = loop bad turn (i + 1) s'
    by_cases hb : loop bad turn (i + 1) s' = bad
    · rw [hb]
      unfold loop
      have x : ¬ ∃ n, loopN bad turn n i s ≠ bad := by
        rintro ⟨n, hn⟩
        cases n with
        | zero => exact hn rfl
        | succ n =>
          unfold loopN at hn
          rw [q] at hn
          exact hn ((loop_of (turn := turn) (n := n) rfl hn).symm.trans hb)
      rw [dif_neg x]
    · obtain ⟨n, e⟩ := of_loop hb
      refine loop_of (n := n + 1) ?_ hb
      unfold loopN
      rw [q]
      exact e
end

/-! ### the language -/
inductive E where
  | var (i : Nat)
  | lit (v : MV)
  | bin (o : BOp) (a b : E)
  | neg (a : E)
  | not (a : E)
  | cmp (o : COp) (a b : E)
  | cmp2 (o o' : COp) (a b c : E)
  | and (a b : E)
  | or (a b : E)
  | ite (c a b : E)
  | tup (es : List E)
  | lst (es : List E)
  | ix (a b : E)
  | sl (a : E) (lo hi : Option E)
  | call (f : Nat) (es : List E)
  | bi (b : Bi) (es : List E)
  | mt (m : Mt) (o : E) (es : List E)
  | comp (ws : List Nat) (t : Tg) (k : IK) (es : List E) (elt : E)
  | compIf (ws : List Nat) (t : Tg) (k : IK) (es : List E) (c elt : E)
  | dnew
  | dget (a b : E)
  | dget2 (a b c : E)
  | fld (cs : List Str) (o : E) (f : Str)
  | meth (cs : List (Str × Nat)) (m : Str) (o : E) (es : List E)
  | tidx (v : MV) (a : E)
  | allR (l : Nat) (x : Str × Option Str) (lo hi : Int) (o : E)
  | disp (es : List E)
  | genQ (an : Bool) (l : Nat) (x : Str × Option Str) (q : QE) (o : E)
  | dcomp (ws : List Nat) (t : Tg) (k : IK) (es : List E) (key val : E)
inductive S where
  | expr (e : E)
  | asg (t : Tg) (e : E)
  | aug (i : Nat) (o : BOp) (e : E)
  | setIx (o i v : E)
  | ret (e : E)
  | iff (c : E) (a b : List S)
  | whl (c : E) (b : List S)
  | for_ (t : Tg) (k : IK) (es : List E) (b : List S)
  | brk | cont | pass | bad
  | setFld (cs : List Str) (o : E) (f : Str) (e : E)

def wipeM (e : En) : List Nat → En
  | [] => e
  | v :: vs => (wipeM e vs).set v none
abbrev Cl := Nat → List MV → MH → Res MV
/-- one turn of a comprehension -/
def compTurn (src : Src) (t : Tg) (e : En) (tst : En → MH → Res Bool) (elt : En → MH → Res MV) (i : Nat) : (List MV × MH) → (List MV × MH) ⊕ Res MV
  | (acc, h) => match src i h with
    | none => .inr .bad
    | some none => .inr (.ok (.loc h.length) (h ++ [.lst acc]))
    | some (some v) => match t.set v e with
      | none => .inr .bad
      | some e' => match tst e' h with
        | .ok true h1 => match elt e' h1 with
          | .ok y h2 => if acc.length < sizeLine then .inl (acc ++ [y], h2) else .inr .bad
          | _ => .inr .bad
        | .ok false h1 => .inl (acc, h1)
        | _ => .inr .bad
/-- one turn of a dict's comprehension -/
def dcTurn (src : Src) (t : Tg) (e : En) (elt : En → MH → Res (L2.Key × MV)) (i : Nat) : (List L2.Key × List MV × MH) → (List L2.Key × List MV × MH) ⊕ Res MV
  | (ks, xs, h) => match src i h with
    | none => .inr .bad
    | some none => .inr (.ok (.loc h.length) (h ++ [.dct ks xs]))
    | some (some v) => match t.set v e with
      | none => .inr .bad
      | some e' => match elt e' h with
        | .ok y h2 => if ks.length < sizeLine then .inl ((dPutK ks xs y.1 y.2).1, (dPutK ks xs y.1 y.2).2, h2) else .inr .bad
        | _ => .inr .bad
mutual
noncomputable def E.den (C : Cl) : E → En → MH → Res MV
  | .var i, e, h => match e[i]? with
    | some (some v) => .ok v h
    | _ => .bad
  | .lit v, _, h => .ok v h
  | .bin o a b, e, h => (E.den C a e h).bind fun x h1 => (E.den C b e h1).bind fun y h2 => oP (binO o x y h2)
  | .neg a, e, h => (E.den C a e h).bind fun x h1 => match x with
    | .int i => .ok (.int (-i)) h1
    | _ => .bad
  | .not a, e, h => (E.den C a e h).bind fun x h1 => (oR h1 (truO x h1)).bind fun k h2 => .ok (.bl (!k)) h2
  | .cmp o a b, e, h => (E.den C a e h).bind fun x h1 => (E.den C b e h1).bind fun y h2 => (oR h2 (cmpO o x y h2)).bind fun k h3 => .ok (.bl k) h3
  | .cmp2 o o' a b c, e, h => (E.den C a e h).bind fun x h1 => (E.den C b e h1).bind fun y h2 => (oR h2 (cmpO o x y h2)).bind fun k h3 =>
      if k = true then (E.den C c e h3).bind fun z h4 => (oR h4 (cmpO o' y z h4)).bind fun k h5 => .ok (.bl k) h5 else .ok (.bl false) h3
  | .and a b, e, h => (E.den C a e h).bind fun x h1 => (oR h1 (truO x h1)).bind fun k h2 => if k = true then E.den C b e h2 else .ok x h2
  | .or a b, e, h => (E.den C a e h).bind fun x h1 => (oR h1 (truO x h1)).bind fun k h2 => if k = true then .ok x h2 else E.den C b e h2
  | .ite c a b, e, h => (E.den C c e h).bind fun x h1 => (oR h1 (truO x h1)).bind fun k h2 => if k = true then E.den C a e h2 else E.den C b e h2
  | .tup es, e, h => (Es.den C es e h).bind fun vs h1 => if vs.length ≤ sizeLine then .ok (.tup vs) h1 else .bad
  | .lst es, e, h => (Es.den C es e h).bind fun vs h1 => if vs.length ≤ sizeLine then .ok (.loc h1.length) (h1 ++ [.lst vs]) else .bad
  | .ix a b, e, h => (E.den C a e h).bind fun x h1 => (E.den C b e h1).bind fun y h2 => oR h2 (ixO x y h2)
  | .sl a lo hi, e, h => (E.den C a e h).bind fun x h1 => (Eo.den C lo e h1).bind fun l h2 => (Eo.den C hi e h2).bind fun u h3 => oP (slO x l u h3)
  | .call f es, e, h => (Es.den C es e h).bind fun vs h1 => C f vs h1
  | .bi b es, e, h => (Es.den C es e h).bind fun vs h1 => oP (biO b vs h1)
  | .mt m o es, e, h => (E.den C o e h).bind fun x h1 => if recvO m x h1 = true then (Es.den C es e h1).bind fun vs h2 => oP (mtO m x vs h2) else .bad
  | .comp ws t k es elt, e, h => (Es.den C es e h).bind fun vs h1 => match srcO k vs h1 with
    | none => .bad
    | some src => loop .bad (compTurn src t (wipeM e ws) (fun _ h => .ok true h) (fun e h => E.den C elt e h)) 0 ([], h1)
  | .compIf ws t k es c elt, e, h => (Es.den C es e h).bind fun vs h1 => match srcO k vs h1 with
    | none => .bad
    | some src => loop .bad (compTurn src t (wipeM e ws) (fun e h => (E.den C c e h).bind fun x h1 => oR h1 (truO x h1)) (fun e h => E.den C elt e h)) 0 ([], h1)
  | .dnew, _, h => .ok (.loc h.length) (h ++ [.dct [] []])
  | .dget a b, e, h => (E.den C a e h).bind fun x h1 => if (dctO x h1).isSome = true then (E.den C b e h1).bind fun y h2 => oR h2 ((dctO x h2).bind fun d => (dGetO d y).map fun o => o.getD .non) else .bad
  | .dget2 a b c, e, h => (E.den C a e h).bind fun x h1 => if (dctO x h1).isSome = true then (E.den C b e h1).bind fun y h2 => (E.den C c e h2).bind fun z h3 => oR h3 ((dctO x h3).bind fun d => (dGetO d y).map fun o => o.getD z) else .bad
  | .fld cs a f, e, h => (E.den C a e h).bind fun x h1 => oR h1 (fldO cs x f h1)
  | .meth cs m a es, e, h => (E.den C a e h).bind fun x h1 => match (insO x h1).bind fun o => if (nIx o.2.1 m).isNone = true then cs.lookup o.1 else none with
    | some f => (Es.den C es e h1).bind fun vs h2 => C f (x :: vs) h2
    | none => .bad
  | .tidx v b, e, h => (E.den C b e h).bind fun y h1 => oR h1 (tidxO v y)
  | .dcomp ws t k es key val, e, h => (Es.den C es e h).bind fun vs h1 => match srcO k vs h1 with
    | none => .bad
    | some src => loop .bad (dcTurn src t (wipeM e ws) (fun e h => (E.den C key e h).bind fun y h1 => (oR h1 (keyO y)).bind fun k h2 => (E.den C val e h2).bind fun z h3 => .ok (k, z) h3)) 0 ([], [], h1)
  | .genQ an l x q a, e, h => (E.den C a e h).bind fun v h1 => (oR h1 (genO an l x q e v h1)).bind fun k h2 => .ok (.bl k) h2
  | .allR l x lo hi a, e, h => (E.den C a e h).bind fun v h1 => (oR h1 (allRO l x lo hi v h1)).bind fun k h2 => .ok (.bl k) h2
  | .disp es, e, h => (Es.den C es e h).bind fun vs h1 => oP (dispO vs h1)
noncomputable def Eo.den (C : Cl) : Option E → En → MH → Res (Option Int)
  | none, _, h => .ok none h
  | some a, e, h => (E.den C a e h).bind fun x h1 => match x with
    | .int i => .ok (some i) h1
    | _ => .bad
noncomputable def Es.den (C : Cl) : List E → En → MH → Res (List MV)
  | [], _, h => .ok [] h
  | a :: es, e, h => (E.den C a e h).bind fun v h1 => (Es.den C es e h1).bind fun vs h2 => .ok (v :: vs) h2
end
/-- a test -/
noncomputable def E.tst (C : Cl) (a : E) (e : En) (h : MH) : Res Bool := (E.den C a e h).bind fun x h1 => oR h1 (truO x h1)
def Res.sr {α : Type} (r : Res α) (e : En) (f : α → MH → SR) : SR := match r with
  | .ok a h => f a h
  | .exc x h => .exc x e h
  | .bad => .bad
@[simp] theorem Res.sr_ok {α : Type} (a : α) (h : MH) (e : En) (f : α → MH → SR) : (Res.ok a h).sr e f = f a h := rfl
@[simp] theorem Res.sr_exc {α : Type} (x : Exn) (h : MH) (e : En) (f : α → MH → SR) : (Res.exc x h : Res α).sr e f = .exc x e h := rfl
@[simp] theorem Res.sr_bad {α : Type} (e : En) (f : α → MH → SR) : (Res.bad : Res α).sr e f = .bad := rfl
def SR.seq (r : SR) (f : En → MH → SR) : SR := match r with
  | .nx e h => f e h
  | q => q
@[simp] theorem SR.seq_nx (e : En) (h : MH) (f : En → MH → SR) : (SR.nx e h).seq f = f e h := rfl
@[simp] theorem SR.seq_rt (v : MV) (h : MH) (f : En → MH → SR) : (SR.rt v h).seq f = .rt v h := rfl
@[simp] theorem SR.seq_bk (e : En) (h : MH) (f : En → MH → SR) : (SR.bk e h).seq f = .bk e h := rfl
@[simp] theorem SR.seq_ct (e : En) (h : MH) (f : En → MH → SR) : (SR.ct e h).seq f = .ct e h := rfl
@[simp] theorem SR.seq_exc (x : Exn) (e : En) (h : MH) (f : En → MH → SR) : (SR.exc x e h).seq f = .exc x e h := rfl
@[simp] theorem SR.seq_bad (f : En → MH → SR) : SR.bad.seq f = .bad := rfl
/-- behind a loop's body -/
def SR.turn : SR → (En × MH) ⊕ SR
  | .nx e h => .inl (e, h)
  | .ct e h => .inl (e, h)
  | .bk e h => .inr (.nx e h)
  | q => .inr q
noncomputable def whileTurn (C : Cl) (c : E) (b : En → MH → SR) (_ : Nat) : (En × MH) → (En × MH) ⊕ SR
  | (e, h) => match E.tst C c e h with
    | .ok true h1 => (b e h1).turn
    | .ok false h1 => .inr (.nx e h1)
    | .exc x h1 => .inr (.exc x e h1)
    | .bad => .inr .bad
def forTurn (src : Src) (t : Tg) (b : En → MH → SR) (i : Nat) : (En × MH) → (En × MH) ⊕ SR
  | (e, h) => match src i h with
    | none => .inr .bad
    | some none => .inr (.nx e h)
    | some (some v) => match t.set v e with
      | none => .inr .bad
      | some e' => (b e' h).turn
mutual
noncomputable def S.den (C : Cl) : S → En → MH → SR
  | .expr a, e, h => (E.den C a e h).sr e fun _ h1 => .nx e h1
  | .asg t a, e, h => (E.den C a e h).sr e fun v h1 => match t.setH v h1 e with
    | some e' => .nx e' h1
    | none => .bad
  | .aug i o a, e, h => match e[i]? with
    | some (some x) => (E.den C a e h).sr e fun y h1 => (oP (augO o x y h1)).sr e fun z h2 => .nx (e.set i (some z)) h2
    | _ => .bad
  | .setIx o i a, e, h => (E.den C a e h).sr e fun v h1 => (E.den C o e h1).sr e fun x h2 => (E.den C i e h2).sr e fun y h3 => match setIxO x y v h3 with
    | some h4 => .nx e h4
    | none => .bad
  | .ret a, e, h => (E.den C a e h).sr e fun v h1 => .rt v h1
  | .iff c a b, e, h => (E.tst C c e h).sr e fun k h1 => if k = true then Ss.den C a e h1 else Ss.den C b e h1
  | .whl c b, e, h => loop .bad (whileTurn C c (fun e h => Ss.den C b e h)) 0 (e, h)
  | .for_ t k es b, e, h => (Es.den C es e h).sr e fun vs h1 => match srcO k vs h1 with
    | none => .bad
    | some src => loop .bad (forTurn src t (fun e h => Ss.den C b e h)) 0 (e, h1)
  | .brk, e, h => .bk e h
  | .cont, e, h => .ct e h
  | .pass, e, h => .nx e h
  | .bad, _, _ => .bad
  | .setFld cs o f a, e, h => (E.den C a e h).sr e fun v h1 => (E.den C o e h1).sr e fun x h2 => match setFldO cs x f v h2 with
    | some h3 => .nx e h3
    | none => .bad
noncomputable def Ss.den (C : Cl) : List S → En → MH → SR
  | [], e, h => .nx e h
  | s :: r, e, h => (S.den C s e h).seq fun e h => Ss.den C r e h
end

structure Fn where
  name : String
  ps : List String
  loc : List String
  body : List S
  /-- a class: its name, its __init__ -/
  mkr : Option (Str × Nat) := none
  /-- a method: its class -/
  cls : Option String := none
def Fn.own (f : Fn) : Str × Option Str := match f.cls with
  | none => (Str.ofString f.name, none)
  | some c => (Str.ofString c, some (Str.ofString f.name))
def Fn.qual (f : Fn) : Str := match f.cls with
  | none => Str.ofString f.name
  | some c => Str.ofString (c ++ "." ++ f.name)
def Fn.start (f : Fn) (vs : List MV) : En := vs.map some ++ List.replicate (f.ps.length + f.loc.length - vs.length) none
def SR.res : SR → Res MV
  | .rt v h => .ok v h
  | .nx _ h => .ok .non h
  | .exc x _ h => .exc x h
  | _ => .bad
@[simp] theorem SR.res_rt (v : MV) (h : MH) : (SR.rt v h).res = .ok v h := rfl
@[simp] theorem SR.res_nx (e : En) (h : MH) : (SR.nx e h).res = .ok .non h := rfl
@[simp] theorem SR.res_exc (x : Exn) (e : En) (h : MH) : (SR.exc x e h).res = .exc x h := rfl
noncomputable def callD (T : List Fn) : Nat → Cl
  | 0, _, _, _ => .bad
  | d + 1, f, vs, h => match T[f]? with
    | some fn => if vs.length = fn.ps.length then (match fn.mkr with
      | none => (Ss.den (callD T d) fn.body (fn.start vs) h).res
      | some (c, j) => (callD T d j (.loc h.length :: vs) (h ++ [MO.ins c [] []])).bind fun v h1 => if v.isNon = true then .ok (.loc h.length) h1 else .bad) else .bad
    | none => .bad
end MP
end
section
set_option Elab.async false
set_option linter.all false
set_option maxRecDepth 100000
set_option maxHeartbeats 4000000
/-! MP, part b: how the small language's state stands in the hand layer's abstract heap. -/
namespace MP
open PySem PySem.Spec PyProof.Rows L2

/-- a list that nobody writes: the script, or the module's own -/
def SqC (K : PySem.W.Frag) (H : Hp) (a : Addr) (xs : List V) : Prop :=
  (∃ o, H a = some (.frz o (.lst xs))) ∨
    ∃ (o : Obj) (its : Array Value) (n : Nat), K.lookup a = some o ∧ o.cls = .type "list" ∧ o.dict = none ∧ o.data = .seq its n ∧ its.size ≤ sizeLine ∧ Vals xs its.toList
theorem SqC.sq {K : PySem.W.Frag} {H : Hp} {a : Addr} {xs : List V} (h : SqC K H a xs) : SqL K H a xs := by
  rcases h with ⟨o, h⟩ | h
  · exact .inl (.inr ⟨o, h⟩)
  · exact .inr h
/-- the code object, its table, of the def at x -/
def codA (K : PySem.W.Frag) (x : Str × Option Str) : Addr := match K.lookup (He.fAd K x) with
  | some ⟨_, _, .func fd, _⟩ => match fd.code with
    | .ref c => c
    | _ => 0
  | _ => 0
def tabA (K : PySem.W.Frag) (x : Str × Option Str) : Addr := match K.lookup (codA K x) with
  | some ⟨_, _, .fields vs, _⟩ => match vs[11]? with
    | some (Value.ref P) => P
    | _ => 0
  | _ => 0
mutual
def RepV (K : PySem.W.Frag) (ρ : List Addr) (H : Hp) : MV → V → Prop
  | .non, v => v = .non
  | .bl b, v => v = .bl b
  | .int i, v => v = .int i
  | .str x, v => v = .str x
  | .tup xs, v => ∃ a vs, v = .ref a ∧ SqT K H a vs ∧ RepVs K ρ H xs vs
  | .rol xs, v => ∃ a vs, v = .ref a ∧ SqC K H a vs ∧ RepVs K ρ H xs vs
  | .loc l, v => ∃ a, ρ[l]? = some a ∧ v = .ref a
  | .ty n, v => v = .ty n
  | .cls _, _ => False
def RepVs (K : PySem.W.Frag) (ρ : List Addr) (H : Hp) : List MV → List V → Prop
  | [], vs => vs = []
  | x :: xs, vs => ∃ w ws, vs = w :: ws ∧ RepV K ρ H x w ∧ RepVs K ρ H xs ws
end
def RepO (K : PySem.W.Frag) (ρ : List Addr) (H : Hp) (a : Addr) : MO → Prop
  | .lst xs => ∃ vs, H a = some (.lst vs) ∧ RepVs K ρ H xs vs
  | .dct ks xs => ∃ vs, H a = some (.dK (ks.zip vs)) ∧ (ks.length = vs.length ∧ ks.Nodup) ∧ RepVs K ρ H xs vs
  | .ins c ns xs => ∃ dx vs, H a = some (.ins (He.ga K c) dx (ns.zip vs)) ∧ (ns.length = vs.length ∧ ns.Nodup) ∧ RepVs K ρ H xs vs
  | .tbl x => a = tabA K x ∧ GxR.TabG H a
/-- what stands at a tracked place of ours -/
def MutK : HO → Prop
  | .lst _ => True
  | .dK _ => True
  | .ins _ _ _ => True
  | .tbl _ => True
  | _ => False
structure Rep (K : PySem.W.Frag) (ρ : List Addr) (h : MH) (H : Hp) : Prop where
  len : ρ.length = h.length
  nd : ρ.Nodup
  obj : ∀ (l : Nat) (o : MO), h[l]? = some o → ∃ a : Addr, ρ[l]? = some a ∧ RepO K ρ H a o
structure Ext (ρ : List Addr) (H : Hp) (ρ' : List Addr) (H' : Hp) : Prop where
  pre : ∃ t, ρ' = ρ ++ t
  fr : ∀ a o, H a = some o → a ∉ ρ → H' a = some o
  new : ∀ a, a ∈ ρ' → a ∈ ρ ∨ H a = none
section
variable {K : PySem.W.Frag} {ρ ρ1 ρ2 : List Addr} {h h1 h2 : MH} {H H1 H2 : Hp}
theorem RepO.kind {a : Addr} {o : MO} (r : RepO K ρ H a o) : ∃ u, H a = some u ∧ MutK u := by
  cases o with
  | lst xs =>
    obtain ⟨vs, e, _⟩ := r
    exact ⟨_, e, trivial⟩
  | dct ks xs =>
    obtain ⟨vs, e, _⟩ := r
    exact ⟨_, e, trivial⟩
  | ins c ns xs =>
    obtain ⟨dx, vs, e, _⟩ := r
    exact ⟨_, e, trivial⟩
  | tbl x =>
    obtain ⟨_, ps, e, _⟩ := r
    exact ⟨_, e, trivial⟩
theorem Rep.kind (r : Rep K ρ h H) {a : Addr} (m : a ∈ ρ) : ∃ u, H a = some u ∧ MutK u := by
  obtain ⟨l, hl, e⟩ := List.getElem_of_mem m
  have hl' : l < h.length := by rw [← r.len]; exact hl
  obtain ⟨b, e1, q⟩ := r.obj l _ (List.getElem?_eq_getElem hl')
  have : b = a := by
    rw [List.getElem?_eq_getElem hl, e] at e1
    exact (Option.some.inj e1).symm
  subst this
  exact q.kind
theorem Ext.refl : Ext ρ H ρ H := ⟨⟨[], by simp⟩, fun _ _ e _ => e, fun _ m => .inl m⟩
theorem Ext.trans (x : Ext ρ H ρ1 H1) (y : Ext ρ1 H1 ρ2 H2) : Ext ρ H ρ2 H2 := by
  refine ⟨?_, fun a o e n => ?_, fun a m => ?_⟩
  · obtain ⟨t, e⟩ := x.pre
    obtain ⟨u, e'⟩ := y.pre
    exact ⟨t ++ u, by rw [e', e, List.append_assoc]⟩
  · refine y.fr a o (x.fr a o e n) fun m => ?_
    rcases x.new a m with m | z
    · exact n m
    · rw [e] at z; cases z
  · rcases y.new a m with m | z
    · exact x.new a m
    · by_cases ma : a ∈ ρ
      · exact .inl ma
      · refine .inr ?_
        cases q : H a with
        | none => rfl
        | some o =>
          rw [x.fr a o q ma] at z
          cases z
theorem Ext.at (x : Ext ρ H ρ1 H1) {l : Nat} {a : Addr} (e : ρ[l]? = some a) : ρ1[l]? = some a := by
  obtain ⟨t, rfl⟩ := x.pre
  rw [List.getElem?_append_left (List.getElem?_eq_some_iff.mp e).1]
  exact e
/-- what the readings of values lean on stays -/
structure Kp (ρ : List Addr) (H : Hp) (ρ' : List Addr) (H' : Hp) : Prop where
  pre : ∃ t, ρ' = ρ ++ t
  kt : ∀ a xs, H a = some (.tup xs) → H' a = some (.tup xs)
  kf : ∀ a o u, H a = some (.frz o u) → H' a = some (.frz o u)
theorem Kp.at (x : Kp ρ H ρ1 H1) {l : Nat} {a : Addr} (e : ρ[l]? = some a) : ρ1[l]? = some a := by
  obtain ⟨t, rfl⟩ := x.pre
  rw [List.getElem?_append_left (List.getElem?_eq_some_iff.mp e).1]
  exact e
theorem Rep.kp (r : Rep K ρ h H) (x : Ext ρ H ρ1 H1) : Kp ρ H ρ1 H1 := by
  refine ⟨x.pre, fun a xs q => x.fr a _ q fun m => ?_, fun a o u q => x.fr a _ q fun m => ?_⟩
  · obtain ⟨u, e, k⟩ := r.kind m
    rw [q] at e; cases e; exact k
  · obtain ⟨u, e, k⟩ := r.kind m
    rw [q] at e; cases e; exact k
theorem Kp.sqT (x : Kp ρ H ρ1 H1) {a : Addr} {vs : List V} (q : SqT K H a vs) : SqT K H1 a vs := by
  rcases q with (q | ⟨o, q⟩) | q
  · exact .inl (.inl (x.kt _ _ q))
  · exact .inl (.inr ⟨o, x.kf _ _ _ q⟩)
  · exact .inr q
theorem Kp.sqC (x : Kp ρ H ρ1 H1) {a : Addr} {vs : List V} (q : SqC K H a vs) : SqC K H1 a vs := by
  rcases q with ⟨o, q⟩ | q
  · exact .inl ⟨o, x.kf _ _ _ q⟩
  · exact .inr q
mutual
theorem RepV.keep (x : Kp ρ H ρ1 H1) : ∀ {m : MV} {v : V}, RepV K ρ H m v → RepV K ρ1 H1 m v
  | .non, _, q => by unfold RepV at q ⊢; exact q
  | .bl _, _, q => by unfold RepV at q ⊢; exact q
  | .int _, _, q => by unfold RepV at q ⊢; exact q
  | .str _, _, q => by unfold RepV at q ⊢; exact q
  | .ty _, _, q => by unfold RepV at q ⊢; exact q
  | .cls _, _, q => by unfold RepV at q; exact q.elim
  | .loc _, _, q => by
    unfold RepV at q ⊢
    obtain ⟨a, e, z⟩ := q
    exact ⟨a, x.at e, z⟩
  | .tup xs, _, q => by
    unfold RepV at q ⊢
    obtain ⟨a, vs, e, s, z⟩ := q
    exact ⟨a, vs, e, x.sqT s, RepVs.keep x z⟩
  | .rol xs, _, q => by
    unfold RepV at q ⊢
    obtain ⟨a, vs, e, s, z⟩ := q
    exact ⟨a, vs, e, x.sqC s, RepVs.keep x z⟩
theorem RepVs.keep (x : Kp ρ H ρ1 H1) : ∀ {ms : List MV} {vs : List V}, RepVs K ρ H ms vs → RepVs K ρ1 H1 ms vs
  | [], _, q => by unfold RepVs at q ⊢; exact q
  | m :: ms, _, q => by
    unfold RepVs at q ⊢
    obtain ⟨w, ws, e, a, b⟩ := q
    exact ⟨w, ws, e, RepV.keep x a, RepVs.keep x b⟩
end
theorem RepV.mono (r : Rep K ρ h H) (x : Ext ρ H ρ1 H1) {m : MV} {v : V} (q : RepV K ρ H m v) : RepV K ρ1 H1 m v := q.keep (r.kp x)
theorem RepVs.mono (r : Rep K ρ h H) (x : Ext ρ H ρ1 H1) {ms : List MV} {vs : List V} (q : RepVs K ρ H ms vs) : RepVs K ρ1 H1 ms vs := q.keep (r.kp x)
theorem RepVs.length : ∀ {ms : List MV} {vs : List V}, RepVs K ρ H ms vs → vs.length = ms.length
  | [], _, q => by unfold RepVs at q; rw [q]; rfl
  | m :: ms, _, q => by
    unfold RepVs at q
    obtain ⟨w, ws, e, _, b⟩ := q
    rw [e, List.length_cons, List.length_cons, b.length]
theorem RepVs.get : ∀ {ms : List MV} {vs : List V} {i : Nat} {m : MV}, RepVs K ρ H ms vs → ms[i]? = some m → ∃ w, vs[i]? = some w ∧ RepV K ρ H m w
  | [], _, _, _, _, e => by simp at e
  | x :: xs, _, 0, m, q, e => by
    unfold RepVs at q
    obtain ⟨w, ws, rfl, a, _⟩ := q
    simp at e
    subst e
    exact ⟨w, rfl, a⟩
  | x :: xs, _, i + 1, m, q, e => by
    unfold RepVs at q
    obtain ⟨w, ws, rfl, _, b⟩ := q
    obtain ⟨u, e1, r1⟩ := RepVs.get (i := i) b (by simpa using e)
    exact ⟨u, by simpa using e1, r1⟩
theorem RepVs.append : ∀ {ms ns : List MV} {vs ws : List V}, RepVs K ρ H ms vs → RepVs K ρ H ns ws → RepVs K ρ H (ms ++ ns) (vs ++ ws)
  | [], _, _, _, q, q' => by unfold RepVs at q; rw [q]; exact q'
  | m :: ms, _, _, _, q, q' => by
    unfold RepVs at q
    obtain ⟨w, ws, rfl, a, b⟩ := q
    show RepVs K ρ H (m :: (ms ++ _)) (w :: (ws ++ _))
    unfold RepVs
    exact ⟨w, _, rfl, a, RepVs.append b q'⟩
theorem RepVs.one {m : MV} {v : V} (q : RepV K ρ H m v) : RepVs K ρ H [m] [v] := by
  unfold RepVs
  exact ⟨v, [], rfl, q, by unfold RepVs; rfl⟩
theorem RepVs.nil : RepVs K ρ H [] [] := by unfold RepVs; rfl
theorem RepVs.cons {m : MV} {v : V} {ms : List MV} {vs : List V} (q : RepV K ρ H m v) (r : RepVs K ρ H ms vs) : RepVs K ρ H (m :: ms) (v :: vs) := by
  unfold RepVs
  exact ⟨v, vs, rfl, q, r⟩
theorem RepVs.take : ∀ {ms : List MV} {vs : List V} (n : Nat), RepVs K ρ H ms vs → RepVs K ρ H (ms.take n) (vs.take n)
  | [], _, n, q => by unfold RepVs at q; rw [q]; simp; exact .nil
  | m :: ms, _, 0, q => by simp; exact .nil
  | m :: ms, _, n + 1, q => by
    unfold RepVs at q
    obtain ⟨w, ws, rfl, a, b⟩ := q
    exact .cons a (RepVs.take n b)
theorem RepVs.drop : ∀ {ms : List MV} {vs : List V} (n : Nat), RepVs K ρ H ms vs → RepVs K ρ H (ms.drop n) (vs.drop n)
  | [], _, n, q => by unfold RepVs at q; rw [q]; simp; exact .nil
  | m :: ms, _, 0, q => q
  | m :: ms, _, n + 1, q => by
    unfold RepVs at q
    obtain ⟨w, ws, rfl, a, b⟩ := q
    exact RepVs.drop n b
theorem RepVs.set {m : MV} {v : V} (r : RepV K ρ H m v) : ∀ {ms : List MV} {vs : List V} (i : Nat), RepVs K ρ H ms vs → RepVs K ρ H (ms.set i m) (vs.set i v)
  | [], _, n, q => by unfold RepVs at q; rw [q]; exact .nil
  | x :: xs, _, 0, q => by
    unfold RepVs at q
    obtain ⟨w, ws, rfl, a, b⟩ := q
    exact .cons r b
  | x :: xs, _, n + 1, q => by
    unfold RepVs at q
    obtain ⟨w, ws, rfl, a, b⟩ := q
    exact .cons a (RepVs.set r n b)
theorem RepVs.eraseIdx : ∀ {ms : List MV} {vs : List V} (i : Nat), RepVs K ρ H ms vs → RepVs K ρ H (ms.eraseIdx i) (vs.eraseIdx i)
  | [], _, n, q => by unfold RepVs at q; rw [q]; exact .nil
  | x :: xs, _, 0, q => by
    unfold RepVs at q
    obtain ⟨w, ws, rfl, a, b⟩ := q
    exact b
  | x :: xs, _, n + 1, q => by
    unfold RepVs at q
    obtain ⟨w, ws, rfl, a, b⟩ := q
    exact .cons a (RepVs.eraseIdx n b)
theorem RepVs.flatten {ms : List MV} {vs : List V} (q : RepVs K ρ H ms vs) : ∀ n : Nat, RepVs K ρ H (List.replicate n ms).flatten (List.replicate n vs).flatten
  | 0 => .nil
  | n + 1 => by
    rw [List.replicate_succ, List.replicate_succ, List.flatten_cons, List.flatten_cons]
    exact q.append (RepVs.flatten q n)
theorem RepVs.isEmpty {ms : List MV} {vs : List V} (q : RepVs K ρ H ms vs) : vs.isEmpty = ms.isEmpty := by
  have := q.length
  cases ms <;> cases vs <;> simp_all
theorem RepVs.ints : ∀ {ms : List MV} {vs : List V} {ns : List Int}, RepVs K ρ H ms vs → intsO ms = some ns → vs = ns.map V.int
  | [], _, ns, q, e => by
    unfold RepVs at q
    unfold intsO at e
    cases e
    rw [q]
    rfl
  | x :: xs, _, ns, q, e => by
    unfold RepVs at q
    obtain ⟨w, ws, rfl, a, b⟩ := q
    cases x with
    | int i =>
      unfold intsO at e
      cases e2 : intsO xs with
      | none => rw [e2] at e; cases e
      | some ms =>
        rw [e2] at e
        cases e
        unfold RepV at a
        rw [a, RepVs.ints b e2]
        rfl
    | _ => simp [intsO] at e
theorem repVs_ints {ns : List Int} : RepVs K ρ H (ns.map .int) (ns.map V.int) := by
  induction ns with
  | nil => exact .nil
  | cons n r ih => exact .cons (by unfold RepV; rfl) ih

theorem nd_inj {α : Type} : ∀ {xs : List α} (_ : xs.Nodup) {i j : Nat} (hi : i < xs.length) (hj : j < xs.length), xs[i] = xs[j] → i = j
  | x :: xs, _, 0, 0, _, _, _ => rfl
  | x :: xs, nd, 0, j + 1, _, hj, e => by
    have hm : x ∉ xs := (List.nodup_cons.mp nd).1
    exact absurd (by rw [show x = xs[j]'(Nat.lt_of_succ_lt_succ hj) from e]; exact List.getElem_mem _) hm
  | x :: xs, nd, i + 1, 0, hi, _, e => by
    have hm : x ∉ xs := (List.nodup_cons.mp nd).1
    exact absurd (by rw [show x = xs[i]'(Nat.lt_of_succ_lt_succ hi) from e.symm]; exact List.getElem_mem _) hm
  | x :: xs, nd, i + 1, j + 1, hi, hj, e => by rw [nd_inj (List.nodup_cons.mp nd).2 (Nat.lt_of_succ_lt_succ hi) (Nat.lt_of_succ_lt_succ hj) e]
/-! ### the heap changes -/
theorem ext_new {p : Addr} {o : HO} (hp : H p = none) : Ext ρ H ρ (upd H p o) :=
  ⟨⟨[], by simp⟩, fun a u e _ => by rw [upd_ne (ne_of_none e hp)]; exact e, fun _ m => .inl m⟩
theorem Rep.free (r : Rep K ρ h H) {p : Addr} (hp : H p = none) : p ∉ ρ := fun m => by
  obtain ⟨u, e, _⟩ := r.kind m
  rw [hp] at e
  cases e
theorem ext_add {p : Addr} {o : HO} (hp : H p = none) : Ext ρ H (ρ ++ [p]) (upd H p o) := by
  refine ⟨⟨[p], rfl⟩, fun a u e _ => by rw [upd_ne (ne_of_none e hp)]; exact e, fun a m => ?_⟩
  rcases List.mem_append.mp m with m | m
  · exact .inl m
  · rw [List.mem_singleton.mp m]
    exact .inr hp
theorem RepO.keep (x : Kp ρ H ρ1 H1) {a : Addr} {o : MO} (q : RepO K ρ H a o) (e : H1 a = H a) : RepO K ρ1 H1 a o := by
  cases o with
  | lst xs =>
    obtain ⟨vs, e1, z⟩ := q
    exact ⟨vs, e.trans e1, z.keep x⟩
  | dct ks xs =>
    obtain ⟨vs, e1, l, z⟩ := q
    exact ⟨vs, e.trans e1, l, z.keep x⟩
  | ins c ns xs =>
    obtain ⟨dx, vs, e1, l, z⟩ := q
    exact ⟨dx, vs, e.trans e1, l, z.keep x⟩
  | tbl x =>
    obtain ⟨e0, ps, e1, l⟩ := q
    exact ⟨e0, ps, e.trans e1, l⟩
theorem RepO.mono (r : Rep K ρ h H) (x : Ext ρ H ρ1 H1) {a : Addr} {o : MO} (q : RepO K ρ H a o) (e : H1 a = H a) : RepO K ρ1 H1 a o := q.keep (r.kp x) e
/-- the objects stay where they are, the readings too -/
theorem Rep.keep (r : Rep K ρ h H) (x : Kp ρ H ρ H1) (f : ∀ a, a ∈ ρ → H1 a = H a) : Rep K ρ h H1 := by
  refine ⟨r.len, r.nd, fun l o e => ?_⟩
  obtain ⟨a, ea, q⟩ := r.obj l o e
  exact ⟨a, ea, q.keep x (f a (List.mem_of_getElem? ea))⟩
/-- an object that stood beside comes in -/
theorem Rep.join (r : Rep K ρ h H) {p : Addr} {o : MO} (np : p ∉ ρ) (hu : RepO K ρ H p o) : Rep K (ρ ++ [p]) (h ++ [o]) H := by
  have kp : Kp ρ H (ρ ++ [p]) H := ⟨⟨[p], rfl⟩, fun _ _ q => q, fun _ _ _ q => q⟩
  refine ⟨by rw [List.length_append, List.length_append, r.len]; rfl, ?_, fun l o' e => ?_⟩
  · rw [List.nodup_append]
    refine ⟨r.nd, by simp, fun a ha b hb => ?_⟩
    rw [List.mem_singleton.mp hb]
    exact fun z => np (z ▸ ha)
  · by_cases hl : l < h.length
    · rw [List.getElem?_append_left hl] at e
      obtain ⟨a, ea, q⟩ := r.obj l o' e
      exact ⟨a, kp.at ea, q.keep kp rfl⟩
    · have : l = h.length := by
        have := (List.getElem?_eq_some_iff.mp e).1
        rw [List.length_append, List.length_singleton] at this
        omega
      subst this
      rw [List.getElem?_concat_length] at e
      cases e
      exact ⟨p, by rw [← r.len, List.getElem?_concat_length], hu.keep kp rfl⟩
/-- a tuple comes -/
theorem Rep.tup (r : Rep K ρ h H) {p : Addr} (hp : H p = none) {xs : List V} : Rep K ρ h (upd H p (.tup xs)) := by
  refine ⟨r.len, r.nd, fun l o e => ?_⟩
  obtain ⟨a, ea, q⟩ := r.obj l o e
  refine ⟨a, ea, q.mono r (ext_new hp) ?_⟩
  have : a ≠ p := fun z => r.free hp (z ▸ List.mem_of_getElem? ea)
  rw [upd_ne this]
/-- an object comes -/
theorem Rep.add (r : Rep K ρ h H) {p : Addr} {u : HO} {o : MO} (hp : H p = none) (hu : RepO K (ρ ++ [p]) (upd H p u) p o) : Rep K (ρ ++ [p]) (h ++ [o]) (upd H p u) := by
  refine ⟨by rw [List.length_append, List.length_append, r.len]; rfl, ?_, fun l o' e => ?_⟩
  · rw [List.nodup_append]
    refine ⟨r.nd, by simp, fun a ha b hb => ?_⟩
    rw [List.mem_singleton.mp hb]
    exact fun z => r.free hp (z ▸ ha)
  · by_cases hl : l < h.length
    · rw [List.getElem?_append_left hl] at e
      obtain ⟨a, ea, q⟩ := r.obj l o' e
      refine ⟨a, (ext_add (o := u) hp).at ea, q.mono r (ext_add hp) ?_⟩
      have : a ≠ p := fun z => r.free hp (z ▸ List.mem_of_getElem? ea)
      rw [upd_ne this]
    · have : l = h.length := by
        have := (List.getElem?_eq_some_iff.mp e).1
        rw [List.length_append, List.length_singleton] at this
        omega
      subst this
      rw [List.getElem?_concat_length] at e
      cases e
      exact ⟨p, by rw [← r.len, List.getElem?_concat_length], hu⟩
theorem Rep.addL (r : Rep K ρ h H) {p : Addr} (hp : H p = none) {ms : List MV} {vs : List V} (q : RepVs K ρ H ms vs) : Rep K (ρ ++ [p]) (h ++ [.lst ms]) (upd H p (.lst vs)) :=
  r.add hp ⟨vs, upd_same, q.mono r (ext_add hp)⟩
theorem ext_set {a : Addr} {o : HO} (m : a ∈ ρ) : Ext ρ H ρ (upd H a o) :=
  ⟨⟨[], by simp⟩, fun b u e n => by rw [upd_ne (fun z => n (by rw [z]; exact m))]; exact e, fun _ m => .inl m⟩
/-- an object changes -/
theorem Rep.set (r : Rep K ρ h H) {l : Nat} {a : Addr} {u : HO} {o : MO} (ea : ρ[l]? = some a) (hu : RepO K ρ (upd H a u) a o) : Rep K ρ (h.set l o) (upd H a u) := by
  refine ⟨by rw [List.length_set]; exact r.len, r.nd, fun l' o' e => ?_⟩
  by_cases hl : l = l'
  · subst hl
    have hlt : l < h.length := by rw [← r.len]; exact (List.getElem?_eq_some_iff.mp ea).1
    rw [List.getElem?_set_self hlt] at e
    cases e
    exact ⟨a, ea, hu⟩
  · rw [List.getElem?_set_ne hl] at e
    obtain ⟨b, eb, q⟩ := r.obj l' o' e
    refine ⟨b, eb, q.mono r (ext_set (List.mem_of_getElem? ea)) ?_⟩
    have : b ≠ a := fun z => by
      subst z
      obtain ⟨i1, e1⟩ := List.getElem?_eq_some_iff.mp ea
      obtain ⟨i2, e2⟩ := List.getElem?_eq_some_iff.mp eb
      exact hl (nd_inj r.nd i1 i2 (e1.trans e2.symm))
    rw [upd_ne this]
theorem Rep.setL (r : Rep K ρ h H) {l : Nat} {a : Addr} (ea : ρ[l]? = some a) {ms : List MV} {vs : List V} (q : RepVs K ρ H ms vs) : Rep K ρ (h.set l (.lst ms)) (upd H a (.lst vs)) :=
  r.set ea ⟨vs, upd_same, q.mono r (ext_set (List.mem_of_getElem? ea))⟩
theorem Rep.lst (r : Rep K ρ h H) {l : Nat} {xs : List MV} (e : h[l]? = some (.lst xs)) : ∃ a vs, ρ[l]? = some a ∧ H a = some (.lst vs) ∧ RepVs K ρ H xs vs := by
  obtain ⟨a, ea, q⟩ := r.obj l _ e
  obtain ⟨vs, e1, z⟩ := q
  exact ⟨a, vs, ea, e1, z⟩
theorem Rep.dct (r : Rep K ρ h H) {x : MV} {v : V} {d : List Key × List MV} (q : RepV K ρ H x v) (e : dctO x h = some d) : ∃ l a vs, x = .loc l ∧ h[l]? = some (.dct d.1 d.2) ∧ ρ[l]? = some a ∧ v = .ref a ∧ H a = some (.dK (d.1.zip vs)) ∧ (d.1.length = vs.length ∧ d.1.Nodup) ∧ RepVs K ρ H d.2 vs := by
  cases x with
  | loc l =>
    unfold dctO at e
    simp only at e
    split at e
    · rename_i ks xs hy
      cases e
      unfold RepV at q
      obtain ⟨a, e1, rfl⟩ := q
      obtain ⟨b, eb, vs, e2, e3, z⟩ := r.obj l _ hy
      rw [e1] at eb
      cases eb
      exact ⟨l, a, vs, rfl, hy, e1, rfl, e2, e3, z⟩
    · cases e
  | _ => cases e
theorem valV_zip : ∀ {ks : List Key} {vs : List V} {k : Key}, ks.length = vs.length → valV (ks.zip vs) k = (kIx ks k).bind fun i => vs[i]?
  | [], _, _, _ => rfl
  | a :: ks, [], _, h => by cases h
  | a :: ks, v :: vs, k, h => by
    unfold kIx
    show valV ((a, v) :: ks.zip vs) k = _
    by_cases e : a = k
    · rw [if_pos e, valV_pos (p := (a, v)) e]
      rfl
    · rw [if_neg e, valV_neg (p := (a, v)) e, valV_zip (by simpa using h)]
      cases kIx ks k <;> rfl
theorem kIx_lt : ∀ {ks : List Key} {k : Key} {i : Nat}, kIx ks k = some i → i < ks.length
  | [], _, _, h => by cases h
  | a :: ks, k, i, h => by
    unfold kIx at h
    by_cases e : a = k
    · rw [if_pos e] at h
      cases h
      simp
    · rw [if_neg e] at h
      cases e2 : kIx ks k with
      | none => rw [e2] at h; cases h
      | some j =>
        rw [e2] at h
        cases h
        have := kIx_lt e2
        simp
        omega
theorem zip_any : ∀ {ks : List Key} {vs : List V} {k : Key}, ks.length = vs.length → ((ks.zip vs).any fun kv => decide (kv.1 = k)) = (kIx ks k).isSome
  | [], _, _, _ => rfl
  | a :: ks, [], _, h => by cases h
  | a :: ks, v :: vs, k, h => by
    unfold kIx
    show (decide (a = k) || (ks.zip vs).any fun kv => decide (kv.1 = k)) = _
    by_cases e : a = k
    · rw [if_pos e, decide_eq_true e]; rfl
    · rw [if_neg e, decide_eq_false e, Bool.false_or, zip_any (by simpa using h)]
      cases kIx ks k <;> rfl
theorem putK_same : ∀ {ks : List Key} {vs : List V} {k : Key} {i : Nat} {y : V}, ks.Nodup → ks.length = vs.length → kIx ks k = some i → ((ks.zip vs).map fun kv => if kv.1 = k then (kv.1, y) else kv) = ks.zip (vs.set i y)
  | [], _, _, _, _, _, _, h => by cases h
  | a :: ks, [], _, _, _, _, h, _ => by cases h
  | a :: ks, v :: vs, k, i, y, nd, h, e => by
    unfold kIx at e
    obtain ⟨n1, n2⟩ := List.nodup_cons.mp nd
    show (if a = k then (a, y) else (a, v)) :: ((ks.zip vs).map fun kv => if kv.1 = k then (kv.1, y) else kv) = _
    by_cases q : a = k
    · rw [if_pos q] at e
      cases e
      rw [if_pos q]
      show _ = (a, y) :: ks.zip vs
      congr 1
      subst q
      have : ∀ p ∈ ks.zip vs, (if p.1 = a then (p.1, y) else p) = p := fun p hp => by
        rw [if_neg]
        intro z
        exact n1 (z ▸ (List.of_mem_zip (a := p.1) (b := p.2) hp).1)
      rw [List.map_congr_left this, List.map_id']
    · rw [if_neg q] at e
      cases e2 : kIx ks k with
      | none => rw [e2] at e; cases e
      | some j =>
        rw [e2] at e
        cases e
        rw [if_neg q, putK_same n2 (by simpa using h) e2]
        rfl
theorem kIx_none : ∀ {ks : List Key} {k : Key}, kIx ks k = none → k ∉ ks
  | [], _, _ => by simp
  | a :: ks, k, h => by
    unfold kIx at h
    by_cases e : a = k
    · rw [if_pos e] at h; cases h
    · rw [if_neg e] at h
      cases e2 : kIx ks k with
      | none =>
        intro m
        rcases List.mem_cons.mp m with z | z
        · exact e z.symm
        · exact kIx_none e2 z
      | some j => rw [e2] at h; cases h
theorem putK_zip {ks : List Key} {vs : List V} {k : Key} {y : V} (nd : ks.Nodup) (h : ks.length = vs.length) :
    putK (ks.zip vs) k y = match kIx ks k with
      | some i => ks.zip (vs.set i y)
      | none => (ks ++ [k]).zip (vs ++ [y]) := by
  unfold putK
  rw [zip_any h]
  cases e : kIx ks k with
  | some i =>
    rw [Option.isSome_some, if_pos rfl, putK_same nd h e]
  | none =>
    rw [Option.isSome_none, if_neg (by decide), List.zip_append h]
    rfl
theorem dput_step {ks : List Key} {ms : List MV} {vs : List V} {k : Key} {m : MV} {y : V} (hl : ks.length = vs.length) (nd : ks.Nodup) (q : RepVs K ρ H ms vs) (qy : RepV K ρ H m y) :
    ∃ ws, putK (ks.zip vs) k y = (dPutK ks ms k m).1.zip ws ∧ (dPutK ks ms k m).1.length = ws.length ∧ (dPutK ks ms k m).1.Nodup ∧ RepVs K ρ H (dPutK ks ms k m).2 ws := by
  rw [putK_zip nd hl]
  unfold dPutK
  cases e : kIx ks k with
  | some i => exact ⟨vs.set i y, rfl, by rw [List.length_set]; exact hl, nd, q.set qy i⟩
  | none =>
    refine ⟨vs ++ [y], rfl, by simp [hl], ?_, q.append (.one qy)⟩
    rw [List.nodup_append]
    refine ⟨nd, by simp, fun x hx z hz => ?_⟩
    rw [List.mem_singleton.mp hz]
    exact fun w => kIx_none e (w ▸ hx)
theorem Rep.setD (r : Rep K ρ h H) {l : Nat} {a : Addr} (ea : ρ[l]? = some a) {ks : List Key} {ms : List MV} {vs : List V} {k : Key} {m : MV} {y : V} (hl : ks.length = vs.length) (nd : ks.Nodup) (q : RepVs K ρ H ms vs) (qy : RepV K ρ H m y) :
    Rep K ρ (h.set l (dPut ks ms k m)) (upd H a (.dK (putK (ks.zip vs) k y))) := by
  rw [putK_zip nd hl]
  unfold dPut
  cases e : kIx ks k with
  | some i => exact r.set ea ⟨vs.set i y, upd_same, ⟨by rw [List.length_set]; exact hl, nd⟩, (q.set qy i).mono r (ext_set (List.mem_of_getElem? ea))⟩
  | none =>
    refine r.set ea ⟨vs ++ [y], upd_same, ⟨by simp [hl], ?_⟩, (q.append (.one qy)).mono r (ext_set (List.mem_of_getElem? ea))⟩
    rw [List.nodup_append]
    refine ⟨nd, by simp, fun x hx z hz => ?_⟩
    rw [List.mem_singleton.mp hz]
    exact fun w => kIx_none e (w ▸ hx)
theorem repKey {x : MV} {v : V} {k : Key} (q : RepV K ρ H x v) (e : keyO x = some k) : v = kV k := by
  cases x with
  | int i => cases e; unfold RepV at q; exact q
  | str i => cases e; unfold RepV at q; exact q
  | _ => cases e
def RepU (K : PySem.W.Frag) (ρ : List Addr) (H : Hp) : Option MV → Option V → Prop
  | some m, some z => RepV K ρ H m z
  | none, none => True
  | _, _ => False
/-- the reading of a dict -/
theorem Rep.dget (r : Rep K ρ h H) {x y : MV} {v w : V} {d : List Key × List MV} {o : Option MV} (q : RepV K ρ H x v) (qy : RepV K ρ H y w) (e : dctO x h = some d) (eg : dGetO d y = some o) :
    ∃ a u, v = .ref a ∧ DGet H a w u ∧ RepU K ρ H o u := by
  obtain ⟨l, a, vs, rfl, hy, e1, rfl, e2, e3, z⟩ := r.dct q e
  unfold dGetO at eg
  cases ek : keyO y with
  | none => rw [ek] at eg; cases eg
  | some k =>
    rw [ek] at eg
    have eg : ((kIx d.1 k).bind fun i => d.2[i]?) = o := Option.some.inj eg
    subst eg
    rw [repKey qy ek]
    refine ⟨a, _, rfl, DGet.k e2, ?_⟩
    rw [valV_zip e3.1]
    cases ei : kIx d.1 k with
    | none => exact trivial
    | some i =>
      have hi := kIx_lt ei
      have hm : i < d.2.length := by
        have := z.length
        omega
      show RepU K ρ H d.2[i]? vs[i]?
      obtain ⟨w, ew, rw⟩ := z.get (List.getElem?_eq_getElem hm)
      rw [ew, List.getElem?_eq_getElem hm]
      exact rw
/-- the items of a list or a tuple -/
theorem Rep.items (r : Rep K ρ h H) {x : MV} {v : V} {xs : List MV} (q : RepV K ρ H x v) (e : itemsO x h = some xs) : ∃ a vs, v = .ref a ∧ (SqL K H a vs ∨ SqT K H a vs) ∧ RepVs K ρ H xs vs := by
  cases x with
  | tup ys =>
    cases e
    unfold RepV at q
    obtain ⟨a, vs, e, s, z⟩ := q
    exact ⟨a, vs, e, .inr s, z⟩
  | rol ys =>
    cases e
    unfold RepV at q
    obtain ⟨a, vs, e, s, z⟩ := q
    exact ⟨a, vs, e, .inl s.sq, z⟩
  | loc l =>
    unfold RepV at q
    obtain ⟨a, e1, rfl⟩ := q
    unfold itemsO at e
    simp only at e
    split at e
    · rename_i ys hy
      cases e
      obtain ⟨b, vs, e2, e3, z⟩ := r.lst hy
      rw [e1] at e2
      cases e2
      exact ⟨a, vs, rfl, .inl (.inl (.inl e3)), z⟩
    · cases e
  | _ => cases e
/-! ### data -/
mutual
theorem Rep.dp (r : Rep K ρ h H) : ∀ {d : PyData} {x : MV} {v : V}, Dn h x d → RepV K ρ H x v → Dp K H v d
  | .none, _, _, .non, q => by unfold RepV at q; subst q; exact .non
  | .bool _, _, _, .bl _, q => by unfold RepV at q; subst q; exact .bl _
  | .int _, _, _, .int _, q => by unfold RepV at q; subst q; exact .int _
  | .str _, _, _, .str _, q => by unfold RepV at q; subst q; exact .str _
  | .tuple ds, _, _, .tup n, q => by
    unfold RepV at q
    obtain ⟨a, vs, rfl, s, z⟩ := q
    exact .tup s (Rep.dps r n z)
  | .list ds, _, _, .rol n, q => by
    unfold RepV at q
    obtain ⟨a, vs, rfl, s, z⟩ := q
    exact .lst s.sq (Rep.dps r n z)
  | .list ds, _, _, .loc e n, q => by
    unfold RepV at q
    obtain ⟨a, e1, rfl⟩ := q
    obtain ⟨b, vs, e2, e3, z⟩ := r.lst e
    rw [e1] at e2
    cases e2
    exact .lst (.inl (.inl e3)) (Rep.dps r n z)
theorem Rep.dps (r : Rep K ρ h H) : ∀ {ds : List PyData} {xs : List MV} {vs : List V}, Dns h xs ds → RepVs K ρ H xs vs → DpAll K H vs ds
  | [], _, _, .nil, q => by unfold RepVs at q; subst q; exact .nil
  | d :: ds, _, _, .cons n ns, q => by
    unfold RepVs at q
    obtain ⟨w, ws, rfl, a, b⟩ := q
    exact .cons (Rep.dp r n a) (Rep.dps r ns b)
end
/-! ### instances -/
theorem nIx_lt : ∀ {ns : List Str} {f : Str} {i : Nat}, nIx ns f = some i → i < ns.length ∧ ns[i]? = some f
  | [], _, _, h => by cases h
  | a :: ns, f, i, h => by
    unfold nIx at h
    by_cases e : a = f
    · rw [if_pos e] at h
      cases h
      exact ⟨by simp, by simp [e]⟩
    · rw [if_neg e] at h
      cases e2 : nIx ns f with
      | none => rw [e2] at h; cases h
      | some j =>
        rw [e2] at h
        cases h
        obtain ⟨p, q⟩ := nIx_lt e2
        exact ⟨by simp; omega, by simpa using q⟩
theorem nIx_none : ∀ {ns : List Str} {f : Str}, nIx ns f = none → f ∉ ns
  | [], _, _ => by simp
  | a :: ns, f, h => by
    unfold nIx at h
    by_cases e : a = f
    · rw [if_pos e] at h
      cases h
    · rw [if_neg e] at h
      have h2 : nIx ns f = none := by
        cases e2 : nIx ns f with
        | none => rfl
        | some j => rw [e2] at h; cases h
      intro m
      rcases List.mem_cons.mp m with m | m
      · exact e m.symm
      · exact nIx_none h2 m
theorem look_zip : ∀ {ns : List Str} {vs : List V} {f : Str}, ns.length = vs.length → (ns.zip vs).lookup f = (nIx ns f).bind fun i => vs[i]?
  | [], _, _, _ => rfl
  | a :: ns, [], _, h => by cases h
  | a :: ns, v :: vs, f, h => by
    unfold nIx
    rw [List.zip_cons_cons, List.lookup_cons]
    by_cases e : a = f
    · have : (f == a) = true := by simp [e]
      rw [if_pos e, this]
      rfl
    · have : (f == a) = false := by simpa using fun z : f = a => e z.symm
      rw [if_neg e, this]
      simp only
      rw [look_zip (by simpa using h)]
      cases nIx ns f <;> rfl
theorem put_zip {f : Str} {y : V} : ∀ {ns : List Str} {vs : List V}, ns.length = vs.length → putF f y (ns.zip vs) = match nIx ns f with
    | some i => ns.zip (vs.set i y)
    | none => (ns ++ [f]).zip (vs ++ [y])
  | [], [], _ => rfl
  | a :: ns, [], h => by cases h
  | a :: ns, v :: vs, h => by
    have ih := put_zip (f := f) (y := y) (ns := ns) (vs := vs) (by simpa using h)
    unfold nIx
    rw [List.zip_cons_cons]
    unfold putF
    by_cases e : a = f
    · rw [if_pos e, if_pos e]
      rfl
    · rw [if_neg e, if_neg e, ih]
      cases nIx ns f <;> rfl
theorem Rep.ins (r : Rep K ρ h H) {x : MV} {v : V} {o : Str × List Str × List MV} (q : RepV K ρ H x v) (e : insO x h = some o) :
    ∃ l a dx vs, x = .loc l ∧ h[l]? = some (.ins o.1 o.2.1 o.2.2) ∧ ρ[l]? = some a ∧ v = .ref a ∧ H a = some (.ins (He.ga K o.1) dx (o.2.1.zip vs)) ∧ (o.2.1.length = vs.length ∧ o.2.1.Nodup) ∧ RepVs K ρ H o.2.2 vs := by
  cases x with
  | loc l =>
    unfold insO at e
    simp only at e
    split at e
    · rename_i c ns xs hy
      cases e
      unfold RepV at q
      obtain ⟨a, e1, rfl⟩ := q
      obtain ⟨b, eb, dx, vs, e2, e3, z⟩ := r.obj l _ hy
      rw [e1] at eb
      cases eb
      exact ⟨l, a, dx, vs, rfl, hy, e1, rfl, e2, e3, z⟩
    · cases e
  | _ => cases e
theorem Rep.setF (r : Rep K ρ h H) {l : Nat} {a dx C : Addr} (ea : ρ[l]? = some a) {c : Str} {ns : List Str} {ms : List MV} {vs : List V} {f : Str} {m : MV} {y : V} (hc : C = He.ga K c) (hl : ns.length = vs.length) (nd : ns.Nodup) (q : RepVs K ρ H ms vs) (qy : RepV K ρ H m y) :
    Rep K ρ (h.set l (fPut c ns ms f m)) (upd H a (.ins C dx (putF f y (ns.zip vs)))) := by
  subst hc
  refine r.set ea ?_
  unfold fPut
  rw [put_zip hl]
  cases e : nIx ns f with
  | some i =>
    exact ⟨dx, vs.set i y, upd_same, ⟨by rw [List.length_set]; exact hl, nd⟩, (q.set qy i).mono r (ext_set (List.mem_of_getElem? ea))⟩
  | none =>
    refine ⟨dx, vs ++ [y], upd_same, ⟨by simp [hl], ?_⟩, (q.append (.one qy)).mono r (ext_set (List.mem_of_getElem? ea))⟩
    rw [List.nodup_append]
    refine ⟨nd, by simp, fun b hb d hd => ?_⟩
    rw [List.mem_singleton.mp hd]
    exact fun z => nIx_none e (z ▸ hb)
/-- a table may grow -/
theorem Rep.tab (r : Rep K ρ h H) {l : Nat} {x : Str × Option Str} (e : h[l]? = some (.tbl x)) : ρ[l]? = some (tabA K x) ∧ GxR.TabG H (tabA K x) := by
  obtain ⟨a, ea, e1, t⟩ := r.obj l _ e
  subst e1
  exact ⟨ea, t⟩
theorem Rep.tabbed (r : Rep K ρ h H) {l : Nat} {x : Str × Option Str} (e : h[l]? = some (.tbl x)) {H' : Hp} (t : GxR.Tabbed (tabA K x) H H') : Ext ρ H ρ H' ∧ Rep K ρ h H' := by
  obtain ⟨ea, _⟩ := r.tab e
  have m := List.mem_of_getElem? ea
  have x1 : Ext ρ H ρ H' := ⟨⟨[], by simp⟩, fun a o eo n => by rw [t.2 a fun z => n (z ▸ m)]; exact eo, fun a m => .inl m⟩
  refine ⟨x1, r.len, r.nd, fun l' o' e' => ?_⟩
  obtain ⟨b, eb, q⟩ := r.obj l' o' e'
  by_cases hb : b = tabA K x
  · subst hb
    have : l' = l := by
      obtain ⟨i1, e1⟩ := List.getElem?_eq_some_iff.mp ea
      obtain ⟨i2, e2⟩ := List.getElem?_eq_some_iff.mp eb
      exact nd_inj r.nd i2 i1 (e2.trans e1.symm)
    subst this
    rw [e] at e'
    cases e'
    exact ⟨_, eb, rfl, t.1⟩
  · exact ⟨b, eb, q.mono r x1 (t.2 b hb)⟩
end
end MP
end
section
set_option Elab.async false
set_option linter.all false
set_option maxRecDepth 100000
set_option maxHeartbeats 4000000
/-! MP, part c: the operations of the small language are those of the model. -/
namespace MP
open PySem PySem.Spec PyProof.Rows L2

def r2M (K : PySem.W.Frag) (f : MV → MV → MH → Option (MV × MH)) : R2 := fun x y H Q => ∃ ρ h mx my v h', Rep K ρ h H ∧ RepV K ρ H mx x ∧ RepV K ρ H my y ∧ f mx my h = some (v, h') ∧
  ∀ ρ' H' w, Ext ρ H ρ' H' → Rep K ρ' h' H' → RepV K ρ' H' v w → Q w H'
def rsM (K : PySem.W.Frag) (f : List MV → MH → Option (MV × MH)) : List V → Hp → VK → Prop := fun vs H Q => ∃ ρ h xs v h', Rep K ρ h H ∧ RepVs K ρ H xs vs ∧ f xs h = some (v, h') ∧
  ∀ ρ' H' w, Ext ρ H ρ' H' → Rep K ρ' h' H' → RepV K ρ' H' v w → Q w H'
def rmM (K : PySem.W.Frag) (f : MV → List MV → MH → Option (MV × MH)) : V → List V → Hp → VK → Prop := fun x vs H Q => ∃ ρ h mx xs v h', Rep K ρ h H ∧ RepV K ρ H mx x ∧ RepVs K ρ H xs vs ∧ f mx xs h = some (v, h') ∧
  ∀ ρ' H' w, Ext ρ H ρ' H' → Rep K ρ' h' H' → RepV K ρ' H' v w → Q w H'
section
variable {K : PySem.W.Frag} {ρ : List Addr} {h : MH} {H : Hp}
theorem repInt {i : Int} {v : V} (q : RepV K ρ H (.int i) v) : v = .int i := by unfold RepV at q; exact q
theorem repBl {i : Bool} {v : V} (q : RepV K ρ H (.bl i) v) : v = .bl i := by unfold RepV at q; exact q
theorem repStr {i : Str} {v : V} (q : RepV K ρ H (.str i) v) : v = .str i := by unfold RepV at q; exact q
theorem repNon {v : V} (q : RepV K ρ H .non v) : v = .non := by unfold RepV at q; exact q
theorem intRep {i : Int} : RepV K ρ H (.int i) (.int i) := by unfold RepV; rfl
theorem blRep {i : Bool} : RepV K ρ H (.bl i) (.bl i) := by unfold RepV; rfl
theorem strRep {i : Str} : RepV K ρ H (.str i) (.str i) := by unfold RepV; rfl
theorem nonRep : RepV K ρ H .non .non := by unfold RepV; rfl
theorem locRep {l : Nat} {a : Addr} (e : ρ[l]? = some a) : RepV K ρ H (.loc l) (.ref a) := by unfold RepV; exact ⟨a, e, rfl⟩
theorem repLoc {l : Nat} {v : V} (q : RepV K ρ H (.loc l) v) : ∃ a, ρ[l]? = some a ∧ v = .ref a := by unfold RepV at q; exact q
/-- a new list is handed on -/
theorem Rep.newL (r : Rep K ρ h H) {ms : List MV} {vs : List V} (q : RepVs K ρ H ms vs) {Q : VK} (hQ : ∀ ρ' H' w, Ext ρ H ρ' H' → Rep K ρ' (h ++ [.lst ms]) H' → RepV K ρ' H' (.loc h.length) w → Q w H') :
    ∀ p, H p = none → Q (.ref p) (upd H p (.lst vs)) := fun p hp =>
  hQ _ _ _ (ext_add hp) (r.addL hp q) (locRep (by rw [← r.len, List.getElem?_concat_length]))
/-- a new tuple is handed on -/
theorem Rep.newT (r : Rep K ρ h H) {ms : List MV} {vs : List V} (q : RepVs K ρ H ms vs) {Q : VK} (hQ : ∀ ρ' H' w, Ext ρ H ρ' H' → Rep K ρ' h H' → RepV K ρ' H' (.tup ms) w → Q w H') :
    ∀ p, H p = none → Q (.ref p) (upd H p (.tup vs)) := fun p hp =>
  hQ _ _ _ (ext_new hp) (r.tup hp) (by unfold RepV; exact ⟨p, vs, rfl, .inl (.inl upd_same), q.mono r (ext_new hp)⟩)
theorem CMulB_ok {i j : Int} (e : augO.CMulB i j = true) : CMul i j := by
  unfold augO.CMulB at e
  simp only [Bool.or_eq_true, Bool.and_eq_true, decide_eq_true_eq] at e
  exact e
end
section
variable {X : Cx}
theorem op_addM : OpR X (binaryOp .Add) (r2M X.K addO) := by
  intro pins s σ H x y v u Q I rx ry ⟨ρ, h, mx, my, r, h', rp, qx, qy, e, q⟩
  unfold addO at e
  split at e
  · cases e
    exact op_add pins s σ H x y v u Q I rx ry ⟨_, _, repInt qx, repInt qy, q ρ H _ .refl rp intRep⟩
  · split at e
    · rename_i hz
      cases e
      exact op_add_str pins s σ H x y v u Q I rx ry ⟨_, _, repStr qx, repStr qy, hz, q ρ H _ .refl rp strRep⟩
    · cases e
  · rename_i xs ys
    split at e
    · rename_i hz
      cases e
      unfold RepV at qx qy
      obtain ⟨a, vs, rfl, sa, za⟩ := qx
      obtain ⟨b, ws, rfl, sb, zb⟩ := qy
      refine op_catA pins s σ H _ _ v u Q I rx ry ⟨a, b, vs, ws, rfl, rfl, sa, sb, by rw [za.length, zb.length]; exact hz, fun ev => ?_, fun nv ew => ?_, fun _ _ => ?_⟩
      · subst ev
        have : xs = [] := List.length_eq_zero_iff.mp za.length.symm
        subst this
        exact q ρ H _ .refl rp (by unfold RepV; exact ⟨b, ws, rfl, sb, zb⟩)
      · subst ew
        have : ys = [] := List.length_eq_zero_iff.mp zb.length.symm
        subst this
        rw [List.append_nil] at q
        exact q ρ H _ .refl rp (by unfold RepV; exact ⟨a, vs, rfl, sa, za⟩)
      · exact rp.newT (za.append zb) q
    · cases e
  · rename_i a b
    split at e
    · rename_i xs ys ha hb
      split at e
      · rename_i hz
        cases e
        obtain ⟨a1, e1, rfl⟩ := repLoc qx
        obtain ⟨b1, e2, rfl⟩ := repLoc qy
        obtain ⟨a', vs, ea, Ha, za⟩ := rp.lst ha
        obtain ⟨b', ws, eb, Hb, zb⟩ := rp.lst hb
        rw [e1] at ea
        cases ea
        rw [e2] at eb
        cases eb
        exact op_cat pins s σ H _ _ v u Q I rx ry ⟨_, _, vs, ws, rfl, rfl, Ha, Hb, by rw [za.length, zb.length]; exact hz, rp.newL (za.append zb) q⟩
      · cases e
    · cases e
  · cases e
theorem op_subM : OpR X (binaryOp .Sub) (r2M X.K (binO .sub)) := by
  intro pins s σ H x y v u Q I rx ry ⟨ρ, h, mx, my, r, h', rp, qx, qy, e, q⟩
  unfold binO at e
  simp only at e
  split at e
  · cases e
    exact op_sub pins s σ H x y v u Q I rx ry ⟨_, _, repInt qx, repInt qy, q ρ H _ .refl rp intRep⟩
  · cases e
theorem op_mulM : OpR X (binaryOp .Mult) (r2M X.K (binO .mul)) := by
  intro pins s σ H x y v u Q I rx ry ⟨ρ, h, mx, my, r, h', rp, qx, qy, e, q⟩
  unfold binO at e
  simp only at e
  split at e
  · split at e
    · rename_i hz
      cases e
      exact op_mul pins s σ H x y v u Q I rx ry ⟨_, _, repInt qx, repInt qy, CMulB_ok hz, q ρ H _ .refl rp intRep⟩
    · cases e
  · rename_i a k
    split at e
    · rename_i xs ha
      split at e
      · rename_i hz
        cases e
        obtain ⟨a1, e1, rfl⟩ := repLoc qx
        obtain ⟨a', vs, ea, Ha, za⟩ := rp.lst ha
        rw [e1] at ea
        cases ea
        exact op_rep pins s σ H _ y v u Q I rx ry ⟨_, k, vs, rfl, repInt qy, Ha, hz.1, hz.2.1, by rw [za.length]; exact hz.2.2, rp.newL (za.flatten _) q⟩
      · cases e
    · cases e
  · cases e
theorem op_fdivM : OpR X (binaryOp .FloorDiv) (r2M X.K (binO .fdiv)) := by
  intro pins s σ H x y v u Q I rx ry ⟨ρ, h, mx, my, r, h', rp, qx, qy, e, q⟩
  unfold binO at e
  simp only at e
  split at e
  · split at e
    · rename_i hz
      cases e
      exact op_fdivN pins s σ H x y v u Q I rx ry ⟨_, _, repInt qx, repInt qy, hz, q ρ H _ .refl rp intRep⟩
    · cases e
  · cases e
theorem op_modM : OpR X (binaryOp .Mod) (r2M X.K (binO .mod)) := by
  intro pins s σ H x y v u Q I rx ry ⟨ρ, h, mx, my, r, h', rp, qx, qy, e, q⟩
  unfold binO at e
  simp only at e
  split at e
  · split at e
    · rename_i hz
      cases e
      exact op_modN pins s σ H x y v u Q I rx ry ⟨_, _, repInt qx, repInt qy, hz, q ρ H _ .refl rp intRep⟩
    · cases e
  · cases e
theorem op_powM : OpR X (binaryOp .Pow) (r2M X.K (binO .pow)) := by
  intro pins s σ H x y v u Q I rx ry ⟨ρ, h, mx, my, r, h', rp, qx, qy, e, q⟩
  unfold binO at e
  simp only at e
  split at e
  · split at e
    · rename_i hz
      cases e
      exact op_pow pins s σ H x y v u Q I rx ry ⟨_, _, repInt qx, repInt qy, hz, q ρ H _ .refl rp intRep⟩
    · cases e
  · cases e
def BOp.op : BOp → Operator
  | .add => .Add | .sub => .Sub | .mul => .Mult | .fdiv => .FloorDiv | .mod => .Mod | .pow => .Pow
theorem op_binM (o : BOp) : OpR X (binaryOp o.op) (r2M X.K (binO o)) := by
  cases o with
  | add => exact op_addM
  | sub => exact op_subM
  | mul => exact op_mulM
  | fdiv => exact op_fdivM
  | mod => exact op_modM
  | pow => exact op_powM
theorem ip_M (o : BOp) : PIp X o.op (r2M X.K (augO o)) := by
  intro pins s σ H x y v u Q I rx ry ⟨ρ, h, mx, my, r, h', rp, qx, qy, e, q⟩
  unfold augO at e
  split at e
  · cases e
    exact ip_add pins s σ H x y v u Q I rx ry ⟨_, _, repInt qx, repInt qy, q ρ H _ .refl rp intRep⟩
  · cases e
    exact ip_sub pins s σ H x y v u Q I rx ry ⟨_, _, repInt qx, repInt qy, q ρ H _ .refl rp intRep⟩
  · split at e
    · rename_i hz
      cases e
      exact iop_mul pins s σ H x y v u Q I rx ry ⟨_, _, repInt qx, repInt qy, CMulB_ok hz, q ρ H _ .refl rp intRep⟩
    · cases e
  · rename_i a b
    split at e
    · rename_i xs ys h1 h2
      split at e
      · rename_i hz
        cases e
        obtain ⟨l1, e1, rfl⟩ := repLoc qx
        obtain ⟨l2, e2, rfl⟩ := repLoc qy
        obtain ⟨l1', vs, e3, e4, z1⟩ := rp.lst h1
        obtain ⟨l2', ws, e5, e6, z2⟩ := rp.lst h2
        rw [e1] at e3
        cases e3
        rw [e2] at e5
        cases e5
        refine iop_ext pins s σ H _ _ v u Q I rx ry ⟨l1, l2, vs, ws, rfl, rfl, e4, e6, by rw [z1.length, z2.length]; exact hz, ?_⟩
        exact q ρ _ _ (ext_set (List.mem_of_getElem? e1)) (rp.setL e1 (z1.append z2)) (locRep e1)
      · cases e
    · cases e
  · cases e

/-! ### comparisons -/
def r2B (K : PySem.W.Frag) (f : MV → MV → MH → Option Bool) : R2 := fun x y H Q => ∃ ρ h mx my k, Rep K ρ h H ∧ RepV K ρ H mx x ∧ RepV K ρ H my y ∧ f mx my h = some k ∧ Q (.bl k) H
theorem eqO_ok {K : PySem.W.Frag} {ρ : List Addr} {h : MH} {H : Hp} {mx my : MV} {x y : V} {k : Bool} (rp : Rep K ρ h H) (qx : RepV K ρ H mx x) (qy : RepV K ρ H my y) (e : eqO mx my h = some k) :
    ∃ d e, Dp K H x d ∧ Dp K H y e ∧ shp d = true ∧ shp e = true ∧ k = PyData.eqv d e := by
  unfold eqO at e
  split at e
  · rename_i d d' hd hd'
    split at e
    · rename_i hs
      cases e
      exact ⟨d, d', rp.dp (of_dat hd) qx, rp.dp (of_dat hd') qy, hs.1, hs.2, rfl⟩
    · cases e
  · cases e
theorem op_eqM (hu : X.A.units + 128 < cLine) : OpR X (compareOp .Eq) (r2B X.K eqO) := by
  intro pins s σ H x y v u Q I rx ry ⟨ρ, h, mx, my, k, rp, qx, qy, e, q⟩
  obtain ⟨d, d', d1, d2, s1, s2, rfl⟩ := eqO_ok rp qx qy e
  obtain ⟨as, r1⟩ := Dp.reads I d x v d1 rx
  obtain ⟨bs, r2⟩ := Dp.reads I d' y u d2 ry
  exact SeqAt.compareEq_reads r1 r2 (canLay_of_shp s1) (canLay_of_shp s2) (room_shp s1 hu) ⟨.bl _, H, I, rfl, q⟩
theorem op_neM (hu : X.A.units + 128 < cLine) : OpR X (compareOp .NotEq) (r2B X.K fun x y h => (eqO x y h).map (!·)) := by
  intro pins s σ H x y v u Q I rx ry ⟨ρ, h, mx, my, k, rp, qx, qy, e, q⟩
  have e : (eqO mx my h).map (!·) = some k := e
  cases e2 : eqO mx my h with
  | none => rw [e2] at e; cases e
  | some b =>
    rw [e2] at e
    cases e
    obtain ⟨d, d', d1, d2, s1, s2, rfl⟩ := eqO_ok rp qx qy e2
    obtain ⟨as, r1⟩ := Dp.reads I d x v d1 rx
    obtain ⟨bs, r2⟩ := Dp.reads I d' y u d2 ry
    exact SeqAt.compareNe_reads r1 r2 (canLay_of_shp s1) (canLay_of_shp s2) (room_shp s1 hu) ⟨.bl _, H, I, rfl, q⟩
theorem isNon_ok {K : PySem.W.Frag} {ρ : List Addr} {H : Hp} {m : MV} {x : V} (q : RepV K ρ H m x) : decide (x = .non) = m.isNon := by
  cases m with
  | non => rw [repNon q]; rfl
  | bl _ => rw [repBl q]; rfl
  | int _ => rw [repInt q]; rfl
  | str _ => rw [repStr q]; rfl
  | tup _ => unfold RepV at q; obtain ⟨a, vs, rfl, _⟩ := q; rfl
  | rol _ => unfold RepV at q; obtain ⟨a, vs, rfl, _⟩ := q; rfl
  | loc _ => obtain ⟨a, _, rfl⟩ := repLoc q; rfl
  | ty n => unfold RepV at q; subst q; rfl
  | cls _ => unfold RepV at q; exact q.elim
theorem op_isM : OpR X (compareOp .Is) (r2B X.K (cmpO .is)) := by
  intro pins s σ H x y v u Q I rx ry ⟨ρ, h, mx, my, k, rp, qx, qy, e, q⟩
  unfold cmpO at e
  simp only at e
  split at e
  · cases e
    exact op_isN pins s σ H x y v u Q I rx ry ⟨repNon qy, by rw [isNon_ok qx]; exact q⟩
  · split at e
    · cases e
      exact op_is_bl pins s σ H x y v u Q I rx ry ⟨_, _, repBl qx, repBl qy, q⟩
    · cases e
  · cases e
theorem op_isnM : OpR X (compareOp .IsNot) (r2B X.K (cmpO .isn)) := by
  intro pins s σ H x y v u Q I rx ry ⟨ρ, h, mx, my, k, rp, qx, qy, e, q⟩
  unfold cmpO at e
  simp only at e
  split at e
  · cases e
    exact op_notN pins s σ H x y v u Q I rx ry ⟨repNon qy, by rw [isNon_ok qx]; exact q⟩
  · split at e
    · cases e
      exact op_isnot_bl pins s σ H x y v u Q I rx ry ⟨_, _, repBl qx, repBl qy, q⟩
    · cases e
  · cases e
theorem flat_ok {K : PySem.W.Frag} {ρ : List Addr} {H : Hp} {m : MV} {x : V} (q : RepV K ρ H m x) (f : flatM m = true) : flatV x = true := by
  cases m with
  | non => rw [repNon q]; rfl
  | bl _ => rw [repBl q]; rfl
  | int _ => rw [repInt q]; rfl
  | str _ => rw [repStr q]; rfl
  | _ => cases f
theorem eqV_ok {K : PySem.W.Frag} {ρ : List Addr} {H : Hp} {m n : MV} {x y : V} (q : RepV K ρ H m x) (r : RepV K ρ H n y) (f : flatM m = true) (g : flatM n = true) : eqV x y = PyData.eqv (flatD m) (flatD n) := by
  cases m with
  | non =>
    cases n with
    | non => rw [repNon q, repNon r]; simp [eqV, flatD, PyData.eqv]
    | bl _ => rw [repNon q, repBl r]; simp [eqV, flatD, PyData.eqv]
    | int _ => rw [repNon q, repInt r]; simp [eqV, flatD, PyData.eqv]
    | str _ => rw [repNon q, repStr r]; simp [eqV, flatD, PyData.eqv]
    | _ => cases g
  | bl _ =>
    cases n with
    | non => rw [repBl q, repNon r]; simp [eqV, flatD, PyData.eqv]
    | bl _ => rw [repBl q, repBl r]; simp [eqV, flatD, PyData.eqv]
    | int _ => rw [repBl q, repInt r]; simp [eqV, flatD, PyData.eqv]
    | str _ => rw [repBl q, repStr r]; simp [eqV, flatD, PyData.eqv]
    | _ => cases g
  | int _ =>
    cases n with
    | non => rw [repInt q, repNon r]; simp [eqV, flatD, PyData.eqv]
    | bl _ => rw [repInt q, repBl r]; simp [eqV, flatD, PyData.eqv]
    | int _ => rw [repInt q, repInt r]; simp [eqV, flatD, PyData.eqv]
    | str _ => rw [repInt q, repStr r]; simp [eqV, flatD, PyData.eqv]
    | _ => cases g
  | str _ =>
    cases n with
    | non => rw [repStr q, repNon r]; simp [eqV, flatD, PyData.eqv]
    | bl _ => rw [repStr q, repBl r]; simp [eqV, flatD, PyData.eqv]
    | int _ => rw [repStr q, repInt r]; simp [eqV, flatD, PyData.eqv]
    | str _ => rw [repStr q, repStr r]; simp [eqV, flatD, PyData.eqv]
    | _ => cases g
  | _ => cases f
theorem flats_ok {K : PySem.W.Frag} {ρ : List Addr} {H : Hp} : ∀ {ms : List MV} {vs : List V}, RepVs K ρ H ms vs → ms.all flatM = true → vs.all flatV = true
  | [], _, q, _ => by unfold RepVs at q; subst q; rfl
  | m :: ms, _, q, f => by
    unfold RepVs at q
    obtain ⟨w, ws, rfl, a, b⟩ := q
    rw [List.all_cons, Bool.and_eq_true] at f
    rw [List.all_cons, Bool.and_eq_true]
    exact ⟨flat_ok a f.1, flats_ok b f.2⟩
theorem inV_ok {K : PySem.W.Frag} {ρ : List Addr} {H : Hp} {m : MV} {x : V} (q : RepV K ρ H m x) (f : flatM m = true) : ∀ {ms : List MV} {vs : List V}, RepVs K ρ H ms vs → ms.all flatM = true →
    inV x vs = ms.any fun z => PyData.eqv (flatD z) (flatD m)
  | [], _, r, _ => by unfold RepVs at r; subst r; rfl
  | n :: ms, _, r, g => by
    unfold RepVs at r
    obtain ⟨w, ws, rfl, a, b⟩ := r
    rw [List.all_cons, Bool.and_eq_true] at g
    have ih := inV_ok q f b g.2
    unfold inV at ih ⊢
    rw [List.any_cons, List.any_cons, ih, eqV_ok a q g.1 f]
theorem inL_ok {K : PySem.W.Frag} {ρ : List Addr} {h : MH} {H : Hp} {mx my : MV} {x y : V} {k : Bool} (rp : Rep K ρ h H) (qx : RepV K ρ H mx x) (qy : RepV K ρ H my y) (e : inL mx my h = some k) :
    (∃ p xs, y = .ref p ∧ SqT K H p xs ∧ flatV x = true ∧ xs.all flatV = true ∧ k = inV x xs) ∨
    ∃ d ds, Dp K H x d ∧ Dp K H y (.list ds) ∧ shp d = true ∧ shp (.list ds) = true ∧ k = ds.any fun z => PyData.eqv z d := by
  unfold inL at e
  split at e
  · split at e
    · rename_i hf
      cases e
      unfold RepV at qy
      obtain ⟨a, vs, rfl, s, z⟩ := qy
      exact .inl ⟨a, vs, rfl, s, flat_ok qx hf.1, flats_ok z hf.2, (inV_ok qx hf.1 z hf.2).symm⟩
    · cases e
  · split at e
    · rename_i d ds hd hd'
      split at e
      · rename_i hs
        cases e
        exact .inr ⟨d, ds, rp.dp (of_dat hd) qx, rp.dp (of_dat hd') qy, hs.1, hs.2, rfl⟩
      · cases e
    · cases e
  · split at e
    · rename_i d ds hd hd'
      split at e
      · rename_i hs
        cases e
        exact .inr ⟨d, ds, rp.dp (of_dat hd) qx, rp.dp (of_dat hd') qy, hs.1, hs.2, rfl⟩
      · cases e
    · cases e
  · cases e
theorem dIn_ok {K : PySem.W.Frag} {ρ : List Addr} {h : MH} {H : Hp} {mx my : MV} {x y : V} {k : Bool} (rp : Rep K ρ h H) (qx : RepV K ρ H mx x) (qy : RepV K ρ H my y) (e : dIn mx my h = some k) :
    ∃ a u, y = .ref a ∧ DGet H a x u ∧ k = u.isSome := by
  unfold dIn at e
  cases ed : dctO my h with
  | none => rw [ed] at e; cases e
  | some d =>
    rw [ed] at e
    cases ek : keyO mx with
    | none => simp [ek] at e
    | some j =>
      obtain ⟨l, a, vs, rfl, hy, e1, rfl, e2, e3, z⟩ := rp.dct qy ed
      simp [ek] at e
      subst e
      rw [repKey qx ek]
      refine ⟨a, _, rfl, DGet.k e2, ?_⟩
      rw [valV_zip e3.1]
      cases ei : kIx d.1 j with
      | none => rfl
      | some i =>
        have hi := kIx_lt ei
        show true = (vs[i]?).isSome
        rw [List.getElem?_eq_getElem (by omega)]
        rfl
theorem or_cases {α : Type} {a b : Option α} {x : α} (e : a.or b = some x) : a = some x ∨ b = some x := by
  cases a with
  | none => exact .inr e
  | some y => exact .inl e
theorem op_inM (hu : X.A.units + 129 < cLine) : OpR X (compareOp .In) (r2B X.K (cmpO .inn)) := by
  intro pins s σ H x y v u Q I rx ry ⟨ρ, h, mx, my, k, rp, qx, qy, e, q⟩
  rcases or_cases (show (inL mx my h).or (dIn mx my h) = some k from e) with e | e
  · rcases inL_ok rp qx qy e with ⟨p, xs, rfl, s1, f, g, rfl⟩ | ⟨d, ds, d1, d2, s1, s2, rfl⟩
    · exact op_in_seq pins s σ H x _ v u Q I rx ry ⟨p, xs, rfl, .inr s1, f, g, q⟩
    · obtain ⟨as, r1⟩ := Dp.reads I d x v d1 rx
      obtain ⟨bs, r2⟩ := Dp.reads I (.list ds) y u d2 ry
      exact SeqAt.in_list_reads r2 r1 (canLay_of_shp s2) (canLay_of_shp s1) (room_in_shp s1 hu) ⟨.bl _, H, I, rfl, q⟩
  · obtain ⟨a, o, rfl, g, rfl⟩ := dIn_ok rp qx qy e
    obtain rfl : u = Value.ref a := ry
    exact d_in (by omega) I g rx fun s3 I3 => ⟨.bl o.isSome, H, I3, rfl, q⟩
theorem op_ninM (hu : X.A.units + 129 < cLine) : OpR X (compareOp .NotIn) (r2B X.K (cmpO .nin)) := by
  intro pins s σ H x y v u Q I rx ry ⟨ρ, h, mx, my, k, rp, qx, qy, e, q⟩
  unfold cmpO at e
  simp only at e
  cases e2 : inO mx my h with
  | none => rw [e2] at e; cases e
  | some b =>
    rw [e2] at e
    cases e
    rcases or_cases (show (inL mx my h).or (dIn mx my h) = some b from e2) with e2 | e2
    · rcases inL_ok rp qx qy e2 with ⟨p, xs, rfl, s1, f, g, rfl⟩ | ⟨d, ds, d1, d2, s1, s2, rfl⟩
      · exact op_notIn_seq pins s σ H x _ v u Q I rx ry ⟨p, xs, rfl, .inr s1, f, g, q⟩
      · obtain ⟨as, r1⟩ := Dp.reads I d x v d1 rx
        obtain ⟨bs, r2⟩ := Dp.reads I (.list ds) y u d2 ry
        exact SeqAt.notIn_list_reads r2 r1 (canLay_of_shp s2) (canLay_of_shp s1) (room_in_shp s1 hu) ⟨.bl _, H, I, rfl, q⟩
    · obtain ⟨a, o, rfl, g, rfl⟩ := dIn_ok rp qx qy e2
      obtain rfl : u = Value.ref a := ry
      exact d_notIn (by omega) I g rx fun s3 I3 => ⟨.bl (!o.isSome), H, I3, rfl, q⟩
def COp.op : COp → CmpOp
  | .eq => .Eq | .ne => .NotEq | .lt => .Lt | .le => .LtE | .gt => .Gt | .ge => .GtE | .is => .Is | .isn => .IsNot | .inn => .In | .nin => .NotIn
theorem op_cmpM (hu : X.A.units + 129 < cLine) (o : COp) : OpR X (compareOp o.op) (r2B X.K (cmpO o)) := by
  cases o with
  | eq => exact op_eqM (by omega)
  | ne => exact op_neM (by omega)
  | is => exact op_isM
  | isn => exact op_isnM
  | inn => exact op_inM hu
  | nin => exact op_ninM hu
  | lt =>
    intro pins s σ H x y v u Q I rx ry ⟨ρ, h, mx, my, k, rp, qx, qy, e, q⟩
    unfold cmpO at e
    simp only at e
    split at e
    · cases e
      exact op_lt pins s σ H x y v u Q I rx ry ⟨_, _, repInt qx, repInt qy, q⟩
    · cases e
  | le =>
    intro pins s σ H x y v u Q I rx ry ⟨ρ, h, mx, my, k, rp, qx, qy, e, q⟩
    unfold cmpO at e
    simp only at e
    split at e
    · cases e
      exact op_le pins s σ H x y v u Q I rx ry ⟨_, _, repInt qx, repInt qy, q⟩
    · cases e
  | gt =>
    intro pins s σ H x y v u Q I rx ry ⟨ρ, h, mx, my, k, rp, qx, qy, e, q⟩
    unfold cmpO at e
    simp only at e
    split at e
    · cases e
      exact op_gt pins s σ H x y v u Q I rx ry ⟨_, _, repInt qx, repInt qy, q⟩
    · cases e
  | ge =>
    intro pins s σ H x y v u Q I rx ry ⟨ρ, h, mx, my, k, rp, qx, qy, e, q⟩
    unfold cmpO at e
    simp only at e
    split at e
    · cases e
      exact op_ge pins s σ H x y v u Q I rx ry ⟨_, _, repInt qx, repInt qy, q⟩
    · cases e
theorem truL_ok {K : PySem.W.Frag} {ρ : List Addr} {h : MH} {H : Hp} {m : MV} {x : V} {k : Bool} (rp : Rep K ρ h H) (q : RepV K ρ H m x) (e : truL m h = some k) : TruV K x H k := by
  cases m with
  | non => cases e; rw [repNon q]; rfl
  | bl b => cases e; rw [repBl q]; rfl
  | int i => cases e; rw [repInt q]; rfl
  | str y =>
    unfold truL at e
    simp only at e
    split at e
    · rename_i hz
      cases e
      rw [repStr q]
      exact ⟨hz, rfl⟩
    · cases e
  | tup xs =>
    cases e
    unfold RepV at q
    obtain ⟨a, vs, rfl, s, z⟩ := q
    exact .inr (.inl ⟨vs, s, by rw [z.isEmpty]⟩)
  | rol xs =>
    cases e
    unfold RepV at q
    obtain ⟨a, vs, rfl, s, z⟩ := q
    exact .inl ⟨vs, s.sq, by rw [z.isEmpty]⟩
  | loc l =>
    unfold truL at e
    simp only at e
    split at e
    · rename_i xs hx
      cases e
      obtain ⟨a, e1, rfl⟩ := repLoc q
      obtain ⟨b, vs, e2, e3, z⟩ := rp.lst hx
      rw [e1] at e2
      cases e2
      exact .inl ⟨vs, .inl (.inl e3), by rw [z.isEmpty]⟩
    · cases e
  | _ => cases e
theorem truV_ok {K : PySem.W.Frag} {ρ : List Addr} {h : MH} {H : Hp} {m : MV} {x : V} {k : Bool} (rp : Rep K ρ h H) (q : RepV K ρ H m x) (e : truO m h = some k) : TruV K x H k := by
  rcases or_cases (show (truL m h).or ((dctO m h).map fun d => !d.1.isEmpty) = some k from e) with e | e
  · exact truL_ok rp q e
  · cases ed : dctO m h with
    | none => rw [ed] at e; cases e
    | some d =>
      rw [ed] at e
      cases e
      obtain ⟨l, a, vs, rfl, hy, e1, rfl, e2, e3, z⟩ := rp.dct q ed
      refine .inr (.inr ⟨_, e2, ?_⟩)
      have := e3.1
      obtain ⟨ks, xs⟩ := d
      cases ks with
      | nil => rfl
      | cons a r =>
        cases vs with
        | nil => cases this
        | cons _ _ => rfl
end
end MP
end
section
set_option Elab.async false
set_option linter.all false
set_option maxRecDepth 100000
set_option maxHeartbeats 4000000
/-! MP, part d: subscripts, slices, built-in functions and methods. -/
namespace MP
open PySem PySem.Spec PyProof.Rows L2

def r2P (K : PySem.W.Frag) (f : MV → MV → MH → Option MV) : R2 := fun x y H Q => ∃ ρ h mx my v, Rep K ρ h H ∧ RepV K ρ H mx x ∧ RepV K ρ H my y ∧ f mx my h = some v ∧ ∀ w, RepV K ρ H v w → Q w H
section
variable {K : PySem.W.Frag} {ρ : List Addr} {h : MH} {H : Hp}
theorem RepVs.atI {ms : List MV} {vs : List V} {i : Int} {m : MV} (q : RepVs K ρ H ms vs) (e : L2.atI ms i = some m) : ∃ w, L2.atI vs i = some w ∧ RepV K ρ H m w := by
  unfold L2.atI at e ⊢
  rw [q.length]
  cases e2 : ixN ms.length i with
  | none => rw [e2] at e; cases e
  | some j =>
    rw [e2] at e
    exact q.get e
theorem Rep.lists (r : Rep K ρ h H) {x : MV} {v : V} {xs : List MV} (q : RepV K ρ H x v) (e : listO x h = some xs) : ∃ a vs, v = .ref a ∧ SqL K H a vs ∧ RepVs K ρ H xs vs := by
  cases x with
  | rol ys =>
    cases e
    unfold RepV at q
    obtain ⟨a, vs, e, s, z⟩ := q
    exact ⟨a, vs, e, s.sq, z⟩
  | loc l =>
    obtain ⟨a, e1, rfl⟩ := repLoc q
    unfold listO at e
    simp only at e
    split at e
    · rename_i ys hy
      cases e
      obtain ⟨b, vs, e2, e3, z⟩ := r.lst hy
      rw [e1] at e2
      cases e2
      exact ⟨a, vs, rfl, .inl (.inl e3), z⟩
    · cases e
  | _ => cases e
theorem RepVs.cut {ms : List MV} {vs : List V} (q : RepVs K ρ H ms vs) (lo hi : Option Int) : RepVs K ρ H (cutM ms lo hi) (cutV vs lo hi) := by
  unfold cutM cutV
  rw [q.length]
  exact (q.drop _).take _
/-- its type, for isinstance -/
def tyS (K : PySem.W.Frag) (h : MH) (H : Hp) (v : V) : MV → Prop
  | .int _ => TyX K H v (.type "int")
  | .bl _ => TyX K H v (.type "bool")
  | .non => TyX K H v (.type "NoneType")
  | .str _ => TyX K H v (.type "str")
  | .tup _ => TyX K H v (.type "tuple")
  | .rol _ => TyX K H v (.type "list")
  | .loc l => ∀ xs, h[l]? = some (.lst xs) → TyX K H v (.type "list")
  | _ => True
theorem Rep.tyx (r : Rep K ρ h H) {x : MV} {v : V} (q : RepV K ρ H x v) : tyS K h H v x := by
  cases x with
  | int i => have := repInt q; subst this; exact .base (.int i)
  | bl i => have := repBl q; subst this; exact .base (.bl i)
  | non => have := repNon q; subst this; exact .base .non
  | str i => have := repStr q; subst this; exact .base (.str i)
  | tup xs =>
    unfold RepV at q
    obtain ⟨a, vs, rfl, s, z⟩ := q
    rcases s with (s | ⟨o, s⟩) | ⟨o, its, n, s, c, _⟩
    · exact .base (.tup s)
    · exact .fTuple s
    · exact .kTuple s c
  | rol xs =>
    unfold RepV at q
    obtain ⟨a, vs, rfl, s, z⟩ := q
    rcases s with ⟨o, s⟩ | ⟨o, its, n, s, c, _⟩
    · exact .base (.frz s)
    · exact .kList s c
  | loc l =>
    intro xs e
    obtain ⟨a, e1, rfl⟩ := repLoc q
    obtain ⟨b, vs, e2, e3, z⟩ := r.lst e
    rw [e1] at e2
    cases e2
    exact .base (.lst e3)
  | _ => trivial
end
section
variable {X : Cx}
theorem ix_L : IxR X (r2P X.K ixL) := by
  intro value slice pins s σ H x y v u Q I rx ry ⟨ρ, h, mx, my, m, rp, qx, qy, e, q⟩ hs
  unfold ixL at e
  split at e
  · rename_i i
    split at e
    · rename_i z
      split at e
      · rename_i hz
        cases e2 : L2.atI z.cps.toList i with
        | none => rw [e2] at e; cases e
        | some c =>
          rw [e2] at e
          cases e
          exact ix_str value slice pins s σ H x y v u Q I rx ry ⟨z, i, c, repStr qx, repInt qy, hz, e2, q _ strRep⟩ hs
      · cases e
    · cases e2 : itemsO mx h with
      | none => rw [e2] at e; cases e
      | some xs =>
        rw [e2] at e
        obtain ⟨a, vs, rfl, s1, z⟩ := rp.items qx e2
        obtain ⟨w, e3, rw⟩ := z.atI e
        rcases s1 with s1 | s1
        · exact ix_list value slice pins s σ H _ y v u Q I rx ry ⟨a, vs, i, w, rfl, repInt qy, s1, e3, q _ rw⟩ hs
        · exact ix_tup value slice pins s σ H _ y v u Q I rx ry ⟨a, vs, i, w, rfl, repInt qy, s1, e3, q _ rw⟩ hs
  · cases e
theorem bind_some' {α β : Type} {o : Option α} {f : α → Option β} {y : β} (e : o.bind f = some y) : ∃ x, o = some x ∧ f x = some y := by
  cases o with
  | none => cases e
  | some x => exact ⟨x, rfl, e⟩
theorem ix_M (hu : X.A.units + 1 < cLine) : IxR X (r2P X.K ixO) := by
  intro value slice pins s σ H x y v u Q I rx ry ⟨ρ, h, mx, my, m, rp, qx, qy, e, q⟩ hs
  rcases or_cases (show (ixL mx my h).or ((dctO mx h).bind fun d => (dGetO d my).bind id) = some m from e) with e | e
  · exact ix_L value slice pins s σ H x y v u Q I rx ry ⟨ρ, h, mx, my, m, rp, qx, qy, e, q⟩ hs
  · obtain ⟨d, ed, e⟩ := bind_some' e
    obtain ⟨o, eg, e⟩ := bind_some' e
    have e : o = some m := e
    subst e
    obtain ⟨a, w, rfl, g, rw⟩ := rp.dget qx qy ed eg
    obtain rfl : v = Value.ref a := rx
    cases w with
    | none => exact rw.elim
    | some w => exact tail_any (dict_typeIs I g) PySem.F.slot_dict_getitem.lookup (d_getItem hu I g ry fun w' s' I' rw' => ⟨w, H, I', rw', q w rw⟩) hs
/-- a slice -/
def rslM (K : PySem.W.Frag) : V → Option Int → Option Int → Hp → VK → Prop := fun x l u H Q => ∃ ρ h mx v h', Rep K ρ h H ∧ RepV K ρ H mx x ∧ slO mx l u h = some (v, h') ∧
  ∀ ρ' H' w, Ext ρ H ρ' H' → Rep K ρ' h' H' → RepV K ρ' H' v w → Q w H'
theorem sl_M : SlR X (rslM X.K) := by
  intro pins s σ H x v vl vu lo hi sl Q I rx hs pl pu ⟨ρ, h, mx, m, h', rp, qx, e, q⟩
  unfold slO at e
  split at e
  · split at e
    · rename_i l xs hx
      cases e
      obtain ⟨a, vs, rfl, s1, z⟩ := rp.lists (xs := xs) qx (by unfold listO; simp only [hx])
      exact sl_list pins s σ H _ v vl vu lo hi sl Q I rx hs pl pu ⟨a, vs, rfl, s1, rp.newL (z.cut lo hi) q⟩
    · cases e
  · rename_i xs
    cases e
    obtain ⟨a, vs, rfl, s1, z⟩ := rp.lists (xs := xs) qx rfl
    exact sl_list pins s σ H _ v vl vu lo hi sl Q I rx hs pl pu ⟨a, vs, rfl, s1, rp.newL (z.cut lo hi) q⟩
  · rename_i xs
    split at e
    · cases e
    · rename_i hn
      cases e
      unfold RepV at qx
      obtain ⟨a, vs, rfl, s1, z⟩ := qx
      exact sl_tup pins s σ H _ v vl vu lo hi sl Q I rx hs pl pu ⟨a, vs, rfl, s1, by rw [z.length]; exact hn, rp.newT (z.cut lo hi) q⟩
  · cases e

/-! ### built-in functions -/
theorem RepVs.of1 {K : PySem.W.Frag} {ρ : List Addr} {H : Hp} {x : MV} {vs : List V} (q : RepVs K ρ H [x] vs) : ∃ v, vs = [v] ∧ RepV K ρ H x v := by
  unfold RepVs at q
  obtain ⟨w, ws, rfl, a, b⟩ := q
  unfold RepVs at b
  subst b
  exact ⟨w, rfl, a⟩
theorem RepVs.of2 {K : PySem.W.Frag} {ρ : List Addr} {H : Hp} {x y : MV} {vs : List V} (q : RepVs K ρ H [x, y] vs) : ∃ v w, vs = [v, w] ∧ RepV K ρ H x v ∧ RepV K ρ H y w := by
  unfold RepVs at q
  obtain ⟨w, ws, rfl, a, b⟩ := q
  obtain ⟨u, rfl, c⟩ := b.of1
  exact ⟨w, u, rfl, a, c⟩
theorem RepVs.of0 {K : PySem.W.Frag} {ρ : List Addr} {H : Hp} {vs : List V} (q : RepVs K ρ H [] vs) : vs = [] := by unfold RepVs at q; exact q
theorem cb_lenL : CallR X (.builtin "len") (rsM X.K (biL .len)) := by
  intro pins s σ H vs us Q I r ⟨ρ, h, xs, m, h', rp, qs, e, q⟩
  unfold biL at e
  split at e <;> try (rename_i hb; cases hb)
  · split at e
    · rename_i hz
      cases e
      obtain ⟨v, rfl, qx⟩ := qs.of1
      exact call_len_str pins s σ H _ us Q I r ⟨_, by rw [repStr qx], hz, q ρ H _ .refl rp intRep⟩
    · cases e
  · rename_i x hx
    obtain ⟨v, rfl, qx⟩ := qs.of1
    cases e2 : itemsO x h with
    | none => rw [e2] at e; cases e
    | some xs =>
      rw [e2] at e
      cases e
      obtain ⟨a, ws, rfl, s1, z⟩ := rp.items qx e2
      exact call_len_seq pins s σ H _ us Q I r ⟨a, ws, rfl, s1, by rw [z.length]; exact q ρ H _ .refl rp intRep⟩
  · cases e
theorem cb_min2 (hc : X.calm = true) : CallR X (.builtin "min") (rsM X.K (biL .min2)) := by
  intro pins s σ H vs us Q I r ⟨ρ, h, xs, m, h', rp, qs, e, q⟩
  unfold biL at e
  split at e <;> try (rename_i hb; cases hb)
  · cases e
    obtain ⟨v, w, rfl, qx, qy⟩ := qs.of2
    exact call_min2 hc pins s σ H _ us Q I r ⟨_, _, by rw [repInt qx, repInt qy], q ρ H _ .refl rp intRep⟩
  · cases e
theorem cb_max2 (hc : X.calm = true) : CallR X (.builtin "max") (rsM X.K (biL .max2)) := by
  intro pins s σ H vs us Q I r ⟨ρ, h, xs, m, h', rp, qs, e, q⟩
  unfold biL at e
  split at e <;> try (rename_i hb; cases hb)
  · cases e
    obtain ⟨v, w, rfl, qx, qy⟩ := qs.of2
    exact call_max2 hc pins s σ H _ us Q I r ⟨_, _, by rw [repInt qx, repInt qy], q ρ H _ .refl rp intRep⟩
  · cases e
theorem cb_abs : CallR X (.builtin "abs") (rsM X.K (biL .abs)) := by
  intro pins s σ H vs us Q I r ⟨ρ, h, xs, m, h', rp, qs, e, q⟩
  unfold biL at e
  split at e <;> try (rename_i hb; cases hb)
  · cases e
    obtain ⟨v, rfl, qx⟩ := qs.of1
    exact call_abs pins s σ H _ us Q I r ⟨_, by rw [repInt qx], q ρ H _ .refl rp intRep⟩
  · cases e
theorem ct_int : CallR X (.type "int") (rsM X.K (biL .int)) := by
  intro pins s σ H vs us Q I r ⟨ρ, h, xs, m, h', rp, qs, e, q⟩
  unfold biL at e
  split at e <;> try (rename_i hb; cases hb)
  · cases e
    obtain ⟨v, rfl, qx⟩ := qs.of1
    exact call_int1 pins s σ H _ us Q I r (.inl ⟨_, by rw [repInt qx], q ρ H _ .refl rp intRep⟩)
  · cases e
    obtain ⟨v, rfl, qx⟩ := qs.of1
    exact call_int1 pins s σ H _ us Q I r (.inr ⟨_, by rw [repBl qx], q ρ H _ .refl rp intRep⟩)
  · cases e
theorem ct_listL : CallR X (.type "list") (rsM X.K (biL .list)) := by
  intro pins s σ H vs us Q I r ⟨ρ, h, xs, m, h', rp, qs, e, q⟩
  unfold biL at e
  split at e <;> try (rename_i hb; cases hb)
  · rename_i x
    obtain ⟨v, rfl, qx⟩ := qs.of1
    split at e
    · rename_i xs e2
      cases e
      obtain ⟨a, ws, rfl, s1, z⟩ := rp.items qx e2
      exact call_list_of pins s σ H _ us Q I r ⟨a, ws, rfl, s1, rp.newL z q⟩
    · cases e
  · cases e
theorem ct_tuple : CallR X (.type "tuple") (rsM X.K (biL .tuple)) := by
  intro pins s σ H vs us Q I r ⟨ρ, h, xs, m, h', rp, qs, e, q⟩
  unfold biL at e
  split at e <;> try (rename_i hb; cases hb)
  · rename_i xs
    cases e
    obtain ⟨v, rfl, qx⟩ := qs.of1
    have qx' := qx
    unfold RepV at qx
    obtain ⟨a, ws, rfl, s1, z⟩ := qx
    exact call_tuple_of pins s σ H _ us Q I r ⟨a, ws, rfl, .inr ⟨s1, q ρ H _ .refl rp qx'⟩⟩
  · rename_i x hx
    obtain ⟨v, rfl, qx⟩ := qs.of1
    cases e2 : itemsO x h with
    | none => rw [e2] at e; cases e
    | some xs =>
      rw [e2] at e
      cases e
      obtain ⟨a, ws, rfl, s1, z⟩ := rp.items qx e2
      rcases s1 with s1 | s1
      · exact call_tuple_of pins s σ H _ us Q I r ⟨a, ws, rfl, .inl ⟨s1, rp.newT z q⟩⟩
      · exact call_tuple_of pins s σ H _ us Q I r ⟨a, ws, rfl, .inr ⟨s1, q ρ H _ .refl rp (by unfold RepV; exact ⟨a, ws, rfl, s1, z⟩)⟩⟩
  · cases e
theorem cb_sum (hc : X.calm = true) : CallR X (.builtin "sum") (rsM X.K (biL .sum)) := by
  intro pins s σ H vs us Q I r ⟨ρ, h, xs, m, h', rp, qs, e, q⟩
  unfold biL at e
  split at e <;> try (rename_i hb; cases hb)
  · rename_i x
    obtain ⟨v, rfl, qx⟩ := qs.of1
    cases e2 : listO x h with
    | none => rw [e2] at e; cases e
    | some xs =>
      rw [e2] at e
      cases e3 : intsO xs with
      | none =>
        rw [Option.bind_some, e3] at e
        cases e
      | some ns =>
        rw [Option.bind_some, e3] at e
        cases e
        obtain ⟨a, ws, rfl, s1, z⟩ := rp.lists qx e2
        rw [z.ints e3] at s1
        exact cr_sum hc pins s σ H _ us Q I r ⟨a, ns, rfl, s1, q ρ H _ .refl rp intRep⟩
  · cases e
theorem sorted_one : ∀ {xs ys : List Int}, xs.Perm ys → xs.Pairwise (· ≤ ·) → ys.Pairwise (· ≤ ·) → xs = ys
  | [], ys, p, _, _ => (List.Perm.nil_eq p)
  | x :: xs, [], p, _, _ => absurd p.length_eq (by simp)
  | x :: xs, y :: ys, p, a, b => by
    have h1 : x ≤ y := by
      have m : y ∈ x :: xs := p.symm.subset List.mem_cons_self
      rcases List.mem_cons.mp m with rfl | m
      · exact Int.le_refl _
      · exact (List.pairwise_cons.mp a).1 _ m
    have h2 : y ≤ x := by
      have m : x ∈ y :: ys := p.subset List.mem_cons_self
      rcases List.mem_cons.mp m with rfl | m
      · exact Int.le_refl _
      · exact (List.pairwise_cons.mp b).1 _ m
    have e : x = y := Int.le_antisymm h1 h2
    subst e
    rw [sorted_one ((List.perm_cons x).mp p) (List.pairwise_cons.mp a).2 (List.pairwise_cons.mp b).2]
abbrev sortI (ns : List Int) : List Int := ns.mergeSort (fun a b => decide (a ≤ b))
theorem sortI_pw (ns : List Int) : (sortI ns).Pairwise (· ≤ ·) := by
  have := List.pairwise_mergeSort (le := fun a b : Int => decide (a ≤ b)) (by intro a b c; simp; omega) (by intro a b; simp; omega) ns
  exact this.imp (by intro a b; simp)
theorem cb_sortedL : CallR X (.builtin "sorted") (rsM X.K (biL .sorted)) := by
  intro pins s σ H vs us Q I r ⟨ρ, h, xs, m, h', rp, qs, e, q⟩
  unfold biL at e
  split at e <;> try (rename_i hb; cases hb)
  · rename_i x
    obtain ⟨v, rfl, qx⟩ := qs.of1
    split at e
    · rename_i ns en
      cases e
      cases e2 : listO x h with
      | none => rw [e2] at en; cases en
      | some xs =>
        rw [e2, Option.bind_some] at en
        obtain ⟨a, ws, rfl, s1, z⟩ := rp.lists qx e2
        rw [z.ints en] at s1
        refine cr_sortedI pins s σ H _ us Q I r ⟨a, ns, rfl, s1, fun ns' p pm pw hp => ?_⟩
        have e3 : ns' = sortI ns := sorted_one (pm.trans (List.mergeSort_perm ns _).symm) pw (sortI_pw ns)
        subst e3
        exact rp.newL repVs_ints q p hp
    · cases e
  · cases e
theorem zip_keys : ∀ {ks : List Key} {vs : List V}, ks.length = vs.length → (ks.zip vs).map (·.1) = ks
  | [], _, _ => rfl
  | a :: ks, [], h => by cases h
  | a :: ks, v :: vs, h => by
    show a :: (ks.zip vs).map (·.1) = a :: ks
    rw [zip_keys (by simpa using h)]
theorem repKeys {K : PySem.W.Frag} {ρ : List Addr} {H : Hp} : ∀ {ks : List Key}, RepVs K ρ H (ks.map keyM) (ks.map kV)
  | [] => .nil
  | .inl i :: ks => .cons intRep repKeys
  | .inr i :: ks => .cons strRep repKeys
theorem keyIs_ok : ∀ {ks : List Key} {ns : List Int}, keyIs ks = some ns → ks = ns.map Sum.inl
  | [], _, h => by cases h; rfl
  | .inl i :: ks, _, h => by
    unfold keyIs at h
    cases e : keyIs ks with
    | none => rw [e] at h; cases h
    | some ms =>
      rw [e] at h
      cases h
      rw [keyIs_ok e]
      rfl
  | .inr _ :: _, _, h => by cases h
theorem one_of {K : PySem.W.Frag} {ρ : List Addr} {H : Hp} {b : Bi} {xs : List MV} {vs : List V} {h : MH} {m : MV × MH} (e : biD b xs h = some m) : ∃ x, xs = [x] := by
  unfold biD at e
  split at e
  · exact ⟨_, rfl⟩
  · exact ⟨_, rfl⟩
  · exact ⟨_, rfl⟩
  · cases e
theorem cb_len : CallR X (.builtin "len") (rsM X.K (biO .len)) := by
  intro pins s σ H vs us Q I r ⟨ρ, h, xs, m, h', rp, qs, e, q⟩
  rcases or_cases (show (biL .len xs h).or (biD .len xs h) = some (m, h') from e) with e | e
  · exact cb_lenL pins s σ H vs us Q I r ⟨ρ, h, xs, m, h', rp, qs, e, q⟩
  · obtain ⟨x, rfl⟩ := one_of (K := X.K) (ρ := ρ) (H := H) (vs := vs) e
    obtain ⟨v, rfl, qx⟩ := qs.of1
    unfold biD at e
    simp only at e
    cases ed : dctO x h with
    | none => rw [ed] at e; cases e
    | some d =>
      rw [ed] at e
      cases e
      obtain ⟨l, a, vs, rfl, hy, e1, rfl, e2, e3, z⟩ := rp.dct qx ed
      refine call_lenD pins s σ H _ us Q I r ⟨a, _, rfl, e2, ?_⟩
      rw [List.length_zip, ← e3.1, Nat.min_self]
      exact q ρ H _ .refl rp intRep
theorem ct_list (hc : X.calm = true) : CallR X (.type "list") (rsM X.K (biO .list)) := by
  intro pins s σ H vs us Q I r ⟨ρ, h, xs, m, h', rp, qs, e, q⟩
  rcases or_cases (show (biL .list xs h).or (biD .list xs h) = some (m, h') from e) with e | e
  · exact ct_listL pins s σ H vs us Q I r ⟨ρ, h, xs, m, h', rp, qs, e, q⟩
  · obtain ⟨x, rfl⟩ := one_of (K := X.K) (ρ := ρ) (H := H) (vs := vs) e
    obtain ⟨v, rfl, qx⟩ := qs.of1
    unfold biD at e
    simp only at e
    cases ed : dctO x h with
    | none => rw [ed] at e; cases e
    | some d =>
      rw [ed] at e
      cases e
      obtain ⟨l, a, vs, rfl, hy, e1, rfl, e2, e3, z⟩ := rp.dct qx ed
      refine call_listD hc pins s σ H _ us Q I r ⟨a, _, rfl, .inl e2, fun p hp => ?_⟩
      have ez : ((d.1.zip vs).map fun kv => kV kv.1) = d.1.map kV := by
        have := congrArg (List.map kV) (zip_keys (vs := vs) e3.1)
        rw [List.map_map] at this
        exact this
      rw [ez]
      exact rp.newL repKeys q p hp
/-- sorted(d) of a dict, all keys ints, any number of them -/
theorem call_sortedDA (hcalm : X.calm = true) : CallR X (.builtin "sorted") (fun xs H Q => ∃ (a : Addr) (kvs : List (Key × V)) (ks : List Int), xs = [.ref a] ∧ Rd H a (.dK kvs) ∧ kvs.map (·.1) = ks.map Sum.inl ∧
    ∀ (ys : List Int) (p : Addr), ys.Perm ks → ys.Pairwise (· ≤ ·) → H p = none → Q (.ref p) (upd H p (.lst (ys.map V.int)))) := by
  intro pins s σ H xs us Q I r q
  obtain ⟨a, kvs, ks, ex, hd, hks, q⟩ := q
  subst ex
  obtain ⟨u, eu, rx⟩ := vals1 r
  subst eu
  cases rx
  obtain ⟨z, lo, vs, rel, dd⟩ := dk_rd I.hok hd
  obtain ⟨ep, hat⟩ := dd.dictAt
  have hkeys : vs.map (·.1) = ks.map Sum.inl := rel.keys.symm.trans hks
  have hl : vs.length = ks.length := by
    have e := congrArg List.length hkeys
    rw [List.length_map, List.length_map] at e
    exact e
  have h16 : vs.length ≤ sizeLine := by rw [← rel.length]; exact z
  refine Calls.call_function_entry PyProof.Rows.kind_sorted PyProof.Rows.plain_sorted PyProof.Rows.entry_sorted (PyProof.Rows.args_sorted1 _) ?_
  unfold Builtin.«sorted»
  refine wpAny_bind (m := checkCount "sorted" 1 1 _) (wpAny_pure ?_)
  refine wpAny_bind (PySem.W.kdu_collect (A := X.A.in1) (PySem.W.kdl_dict (knd := mixKind X.prog X.w) (kvs := vs) (ep := ep) lo) (I.ok.hd hcalm) hat h16 fun h' tk acc hk hacc => ?_)
  have hal : acc.toList.length = ks.length := by rw [Array.length_toList, hacc.1, hl]
  have hS : IntsAre acc.toList ks := ints_each hal fun j v e => by
    obtain ⟨k, x, e1, e2⟩ := hacc.2 j v (by rw [← Array.getElem?_toList]; exact e)
    have e3 : (vs.map (·.1))[j]? = some k := by rw [List.getElem?_map, e1]; rfl
    rw [hkeys, List.getElem?_map] at e3
    cases e4 : ks[j]? with
    | none => rw [e4] at e3; cases e3
    | some y =>
      rw [e4] at e3
      have e5 : Sum.inl y = k := Option.some.inj e3
      subst e5
      rcases keyIs_shape (show L2.keyIs (Sum.inl y) v = true from e2) with ⟨i, t, ek, ev⟩ | ⟨z, t, ek, ev⟩
      · cases ek
        exact ⟨y, t, rfl, ev⟩
      · cases ek
  have hsz : acc.toList.length ≤ sizeLine := by rw [hal, ← hl]; exact h16
  have I1 : Inv X pins σ H { s with heap := h', toks := tk } := I.kept hk
  refine wpAny_bind (wpAny_newList ?_ (by simpa using hsz))
  have hoL : (h'.push (seqObj "list" acc.toList.toArray 0)).get? h'.objs.size = some (seqObj "list" acc.toList.toArray 0) := Heap.get?_push_size _ rfl
  show wpAny _ _ _ _ _ { s with heap := h'.push (seqObj "list" acc.toList.toArray 0), toks := tk }
  refine wpAny_bind (wpAny_holding (wpAny_call_entry PyProof.Rows.slot_list_sort ⟨_, hoL, rfl⟩ PyProof.Rows.entry_list_sort
    (PyProof.Rows.list_sort_treeAny (s := { s with heap := h'.push (seqObj "list" acc.toList.toArray 0), toks := tk }) hoL hS hsz fun out ys g1 g2 g3 => ⟨_, rfl, ?_⟩) (PyProof.Rows.args_list_sort _)))
  obtain ⟨e', he'⟩ := PyProof.Rows.sortedHeap_at (vs := acc.toList) (out := out) hoL
  have hlen : (ys.map V.int).length ≤ sizeLine := by
    rw [List.length_map, g2.length_eq, ← hl]
    exact h16
  refine wpAny_pure ⟨_, rfl, .ref h'.objs.size, upd H h'.objs.size (.lst (ys.map V.int)), I1.laid (t' := tk) (fun b u e => ?_) (Nat.le_refl _)
    (show ObjOk X.prog X.w _ _ _ (.lst (ys.map V.int)) from ⟨hlen, out.toList, e', vals_of_ints g1, by rw [Array.toArray_toList]; exact he'⟩), rfl, q ys _ g2 g3 (I1.hok.fresh (Nat.le_refl _))⟩
  have hb : b < h'.objs.size := Heap.lt_size e
  rw [PyProof.Rows.sortedHeap_old (Nat.ne_of_lt hb) (by rw [size_push']; exact Nat.lt_succ_of_lt hb)]
  exact Heap.get?_push_of_some _ e
theorem cb_sorted (hc : X.calm = true) : CallR X (.builtin "sorted") (rsM X.K (biO .sorted)) := by
  intro pins s σ H vs us Q I r ⟨ρ, h, xs, m, h', rp, qs, e, q⟩
  rcases or_cases (show (biL .sorted xs h).or (biD .sorted xs h) = some (m, h') from e) with e | e
  · exact cb_sortedL pins s σ H vs us Q I r ⟨ρ, h, xs, m, h', rp, qs, e, q⟩
  · obtain ⟨x, rfl⟩ := one_of (K := X.K) (ρ := ρ) (H := H) (vs := vs) e
    obtain ⟨v, rfl, qx⟩ := qs.of1
    unfold biD at e
    simp only at e
    obtain ⟨d, ed, e⟩ := bind_some' e
    obtain ⟨ns, en, e⟩ := Option.map_eq_some_iff.mp e
    cases e
    obtain ⟨l, a, vs, rfl, hy, e1, rfl, e2, e3, z⟩ := rp.dct qx ed
    refine call_sortedDA hc pins s σ H _ us Q I r ⟨a, _, ns, rfl, .inl e2, by rw [zip_keys e3.1]; exact keyIs_ok en, fun ys p pm pw hp => ?_⟩
    have e4 : ys = sortI ns := sorted_one (pm.trans (List.mergeSort_perm ns _).symm) pw (sortI_pw ns)
    subst e4
    exact rp.newL repVs_ints q p hp
/-- isinstance(x, int), isinstance(x, bool): the class is the second argument -/
theorem cb_isTy {b : Bi} {n : String} (hb : b = .isInt ∧ n = "int" ∨ b = .isBool ∧ n = "bool") : CallR X (.builtin "isinstance") (fun vs H Q => ∃ x, vs = [x, .ty n] ∧ rsM X.K (biL b) [x] H Q) := by
  intro pins s σ H vs us Q I r ⟨x, ev, ρ, h, xs, m, h', rp, qs, e, q⟩
  subst ev
  obtain ⟨y, rfl⟩ : ∃ y, xs = [y] := by
    have := qs.length
    cases xs with
    | nil => simp at this
    | cons y r =>
      cases r with
      | nil => exact ⟨y, rfl⟩
      | cons _ _ => simp at this
  obtain ⟨v, ev, qx⟩ := qs.of1
  cases ev
  have ty := rp.tyx qx
  have go : ∀ (t : String) (k : Bool), TyX X.K H x (.type t) → PySem.W.kitOne X.K (.type t) (.type n) = some k → m = .bl k → h = h' → wpAny (model X.prog X.w) X.A (call (.builtin "isinstance") us) (EP X pins σ Q) X.xe s := by
    intro t k hT hk em eh
    subst em; subst eh
    exact call_isi pins s σ H _ us Q I r ⟨x, .ty n, _, _, k, rfl, .ty n, hT, hk, q ρ H _ .refl rp blRep⟩
  rcases hb with ⟨rfl, rfl⟩ | ⟨rfl, rfl⟩
  · unfold biL at e
    simp only at e
    cases y with
    | int _ => cases e; exact go _ _ ty (kit_ty (by decide +kernel)) rfl rfl
    | bl _ => cases e; exact go _ _ ty (kit_ty (by decide +kernel)) rfl rfl
    | non => cases e; exact go _ _ ty (kit_ty (by decide +kernel)) rfl rfl
    | str _ => cases e; exact go _ _ ty (kit_ty (by decide +kernel)) rfl rfl
    | tup _ => cases e; exact go _ _ ty (kit_ty (by decide +kernel)) rfl rfl
    | rol _ => cases e; exact go _ _ ty (kit_ty (by decide +kernel)) rfl rfl
    | loc l =>
      simp only at e
      split at e
      · rename_i xs hx
        cases e
        exact go _ _ (ty xs hx) (kit_ty (by decide +kernel)) rfl rfl
      · cases e
    | ty _ => cases e
    | cls _ => cases e
  · unfold biL at e
    simp only at e
    cases y with
    | int _ => cases e; exact go _ _ ty (kit_ty (by decide +kernel)) rfl rfl
    | bl _ => cases e; exact go _ _ ty (kit_ty (by decide +kernel)) rfl rfl
    | non => cases e; exact go _ _ ty (kit_ty (by decide +kernel)) rfl rfl
    | str _ => cases e; exact go _ _ ty (kit_ty (by decide +kernel)) rfl rfl
    | tup _ => cases e; exact go _ _ ty (kit_ty (by decide +kernel)) rfl rfl
    | rol _ => cases e; exact go _ _ ty (kit_ty (by decide +kernel)) rfl rfl
    | loc l =>
      simp only at e
      split at e
      · rename_i xs hx
        cases e
        exact go _ _ (ty xs hx) (kit_ty (by decide +kernel)) rfl rfl
      · cases e
    | ty _ => cases e
    | cls _ => cases e
/-- isinstance of a type by its name -/
theorem cb_isTn {b : Bi} {n : String} (hb : ∀ x h, biL b [x] h = (tyNmM x h).map fun t => (.bl (t == n), h)) (hk : ∀ t ∈ ["int", "bool", "NoneType", "str", "tuple", "list"], PySem.W.kitOne X.K (.type t) (.type n) = some (t == n)) : CallR X (.builtin "isinstance") (fun vs H Q => ∃ x, vs = [x, .ty n] ∧ rsM X.K (biL b) [x] H Q) := by
  intro pins s σ H vs us Q I r ⟨x, ev, ρ, h, xs, m, h', rp, qs, e, q⟩
  subst ev
  obtain ⟨y, rfl⟩ : ∃ y, xs = [y] := by
    have := qs.length
    cases xs with
    | nil => simp at this
    | cons y r =>
      cases r with
      | nil => exact ⟨y, rfl⟩
      | cons _ _ => simp at this
  obtain ⟨v, ev, qx⟩ := qs.of1
  cases ev
  have ty := rp.tyx qx
  have go : ∀ (t : String), t ∈ ["int", "bool", "NoneType", "str", "tuple", "list"] → TyX X.K H x (.type t) → m = .bl (t == n) → h = h' → wpAny (model X.prog X.w) X.A (call (.builtin "isinstance") us) (EP X pins σ Q) X.xe s := by
    intro t ht hT em eh
    subst em; subst eh
    exact call_isi pins s σ H _ us Q I r ⟨x, .ty n, _, _, _, rfl, .ty n, hT, hk t ht, q ρ H _ .refl rp blRep⟩
  rw [hb] at e
  unfold tyNmM at e
  cases y with
  | int _ => cases e; exact go _ (by decide) ty rfl rfl
  | bl _ => cases e; exact go _ (by decide) ty rfl rfl
  | non => cases e; exact go _ (by decide) ty rfl rfl
  | str _ => cases e; exact go _ (by decide) ty rfl rfl
  | tup _ => cases e; exact go _ (by decide) ty rfl rfl
  | rol _ => cases e; exact go _ (by decide) ty rfl rfl
  | loc l =>
    simp only at e
    split at e
    · rename_i xs hx
      cases e
      exact go _ (by decide) (ty xs hx) rfl rfl
    · cases e
  | ty _ => cases e
  | cls _ => cases e
theorem maxI_ok : ∀ (ns : List Int) (a : Int), maxI a ns ∈ a :: ns ∧ ∀ y ∈ a :: ns, y ≤ maxI a ns
  | [], a => ⟨List.mem_cons_self, fun y hy => by simp at hy; subst hy; exact Int.le_refl _⟩
  | b :: r, a => by
    obtain ⟨c, hc⟩ : ∃ c, (if b > a then b else a) = c := ⟨_, rfl⟩
    have q0 : c = a ∨ c = b := by rw [← hc]; split <;> simp
    have q1 : a ≤ c := by rw [← hc]; split <;> omega
    have q2 : b ≤ c := by rw [← hc]; split <;> omega
    obtain ⟨h1, h2⟩ := maxI_ok r c
    unfold maxI
    rw [hc]
    refine ⟨?_, fun y hy => ?_⟩
    · rcases List.mem_cons.mp h1 with h1 | h1
      · rw [h1]
        rcases q0 with rfl | rfl <;> simp
      · exact List.mem_cons_of_mem _ (List.mem_cons_of_mem _ h1)
    · rcases List.mem_cons.mp hy with rfl | hy
      · exact Int.le_trans q1 (h2 _ List.mem_cons_self)
      · rcases List.mem_cons.mp hy with rfl | hy
        · exact Int.le_trans q2 (h2 _ List.mem_cons_self)
        · exact h2 _ (List.mem_cons_of_mem _ hy)
theorem minI_ok : ∀ (ns : List Int) (a : Int), minI a ns ∈ a :: ns ∧ ∀ y ∈ a :: ns, minI a ns ≤ y
  | [], a => ⟨List.mem_cons_self, fun y hy => by simp at hy; subst hy; exact Int.le_refl _⟩
  | b :: r, a => by
    obtain ⟨c, hc⟩ : ∃ c, (if b < a then b else a) = c := ⟨_, rfl⟩
    have q0 : c = a ∨ c = b := by rw [← hc]; split <;> simp
    have q1 : c ≤ a := by rw [← hc]; split <;> omega
    have q2 : c ≤ b := by rw [← hc]; split <;> omega
    obtain ⟨h1, h2⟩ := minI_ok r c
    unfold minI
    rw [hc]
    refine ⟨?_, fun y hy => ?_⟩
    · rcases List.mem_cons.mp h1 with h1 | h1
      · rw [h1]
        rcases q0 with rfl | rfl <;> simp
      · exact List.mem_cons_of_mem _ (List.mem_cons_of_mem _ h1)
    · rcases List.mem_cons.mp hy with rfl | hy
      · exact Int.le_trans (h2 _ List.mem_cons_self) q1
      · rcases List.mem_cons.mp hy with rfl | hy
        · exact Int.le_trans (h2 _ List.mem_cons_self) q2
        · exact h2 _ (List.mem_cons_of_mem _ hy)
theorem repVs_bls {K : PySem.W.Frag} {ρ : List Addr} {H : Hp} : ∀ {xs : List MV} {bs : List Bool} {ws : List V}, RepVs K ρ H xs ws → blsO xs = some bs → ws = bs.map V.bl
  | [], _, _, q, e => by
    unfold blsO at e
    cases e
    exact q.of0
  | x :: xs, _, _, q, e => by
    unfold RepVs at q
    obtain ⟨w, ws, rfl, a, b⟩ := q
    cases x with
    | bl i =>
      unfold blsO at e
      cases e2 : blsO xs with
      | none => rw [e2] at e; cases e
      | some ms =>
        rw [e2] at e
        cases e
        rw [repBl a, repVs_bls b e2]
        rfl
    | _ => simp [blsO] at e
theorem cb_allL (hc : X.calm = true) : CallR X (.builtin "all") (rsM X.K (biL .allL)) := by
  intro pins s σ H vs us Q I r ⟨ρ, h, xs, m, h', rp, qs, e, q⟩
  unfold biL at e
  split at e <;> try (rename_i hb; cases hb)
  · rename_i x
    obtain ⟨v, rfl, qx⟩ := qs.of1
    cases e2 : listO x h with
    | none => rw [e2] at e; cases e
    | some xs =>
      rw [e2] at e
      cases e3 : blsO xs with
      | none =>
        rw [Option.bind_some, e3] at e
        cases e
      | some ns =>
        rw [Option.bind_some, e3] at e
        cases e
        obtain ⟨a, ws, rfl, s1, z⟩ := rp.lists qx e2
        rw [repVs_bls z e3] at s1
        exact cr_all hc pins s σ H _ us Q I r ⟨a, ns, rfl, s1, q ρ H _ .refl rp blRep⟩
  · cases e
theorem cb_anyL (hc : X.calm = true) : CallR X (.builtin "any") (rsM X.K (biL .anyL)) := by
  intro pins s σ H vs us Q I r ⟨ρ, h, xs, m, h', rp, qs, e, q⟩
  unfold biL at e
  split at e <;> try (rename_i hb; cases hb)
  · rename_i x
    obtain ⟨v, rfl, qx⟩ := qs.of1
    cases e2 : listO x h with
    | none => rw [e2] at e; cases e
    | some xs =>
      rw [e2] at e
      cases e3 : blsO xs with
      | none =>
        rw [Option.bind_some, e3] at e
        cases e
      | some ns =>
        rw [Option.bind_some, e3] at e
        cases e
        obtain ⟨a, ws, rfl, s1, z⟩ := rp.lists qx e2
        rw [repVs_bls z e3] at s1
        exact cr_any hc pins s σ H _ us Q I r ⟨a, ns, rfl, s1, q ρ H _ .refl rp blRep⟩
  · cases e
theorem cb_maxL (hc : X.calm = true) : CallR X (.builtin "max") (rsM X.K (biL .maxL)) := by
  intro pins s σ H vs us Q I r ⟨ρ, h, xs, m, h', rp, qs, e, q⟩
  unfold biL at e
  split at e <;> try (rename_i hb; cases hb)
  · rename_i x
    obtain ⟨v, rfl, qx⟩ := qs.of1
    split at e
    · rename_i n ns en
      cases e
      cases e2 : listO x h with
      | none => rw [e2] at en; cases en
      | some xs =>
        rw [e2, Option.bind_some] at en
        obtain ⟨a, ws, rfl, s1, z⟩ := rp.lists qx e2
        rw [z.ints en] at s1
        refine cr_max hc pins s σ H _ us Q I r ⟨a, n :: ns, rfl, s1, by simp, fun m hm hy => ?_⟩
        obtain ⟨h1, h2⟩ := maxI_ok ns n
        have : m = maxI n ns := Int.le_antisymm (h2 _ hm) (hy _ h1)
        subst this
        exact q ρ H _ .refl rp intRep
    · cases e
  · cases e
theorem cb_minL (hc : X.calm = true) : CallR X (.builtin "min") (rsM X.K (biL .minL)) := by
  intro pins s σ H vs us Q I r ⟨ρ, h, xs, m, h', rp, qs, e, q⟩
  unfold biL at e
  split at e <;> try (rename_i hb; cases hb)
  · rename_i x
    obtain ⟨v, rfl, qx⟩ := qs.of1
    split at e
    · rename_i n ns en
      cases e
      cases e2 : listO x h with
      | none => rw [e2] at en; cases en
      | some xs =>
        rw [e2, Option.bind_some] at en
        obtain ⟨a, ws, rfl, s1, z⟩ := rp.lists qx e2
        rw [z.ints en] at s1
        refine cr_min hc pins s σ H _ us Q I r ⟨a, n :: ns, rfl, s1, by simp, fun m hm hy => ?_⟩
        obtain ⟨h1, h2⟩ := minI_ok ns n
        have : m = minI n ns := Int.le_antisymm (hy _ h1) (h2 _ hm)
        subst this
        exact q ρ H _ .refl rp intRep
    · cases e
  · cases e

/-! ### methods of lists -/
theorem mt_appendM : MtR X "list.append" (rmM X.K (mtO .append)) := by
  intro pins s σ H x vs v us Q I rx rs ⟨ρ, h, mx, xs, m, h', rp, qx, qs, e, q⟩
  unfold mtO at e
  split at e
  · rename_i l
    split at e
    · rename_i ys hy
      split at e <;> try (rename_i hb; cases hb)
      · split at e
        · rename_i hz
          cases e
          obtain ⟨a, e1, rfl⟩ := repLoc qx
          obtain ⟨b, ws, e2, e3, z⟩ := rp.lst hy
          rw [e1] at e2
          cases e2
          obtain ⟨y, rfl, qy⟩ := qs.of1
          refine mt_append pins s σ H _ _ v us Q I rx rs ⟨a, ws, y, rfl, rfl, e3, by rw [z.length]; exact hz, ?_⟩
          exact q ρ _ _ (ext_set (List.mem_of_getElem? e1)) (rp.setL e1 (z.append (.one qy))) nonRep
        · cases e
      · cases e
    · cases e
  · cases e
theorem idx_ok {K : PySem.W.Frag} {ρ : List Addr} {H : Hp} {mx : MV} {x : V} (qx : RepV K ρ H mx x) (fx : flatM mx = true) : ∀ {ms : List MV} {vs : List V} {k : Nat}, RepVs K ρ H ms vs → ms.all flatM = true → idxO mx ms = some k →
    ∃ z, vs[k]? = some z ∧ eqV z x = true ∧ ∀ (m : Nat) (z' : V), m < k → vs[m]? = some z' → eqV z' x = false
  | [], _, _, _, _, e => by cases e
  | m :: ms, _, k, q, f, e => by
    unfold RepVs at q
    obtain ⟨w, ws, rfl, a, b⟩ := q
    rw [List.all_cons, Bool.and_eq_true] at f
    have ew := eqV_ok a qx f.1 fx
    unfold idxO at e
    split at e
    · rename_i hz
      cases e
      exact ⟨w, rfl, by rw [ew]; exact hz, fun m z' hm _ => absurd hm (Nat.not_lt_zero _)⟩
    · rename_i hz
      cases e2 : idxO mx ms with
      | none => rw [e2] at e; cases e
      | some j =>
        rw [e2] at e
        cases e
        obtain ⟨z, h1, h2, h3⟩ := idx_ok qx fx b f.2 e2
        refine ⟨z, by simpa using h1, h2, fun m z' hm hz' => ?_⟩
        cases m with
        | zero =>
          cases hz'
          rw [ew]
          simpa using hz
        | succ m => exact h3 m z' (Nat.lt_of_succ_lt_succ hm) (by simpa using hz')
theorem mt_indexM : MtR X "list.index" (rmM X.K (mtO .index)) := by
  intro pins s σ H x vs v us Q I rx rs ⟨ρ, h, mx, xs, m, h', rp, qx, qs, e, q⟩
  unfold mtO at e
  split at e
  · rename_i l
    split at e
    · rename_i ys hy
      split at e <;> try (rename_i hb; cases hb)
      · split at e
        · rename_i hz
          obtain ⟨k, ek, e⟩ := Option.map_eq_some_iff.mp e
          cases e
          obtain ⟨a, e1, rfl⟩ := repLoc qx
          obtain ⟨b, ws, e2, e3, z⟩ := rp.lst hy
          rw [e1] at e2
          cases e2
          obtain ⟨y, rfl, qy⟩ := qs.of1
          obtain ⟨u, h1, h2, h3⟩ := idx_ok qy hz.1 z hz.2 ek
          exact mt_index pins s σ H _ _ v us Q I rx rs ⟨a, ws, y, k, u, rfl, rfl, .inl (.inl e3), flat_ok qy hz.1, flats_ok z hz.2, h1, h2, h3, q ρ H _ .refl rp intRep⟩
        · cases e
      · cases e
    · cases e
  · cases e
theorem strs_ok {K : PySem.W.Frag} {ρ : List Addr} {H : Hp} : ∀ {ms : List MV} {vs : List V} {ss : List Str}, RepVs K ρ H ms vs → strsO ms = some ss → vs = ss.map V.str
  | [], _, _, q, e => by
    unfold RepVs at q
    cases e
    rw [q]
    rfl
  | m :: ms, _, ss, q, e => by
    unfold RepVs at q
    obtain ⟨w, ws, rfl, a, b⟩ := q
    cases m with
    | str x =>
      unfold strsO at e
      obtain ⟨r, er, rfl⟩ := Option.map_eq_some_iff.mp e
      rw [repStr a, strs_ok b er]
      rfl
    | _ => cases e
theorem sIdx_ok {x : Str} : ∀ {ss : List Str} {k : Nat}, sIdx x ss = some k → ss[k]? = some x ∧ ∀ m, m < k → ss[m]? ≠ some x
  | [], _, e => by cases e
  | z :: r, k, e => by
    unfold sIdx at e
    by_cases hz : z = x
    · rw [if_pos hz] at e
      cases e
      exact ⟨by simp [hz], fun m hm => absurd hm (Nat.not_lt_zero _)⟩
    · rw [if_neg hz] at e
      obtain ⟨j, ej, rfl⟩ := Option.map_eq_some_iff.mp e
      obtain ⟨h1, h2⟩ := sIdx_ok ej
      refine ⟨by simpa using h1, fun m hm => ?_⟩
      cases m with
      | zero => simpa using hz
      | succ m => simpa using h2 m (Nat.lt_of_succ_lt_succ hm)
/-- t.index(x), t a tuple of texts -/
def rtM (K : PySem.W.Frag) : V → List V → Hp → VK → Prop := fun x vs H Q => ∃ ρ h mx my v y, vs = [y] ∧ Rep K ρ h H ∧ RepV K ρ H mx x ∧ RepV K ρ H my y ∧ tidxO mx my = some v ∧ ∀ w, RepV K ρ H v w → Q w H
theorem mt_tidxM : MtR X "tuple.index" (rtM X.K) := by
  intro pins s σ H x vs v us Q I rx rs ⟨ρ, h, mx, my, m, y, e0, rp, qx, qy, e, q⟩
  subst e0
  unfold tidxO at e
  split at e
  · rename_i xs z
    obtain ⟨ss, es, e⟩ := bind_some' e
    obtain ⟨k, ek, e⟩ := Option.map_eq_some_iff.mp e
    cases e
    unfold RepV at qx
    obtain ⟨a, ws, rfl, s1, zs⟩ := qx
    have := strs_ok zs es
    subst this
    have := repStr qy
    subst this
    obtain ⟨h1, h2⟩ := sIdx_ok ek
    exact mt_tup_index pins s σ H _ _ v us Q I rx rs ⟨a, ss, z, k, rfl, rfl, s1, h1, h2, q _ intRep⟩
  · cases e
theorem mt_popM : MtR X "list.pop" (rmM X.K (mtO .pop)) := by
  intro pins s σ H x vs v us Q I rx rs ⟨ρ, h, mx, xs, m, h', rp, qx, qs, e, q⟩
  unfold mtO at e
  split at e
  · rename_i l
    split at e
    · rename_i ys hy
      split at e <;> try (rename_i hb; cases hb)
      · split at e
        · rename_i y ey
          cases e
          obtain ⟨a, e1, rfl⟩ := repLoc qx
          obtain ⟨b, ws, e2, e3, z⟩ := rp.lst hy
          rw [e1] at e2
          cases e2
          have := qs.of0
          subst this
          obtain ⟨w, ew, qw⟩ := z.get ey
          have zd : RepVs X.K ρ H ys.dropLast ws.dropLast := by
            rw [List.dropLast_eq_take, List.dropLast_eq_take, z.length]
            exact z.take _
          refine mt_pop pins s σ H _ _ v us Q I rx rs ⟨a, ws, w, rfl, rfl, e3, by rw [z.length]; exact ew, ?_⟩
          exact q ρ _ _ (ext_set (List.mem_of_getElem? e1)) (rp.setL e1 zd) (qw.mono rp (ext_set (List.mem_of_getElem? e1)))
        · cases e
      · cases e
    · cases e
  · cases e
theorem mt_popAtM : MtR X "list.pop" (rmM X.K (mtO .popAt)) := by
  intro pins s σ H x vs v us Q I rx rs ⟨ρ, h, mx, xs, m, h', rp, qx, qs, e, q⟩
  unfold mtO at e
  split at e
  · rename_i l
    split at e
    · rename_i ys hy
      split at e <;> try (rename_i hb; cases hb)
      · split at e
        · rename_i hz
          split at e
          · rename_i k ek
            split at e
            · rename_i y ey
              cases e
              obtain ⟨a, e1, rfl⟩ := repLoc qx
              obtain ⟨b, ws, e2, e3, z⟩ := rp.lst hy
              rw [e1] at e2
              cases e2
              obtain ⟨i, rfl, qi⟩ := qs.of1
              rw [repInt qi] at rs
              obtain ⟨w, ew, qw⟩ := z.get ey
              refine mt_popAt pins s σ H _ _ v us Q I rx rs ⟨a, ws, _, k, w, rfl, rfl, e3, hz.1, hz.2, by rw [z.length]; exact ek, ew, ?_⟩
              exact q ρ _ _ (ext_set (List.mem_of_getElem? e1)) (rp.setL e1 (z.eraseIdx k)) (qw.mono rp (ext_set (List.mem_of_getElem? e1)))
            · cases e
          · cases e
        · cases e
      · cases e
    · cases e
  · cases e
/-- o[i] = v -/
def rsetM (K : PySem.W.Frag) : TSet := fun o i v H Q => ∃ ρ h mo mi mv h', Rep K ρ h H ∧ RepV K ρ H mo o ∧ RepV K ρ H mi i ∧ RepV K ρ H mv v ∧ setIxO mo mi mv h = some h' ∧ ∀ H', Ext ρ H ρ H' → Rep K ρ h' H' → Q H'
theorem set_M (hu : X.A.units + 1 < cLine) : PSet X (rsetM X.K) := by
  intro pins s σ H o i v ov iv u Q I ro ri rv ⟨ρ, h, mo, mi, mv, h', rp, qo, qi, qv, e, q⟩
  rcases or_cases (show (setL mo mi mv h).or (setD mo mi mv h) = some h' from e) with e5 | e5 <;> clear e <;> have e := e5 <;> clear e5
  rotate_left
  · cases mo with
    | loc l =>
      obtain ⟨d, ed, e⟩ := bind_some' (show ((dctO (.loc l) h).bind fun d => (keyO mi).bind fun k => if d.1.length < sizeLine then some (h.set l (dPut d.1 d.2 k mv)) else none) = some h' from e)
      obtain ⟨k, ek, e⟩ := bind_some' e
      split at e
      · rename_i hz
        cases e
        obtain ⟨l', a, vs, el, hy, e1, rfl, e2, e3, z⟩ := rp.dct qo ed
        cases el
        obtain rfl : ov = Value.ref a := ro
        have ek' := repKey qi ek
        subst ek'
        refine d_setItem hu I (DPut.k (v := v) e2 (by rw [List.length_zip, ← e3.1, Nat.min_self]; exact hz)) ri rv fun s' I' => ⟨_, I', ?_⟩
        exact q _ (ext_set (List.mem_of_getElem? e1)) (rp.setD e1 e3.1 e3.2 z qv)
      · cases e
    | _ => cases e
  unfold setL at e
  split at e
  · rename_i l k
    split at e
    · rename_i ys hy
      cases e2 : ixN ys.length k with
      | none => rw [e2] at e; cases e
      | some j =>
        rw [e2] at e
        cases e
        obtain ⟨a, e1, rfl⟩ := repLoc qo
        obtain ⟨b, ws, e3, e4, z⟩ := rp.lst hy
        rw [e1] at e3
        cases e3
        refine set_list pins s σ H _ i v ov iv u Q I ro ri rv ⟨a, ws, k, j, rfl, repInt qi, e4, by rw [z.length]; exact e2, ?_⟩
        exact q _ (ext_set (List.mem_of_getElem? e1)) (rp.setL e1 (z.set qv j))
    · cases e
  · cases e
end
end MP
end
section
set_option Elab.async false
set_option linter.all false
set_option maxRecDepth 100000
set_option maxHeartbeats 4000000
/-! MP, part dx: sorted(set(xs)) of a list of ints, any number below the scan's bound. -/
namespace MP
open PySem PySem.Spec PyProof.Rows L2
section
variable {P : Program} {w : World} {A : Around} {E : Value → Shared → Prop} {s : Shared}
/-- the new set's object -/
abbrev newSet (w : World) : Obj := { cls := .type "set", dict := none, data := .set #[] 0 (.fresh 0 0 (!w.params.followText "set-order")) }
theorem setOf_list {l : Addr} {its : Array Value} (ns : List Int) {Q : Value → Shared → Prop} (hA : A.handled = none) (isl : s.heap.IsList l its) (are : IntsAre its.toList ns) (few : ns.length + 1 < scanBound)
    (q : ∀ (h2 : Heap) (t2 c : Nat), SetR w h2 s.heap.objs.size (fun j => decide (j ∈ ns)) c → c ≤ ns.length → (∀ b o, s.heap.get? b = some o → h2.get? b = some o) → Q (.ref s.heap.objs.size) { s with heap := h2, toks := t2 }) :
    wpAny (model P w) A (call (.type "set") [.ref l]) Q E s := by
  have sz : its.size = ns.length := by
    rw [← are.length, Array.length_toList]
  obtain ⟨_, _, m0⟩ := PySem.F.called_set.mro
  have m1 := PySem.F.called_set.made
  have m2 := PySem.F.called_set.sub
  have m3 := PySem.F.called_set.notType
  have m4 := PySem.F.called_set.canCreate
  have m5 := PySem.F.typeCall_set_1 (.ref l)
  apply wpAny_call
  apply codeAny_of_tree
  show wpAny _ _ (callAny (.type "set") _) _ _ _
  apply wpAny_pure
  refine ⟨Code.quiet_builtin _ (by decide +kernel), ?_⟩
  apply codeAny_builtin PySem.F.entry_type_call
  rw [Around.under_plain (weight_type_call_type "set" [.ref l] []) rfl]
  repeat (any_goals (first | assumption | wp_step))
  refine codeAny_mono (code_set_led1 (E := E) (.ref l)
    (Q₁ := fun v s1 => v = .ref s.heap.objs.size ∧ s1 = { s with heap := s.heap.push (newSet w) }) ⟨rfl, rfl⟩) ?_
  intro res s1 hres
  match res, hres with
  | .error e, hres => exact hres
  | .ok (.ret v), hres =>
    obtain ⟨rfl, rfl⟩ := hres
    have at0 : (s.heap.push (newSet w)).get? s.heap.objs.size = some (newSet w) := Heap.get?_push_size _ rfl
    have isT : Shared.TypeIs { s with heap := s.heap.push (newSet w) } (.ref s.heap.objs.size) "set" := ⟨_, at0, rfl⟩
    have m6 := PySem.F.called_set.init.lookup
    have m7 := PySem.F.called_set.init.bind (.ref s.heap.objs.size)
    repeat (any_goals (first | assumption | wp_step))
    refine codeAny_mono (codeAny_call_builtin (R := wants (fun v s2 => v = .none ∧ ∃ h2 t2 c, s2 = { s with heap := h2, toks := t2 } ∧
        SetR w h2 s.heap.objs.size (fun j => decide (j ∈ ns)) c ∧ c ≤ ns.length ∧ ∀ b o, s.heap.get? b = some o → h2.get? b = some o) E)
      PySem.F.called_set.init.plain PySem.F.entry_set_init (check_set_init_1 isT ?body)) ?post
    case post =>
      intro res s2 hres
      match res, hres with
      | .error e, hres => exact hres
      | .ok (.ret v), hres =>
        obtain ⟨rfl, h2, t2, c, rfl, a1, a2, a3⟩ := hres
        repeat (any_goals (first | assumption | wp_step))
        exact q _ _ _ a1 a2 a3
    case body =>
      obtain ⟨⟨cl, dc, dt, sl⟩, ol, e1, n, e2⟩ := isl
      simp only at e1 e2
      subst e1 e2
      have lLt : l < s.heap.objs.size := Heap.lt_size ol
      have ol1 : (s.heap.push (newSet w)).get? l = some { cls := .type "list", dict := dc, data := .seq its n, slots := sl } := Heap.get?_push_of_some _ ol
      have isl1 : (s.heap.push (newSet w)).IsList l its := ⟨_, ol1, rfl, n, rfl⟩
      have k1 := PySem.F.sub_list_set
      have k2 := PySem.F.sub_list_frozenset
      have k3 : (Value.type "list" == Value.type "dict") = false := by decide
      have size1 : (s.heap.push (newSet w)).objs.size = s.heap.objs.size + 1 := Heap.size_push ..
      unfold Builtin.«set.__init__» noKeywords Builtin.Frozenset.updateFrom
      generalize hPI : pyIter = PI
      wp_walk
      subst hPI
      apply wpAny_pyIter_list isl1
      apply wpAny_bind
      apply wpAny_runValue
      have hA3 : A.in1.in1.in1.handled = none := by simp [hA]
      have ne1 : l ≠ (s.heap.push (newSet w)).objs.size := by
        rw [size1]
        exact Nat.ne_of_lt (Nat.lt_succ_of_lt lLt)
      have out2 : s.heap.objs.size ∉ [(s.heap.push (newSet w)).objs.size, l] := by
        rw [size1]
        simp only [List.mem_cons, List.not_mem_nil, or_false, not_or]
        exact ⟨Nat.ne_of_lt (Nat.lt_succ_self _), Nat.ne_of_gt lLt⟩
      have vals : ∀ (i : Nat) (v : Value), its[i]? = some v → ∃ k t, ns[i]? = some k ∧ v = .int k t := by
        intro i v hv
        have lt : i < ns.length := by
          rw [← sz]
          exact (Array.getElem?_eq_some_iff.mp hv).1
        obtain ⟨t, ev⟩ := IntsAre.int_at are i v (by rw [Array.getElem?_toList]; exact hv)
        exact ⟨ns[i], t, List.getElem?_eq_getElem lt, by rw [ev, List.getD_eq_getElem?_getD, List.getElem?_eq_getElem lt]; rfl⟩
      refine set_update_ints ((Walks.list hA3 _ l ne1 its).toS) s.heap.objs.size out2 ns sz few vals (its.size - 0) 0 _ (by omega) (Nat.zero_le _) ?st ?s0 ?fin
      case st => exact ⟨⟨_, Heap.get?_push_size _ rfl, rfl, rfl⟩, isl1.push _⟩
      case s0 => exact ⟨0, Nat.le_refl 0, setR_new_at (Heap.get?_push_of_some _ at0)⟩
      case fin =>
        intro s3 c mv le sr
        obtain ⟨h3, g3, d3, t3, o3⟩ := s3
        obtain rfl : g3 = s.gens := mv.gens
        obtain rfl : d3 = s.drawn := mv.drawn
        obtain rfl : o3 = s.os := mv.os
        show wpAny _ _ _ _ _ _
        apply wpAny_pure
        show wpAny _ _ (ret Value.none) _ _ _
        rw [sz] at le
        apply wpAny_pure
        refine ⟨rfl, h3, t3, c, rfl, sr, le, ?_⟩
        intro b o eb
        have bl := Heap.lt_size eb
        apply mv.heap b o
        · rw [size1]
          simp only [List.mem_cons, List.not_mem_nil, or_false, not_or]
          exact ⟨Nat.ne_of_lt bl, Nat.ne_of_lt (Nat.lt_succ_of_lt bl)⟩
        · exact Heap.get?_push_of_some _ (Heap.get?_push_of_some _ eb)
/-- sorted of a set of ints -/
theorem sortedOf_set {a : Addr} {S : Int → Bool} {n : Nat} {Q : Value → Shared → Prop} (R : SetR w s.heap a S n) (hA : A.handled = none)
    (q : ∀ s2 p (out : Array Value) (c : Nat) (ns : List Int), (∀ b o, s.heap.get? b = some o → s2.heap.get? b = some o) → s2.gens = s.gens → s2.os = s.os → s.heap.objs.size ≤ p →
      s2.heap.get? p = some (seqObj "list" out c) → IntsAre out.toList ns → ns.Pairwise (· < ·) → (∀ k, k ∈ ns ↔ S k = true) → ns.length ≤ sizeLine → Q (.ref p) s2) :
    wpAny (model P w) A (call (.builtin "sorted") [.ref a]) Q E s := by
  obtain ⟨o, es, ep, t, c1, c2, c3, c4, c5, c6, c7, c8, c9, c10, c11⟩ := R
  apply Calls.call_function_entry kind_sorted plain_sorted entry_sorted (args_sorted1 _)
  unfold Builtin.«sorted»
  apply wpAny_bind (m := checkCount "sorted" 1 1 _)
  apply wpAny_pure
  apply wpAny_bind
  refine collect_set (A := A.in1) hA ⟨o, c1, c2.1, c3⟩ c8 c7 c10 c11 ?_
  intro s1 vs k1 le1 g1 o1 pm
  have len1 : vs.length = es.size := by rw [pm.length_eq, List.length_map, Array.length_toList]
  have small : vs.length ≤ sizeLine := by
    have : scanBound = 4096 := rfl
    rw [len1, sizeLine_eq]
    omega
  have are : IntsAre vs (vs.map Builtin.Re.reRawOf) := by
    apply ints_of
    intro v hv
    obtain ⟨e, he, ev⟩ := List.mem_map.mp (pm.mem_iff.mp hv)
    obtain ⟨k, tk, ek, _⟩ := c4 e he
    exact ⟨k, tk, ev ▸ ek⟩
  have pk : (vs.map Builtin.Re.reRawOf).Perm (es.toList.map keyOf) := by
    have p2 := pm.map Builtin.Re.reRawOf
    rw [List.map_map] at p2
    exact p2
  apply wpAny_bind
  apply wpAny_newList _ small
  have at1 : (s1.heap.push (seqObj "list" vs.toArray 0)).get? s1.heap.objs.size = some (seqObj "list" vs.toArray 0) := Heap.get?_push_size _ rfl
  apply wpAny_bind
  apply wpAny_holding
  refine wpAny_call_entry slot_list_sort ⟨_, at1, rfl⟩ entry_list_sort (list_sort_treeAny at1 are small ?_) (args_list_sort _)
  intro out ns a1 a2 a3
  obtain ⟨c, hc⟩ := sortedHeap_at (vs := vs) (out := out) at1
  have pn := a2.trans pk
  refine ⟨_, rfl, wpAny_pure ⟨_, rfl, ?_⟩⟩
  refine q _ s1.heap.objs.size out c ns ?_ g1 o1 le1 hc a1 (lt_of_le_nodup ns a3 (pn.nodup_iff.mpr c5)) (fun k => by rw [pn.mem_iff, ← c6 k]) (by rw [a2.length_eq, List.length_map]; exact small)
  intro b u eb
  have e2 := k1 b u eb
  have bl := Heap.lt_size e2
  show (sortedHeap (s1.heap.push (seqObj "list" vs.toArray 0)) s1.heap.objs.size vs out).get? b = some u
  rw [sortedHeap_old (Nat.ne_of_lt bl) (by rw [size_push']; exact Nat.lt_succ_of_lt bl)]
  exact Heap.get?_push_of_some _ e2
end
end MP
end
section
set_option Elab.async false
set_option linter.all false
set_option maxRecDepth 100000
set_option maxHeartbeats 4000000
/-! MP, part e: expressions: a piece of syntax does what its mini expression says. -/
namespace MP
open PySem PySem.Spec PyProof.Rows L2

def REnv (K : PySem.W.Frag) (ρ : List Addr) (H : Hp) (e : En) (σ : L2.St) : Prop :=
  e.length = σ.length ∧ ∀ (i : Nat) (v : MV), e[i]? = some (some v) → ∃ w, σ[i]? = some (some w) ∧ RepV K ρ H v w
/-- an exception of ours as it lies -/
def RepX (K : PySem.W.Frag) (ρ : List Addr) (H : Hp) (x : Exn) (cls : Value) (d : Option Addr) : Prop := False
def PostG {α β : Type} (R : List Addr → Hp → α → β → Prop) (K : PySem.W.Frag) (W : WX) (σ : L2.St) (ρ : List Addr) (H : Hp) (r : Res α) (Q : β → Hp → Prop) : Prop := match r with
  | .ok a h' => ∀ ρ' H' b, Ext ρ H ρ' H' → Rep K ρ' h' H' → R ρ' H' a b → Q b H'
  | .exc x h' => ∀ ρ' H' cls d, Ext ρ H ρ' H' → Rep K ρ' h' H' → RepX K ρ' H' x cls d → W cls d σ H'
  | .bad => False
abbrev RB : List Addr → Hp → Bool → Bool → Prop := fun _ _ a b => a = b
section
variable {K : PySem.W.Frag} {ρ ρ1 : List Addr} {h : MH} {H H1 : Hp} {W : WX} {σ : L2.St} {e : En}
theorem REnv.mono (r : Rep K ρ h H) (x : Ext ρ H ρ1 H1) (q : REnv K ρ H e σ) : REnv K ρ1 H1 e σ :=
  ⟨q.1, fun i v ei => let ⟨w, a, b⟩ := q.2 i v ei; ⟨w, a, b.mono r x⟩⟩
theorem REnv.set {v : MV} {w : V} (q : REnv K ρ H e σ) (i : Nat) (r : RepV K ρ H v w) : REnv K ρ H (e.set i (some v)) (σ.set i (some w)) := by
  refine ⟨by rw [List.length_set, List.length_set]; exact q.1, fun j u ej => ?_⟩
  by_cases hij : i = j
  · subst hij
    by_cases hi : i < e.length
    · rw [List.getElem?_set_self hi] at ej
      cases ej
      exact ⟨w, List.getElem?_set_self (by rw [← q.1]; exact hi), r⟩
    · rw [List.getElem?_eq_none (by rw [List.length_set]; omega)] at ej
      cases ej
  · rw [List.getElem?_set_ne hij] at ej
    obtain ⟨w', a, b⟩ := q.2 j u ej
    exact ⟨w', by rw [List.getElem?_set_ne hij]; exact a, b⟩
variable {α β γ δ : Type} {R : List Addr → Hp → α → β → Prop} {R' : List Addr → Hp → γ → δ → Prop}
theorem PostG.imp {r : Res α} {Q Q' : β → Hp → Prop} (p : PostG R K W σ ρ H r Q) (f : ∀ b H', Q b H' → Q' b H') : PostG R K W σ ρ H r Q' := by
  cases r with
  | ok a h' => exact fun ρ' H' b x rp q => f b H' (p ρ' H' b x rp q)
  | exc x h' => exact p
  | bad => exact p
theorem PostG.ext {r : Res α} {Q : β → Hp → Prop} (p : PostG R K W σ ρ H r Q) (x : Ext ρ H ρ1 H1) : PostG R K W σ ρ1 H1 r Q := by
  cases r with
  | ok a h' => exact fun ρ' H' b y rp q => p ρ' H' b (x.trans y) rp q
  | exc z h' => exact fun ρ' H' c d y rp q => p ρ' H' c d (x.trans y) rp q
  | bad => exact p
theorem PostG.bind {r : Res α} {f : α → MH → Res γ} {Q : δ → Hp → Prop} (p : PostG R' K W σ ρ H (r.bind f) Q) :
    PostG R K W σ ρ H r (fun b H1 => ∃ ρ1 h1 a, Ext ρ H ρ1 H1 ∧ Rep K ρ1 h1 H1 ∧ R ρ1 H1 a b ∧ PostG R' K W σ ρ1 H1 (f a h1) Q) := by
  cases r with
  | ok a h' => exact fun ρ' H' b x rp q => ⟨ρ', h', a, x, rp, q, PostG.ext (R := R') p x⟩
  | exc x h' => exact p
  | bad => exact p
/-- a pure operation behind -/
theorem PostG.of_oP {v : Option (MV × MH)} {Q : VK} (p : PostG (RepV K) K W σ ρ H (oP v) Q) : ∃ m h', v = some (m, h') ∧ ∀ ρ' H' w, Ext ρ H ρ' H' → Rep K ρ' h' H' → RepV K ρ' H' m w → Q w H' := by
  cases v with
  | none => exact False.elim p
  | some q => exact ⟨q.1, q.2, rfl, p⟩
theorem PostG.of_oR {v : Option γ} {f : γ → MH → Res α} {Q : β → Hp → Prop} (p : PostG R K W σ ρ H ((oR h v).bind f) Q) : ∃ k, v = some k ∧ PostG R K W σ ρ H (f k h) Q := by
  cases v with
  | none => exact False.elim p
  | some k => exact ⟨k, rfl, p⟩
theorem PostG.of_oR1 {v : Option α} {Q : β → Hp → Prop} (p : PostG R K W σ ρ H (oR h v) Q) : ∃ k, v = some k ∧ PostG R K W σ ρ H (.ok k h) Q := by
  cases v with
  | none => exact False.elim p
  | some k => exact ⟨k, rfl, p⟩
/-- a value stands already -/
theorem PostG.here {a : α} {b : β} {Q : β → Hp → Prop} (p : PostG R K W σ ρ H (.ok a h) Q) (rp : Rep K ρ h H) (q : R ρ H a b) : Q b H := p ρ H b .refl rp q
end

/-! ### readings -/
noncomputable section
def tI (K : PySem.W.Frag) (W : WX) (C : Cl) (a : E) : TE := fun σ H Q => ∃ ρ e h, REnv K ρ H e σ ∧ Rep K ρ h H ∧ PostG (RepV K) K W σ ρ H (E.den C a e h) Q
def tIs (K : PySem.W.Frag) (W : WX) (C : Cl) (as : List E) : TA := fun σ H Q => ∃ ρ e h, REnv K ρ H e σ ∧ Rep K ρ h H ∧ PostG (RepVs K) K W σ ρ H (Es.den C as e h) Q
def tT (K : PySem.W.Frag) (W : WX) (C : Cl) (a : E) : TT := fun σ H Q => ∃ ρ e h, REnv K ρ H e σ ∧ Rep K ρ h H ∧ PostG RB K W σ ρ H (E.tst C a e h) Q
/-- what a call of the i-th def promises -/
def spI (K : PySem.W.Frag) (C : Cl) (i : Nat) : Sp := fun vs H Q Ex => ∃ ρ h xs, Rep K ρ h H ∧ RepVs K ρ H xs vs ∧ PostG (RepV K) K (fun cls d _ H' => Ex cls d H') [] ρ H (C i xs h) Q
end

theorem PEi {X : Cx} {e : Expr} {t t' : TE} (h : PE X e t) (f : ∀ σ H Q, t' σ H Q → t σ H Q) : PE X e t' := ⟨fun pins s σ H Q I q => h.run pins s σ H Q I (f σ H Q q)⟩
theorem PTi {X : Cx} {e : Expr} {t t' : TT} (h : PT X e t) (f : ∀ σ H Q, t' σ H Q → t σ H Q) : PT X e t' := ⟨fun pins s σ H Q I q => h.run pins s σ H Q I (f σ H Q q)⟩
theorem PAi {X : Cx} {e : List Expr} {t t' : TA} (h : PA X e t) (f : ∀ σ H Q, t' σ H Q → t σ H Q) : PA X e t' := ⟨fun pos pins s σ H Q I q => h.run pos pins s σ H Q I (f σ H Q q)⟩
theorem PSi {X : Cx} {e : Stmt} {t t' : TS} (h : PS X e t) (f : ∀ D σ H, t' D σ H → t D σ H) : PS X e t' := ⟨fun pins s σ H D I q => h.run pins s σ H D I (f D σ H q)⟩

section
variable {X : Cx} {W : WX} {C : Cl} {pa pb pc : Expr} {a b c : E} {pos : Pos}
theorem snd_var {i : Nat} {x : Str} (hN : X.N[i]? = some x) (hv : Vis X.env.scope x) (hd : (x == ("__debug__" : Str)) = false) (hcd : (x == ("__classdict__" : Str)) = false) : PE X (.Name x pos) (tI X.K W C (.var i)) := by
  refine PEi (pe_var hN hv hd hcd) fun σ H Q ⟨ρ, e, h, re, rp, po⟩ => ?_
  simp only [E.den] at po
  split at po
  · rename_i v ev
    obtain ⟨w, ew, rw⟩ := re.2 i v ev
    exact ⟨w, ew, po.here rp rw⟩
  · exact po.elim
theorem snd_lit {v : MV} {w : V} {pe : Expr} (h : PE X pe (tC w)) (r : ∀ ρ H, RepV X.K ρ H v w) : PE X pe (tI X.K W C (.lit v)) := by
  refine PEi h fun σ H Q ⟨ρ, e, h, re, rp, po⟩ => ?_
  simp only [E.den] at po
  exact po.here rp (r ρ H)
theorem snd_bin (o : BOp) (ha : PE X pa (tI X.K W C a)) (hb : PE X pb (tI X.K W C b)) : PE X (.BinOp pa o.op pb pos) (tI X.K W C (.bin o a b)) := by
  refine PEi (pe_op (op_binM o) ha hb) fun σ H Q ⟨ρ, e, h, re, rp, po⟩ => ?_
  simp only [E.den] at po
  refine ⟨ρ, e, h, re, rp, (PostG.bind (R := RepV X.K) po).imp fun x H1 ⟨ρ1, h1, mx, x1, rp1, qx, po1⟩ => ?_⟩
  refine ⟨ρ1, e, h1, re.mono rp x1, rp1, (PostG.bind (R := RepV X.K) po1).imp fun y H2 ⟨ρ2, h2, my, x2, rp2, qy, po2⟩ => ?_⟩
  obtain ⟨m, h', e3, q⟩ := po2.of_oP
  exact ⟨ρ2, h2, mx, my, m, h', rp2, qx.mono rp1 x2, qy, e3, q⟩
theorem snd_neg (ha : PE X pa (tI X.K W C a)) : PE X (.UnaryOp .USub pa pos) (tI X.K W C (.neg a)) := by
  refine PEi (pe_un un_neg ha) fun σ H Q ⟨ρ, e, h, re, rp, po⟩ => ?_
  simp only [E.den] at po
  refine ⟨ρ, e, h, re, rp, (PostG.bind (R := RepV X.K) po).imp fun x H1 ⟨ρ1, h1, mx, x1, rp1, qx, po1⟩ => ?_⟩
  split at po1
  · exact ⟨_, repInt qx, po1.here rp1 intRep⟩
  · exact po1.elim
theorem snd_not (ha : PE X pa (tI X.K W C a)) : PE X (.UnaryOp .Not pa pos) (tI X.K W C (.not a)) := by
  refine PEi (pe_notT ha) fun σ H Q ⟨ρ, e, h, re, rp, po⟩ => ?_
  simp only [E.den] at po
  refine ⟨ρ, e, h, re, rp, (PostG.bind (R := RepV X.K) po).imp fun x H1 ⟨ρ1, h1, mx, x1, rp1, qx, po1⟩ => ?_⟩
  obtain ⟨k, ek, po2⟩ := po1.of_oR
  exact ⟨k, truV_ok rp1 qx ek, po2.here rp1 blRep⟩
theorem snd_cmp (hu : X.A.units + 129 < cLine) (o : COp) (hm : behindInMarks o.op pb = false) (ha : PE X pa (tI X.K W C a)) (hb : PE X pb (tI X.K W C b)) : PE X (.Compare pa [o.op] [pb] pos) (tI X.K W C (.cmp o a b)) := by
  refine PEi (pe_cmpR (op_cmpM hu o) ha hb hm) fun σ H Q ⟨ρ, e, h, re, rp, po⟩ => ?_
  simp only [E.den] at po
  refine ⟨ρ, e, h, re, rp, (PostG.bind (R := RepV X.K) po).imp fun x H1 ⟨ρ1, h1, mx, x1, rp1, qx, po1⟩ => ?_⟩
  refine ⟨ρ1, e, h1, re.mono rp x1, rp1, (PostG.bind (R := RepV X.K) po1).imp fun y H2 ⟨ρ2, h2, my, x2, rp2, qy, po2⟩ => ?_⟩
  obtain ⟨k, ek, po3⟩ := po2.of_oR
  exact ⟨ρ2, h2, mx, my, k, rp2, qx.mono rp1 x2, qy, ek, po3.here rp2 blRep⟩
theorem tst_cmp {o : COp} {e : En} {h : MH} : E.tst C (.cmp o a b) e h = (E.den C a e h).bind fun x h1 => (E.den C b e h1).bind fun y h2 => oR h2 (cmpO o x y h2) := by
  unfold E.tst
  simp only [E.den]
  cases E.den C a e h with
  | ok x h1 =>
    simp only [Res.bind_ok]
    cases E.den C b e h1 with
    | ok y h2 =>
      simp only [Res.bind_ok]
      cases cmpO o x y h2 with
      | none => rfl
      | some k => rfl
    | exc _ _ => rfl
    | bad => rfl
  | exc _ _ => rfl
  | bad => rfl
theorem sndT_cmp (hu : X.A.units + 129 < cLine) (o : COp) (hm : behindInMarks o.op pb = false) (ha : PE X pa (tI X.K W C a)) (hb : PE X pb (tI X.K W C b)) : PT X (.Compare pa [o.op] [pb] pos) (tT X.K W C (.cmp o a b)) := by
  refine PTi (pt_cmpR (op_cmpM hu o) ha hb hm) fun σ H Q ⟨ρ, e, h, re, rp, po⟩ => ?_
  rw [tst_cmp] at po
  refine ⟨ρ, e, h, re, rp, (PostG.bind (R := RepV X.K) po).imp fun x H1 ⟨ρ1, h1, mx, x1, rp1, qx, po1⟩ => ?_⟩
  refine ⟨ρ1, e, h1, re.mono rp x1, rp1, (PostG.bind (R := RepV X.K) po1).imp fun y H2 ⟨ρ2, h2, my, x2, rp2, qy, po2⟩ => ?_⟩
  obtain ⟨k, ek, po3⟩ := po2.of_oR1
  exact ⟨ρ2, h2, mx, my, k, rp2, qx.mono rp1 x2, qy, ek, k, rfl, po3.here rp2 rfl⟩
theorem snd_cmp2 (hu : X.A.units + 129 < cLine) (o o' : COp) (hm : lastMarks [o.op, o'.op] [pb, pc] = false) (ha : PE X pa (tI X.K W C a)) (hb : PE X pb (tI X.K W C b)) (hc : PE X pc (tI X.K W C c)) :
    PE X (.Compare pa [o.op, o'.op] [pb, pc] pos) (tI X.K W C (.cmp2 o o' a b c)) := by
  refine PEi (pe_chain (op_cmpM hu o) (op_cmpM hu o') ha hb hc hm) fun σ H Q ⟨ρ, e, h, re, rp, po⟩ => ?_
  simp only [E.den] at po
  refine ⟨ρ, e, h, re, rp, (PostG.bind (R := RepV X.K) po).imp fun x H1 ⟨ρ1, h1, mx, x1, rp1, qx, po1⟩ => ?_⟩
  refine ⟨ρ1, e, h1, re.mono rp x1, rp1, (PostG.bind (R := RepV X.K) po1).imp fun y H2 ⟨ρ2, h2, my, x2, rp2, qy, po2⟩ => ?_⟩
  obtain ⟨k, ek, po3⟩ := po2.of_oR
  refine ⟨ρ2, h2, mx, my, k, rp2, qx.mono rp1 x2, qy, ek, k, rfl, ?_⟩
  cases k with
  | false => exact po3.here rp2 blRep
  | true =>
    have po3 : PostG (RepV X.K) X.K W σ ρ2 H2 ((E.den C c e h2).bind fun z h4 => (oR h4 (cmpO o' my z h4)).bind fun k h5 => .ok (.bl k) h5) Q := po3
    refine ⟨ρ2, e, h2, (re.mono rp x1).mono rp1 x2, rp2, (PostG.bind (R := RepV X.K) po3).imp fun z H3 ⟨ρ3, h3, mz, x3, rp3, qz, po4⟩ => ?_⟩
    obtain ⟨k, ek, po5⟩ := po4.of_oR
    exact ⟨ρ3, h3, my, mz, k, rp3, qy.mono rp2 x3, qz, ek, po5.here rp3 blRep⟩
theorem tst_cmp2 {o o' : COp} {e : En} {h : MH} : E.tst C (.cmp2 o o' a b c) e h = (E.den C a e h).bind fun x h1 => (E.den C b e h1).bind fun y h2 => (oR h2 (cmpO o x y h2)).bind fun k h3 =>
      if k = true then (E.den C c e h3).bind fun z h4 => oR h4 (cmpO o' y z h4) else .ok false h3 := by
  unfold E.tst
  simp only [E.den]
  cases E.den C a e h with
  | ok x h1 =>
    simp only [Res.bind_ok]
    cases E.den C b e h1 with
    | ok y h2 =>
      simp only [Res.bind_ok]
      cases cmpO o x y h2 with
      | none => rfl
      | some k =>
        cases k with
        | false => rfl
        | true =>
          simp only [oR_some, Res.bind_ok, if_true]
          cases E.den C c e h2 with
          | ok z h4 =>
            simp only [Res.bind_ok]
            cases cmpO o' y z h4 with
            | none => rfl
            | some k => rfl
          | exc _ _ => rfl
          | bad => rfl
    | exc _ _ => rfl
    | bad => rfl
  | exc _ _ => rfl
  | bad => rfl
theorem sndT_cmp2 (hu : X.A.units + 129 < cLine) (o o' : COp) (hm : lastMarks [o.op, o'.op] [pb, pc] = false) (ha : PE X pa (tI X.K W C a)) (hb : PE X pb (tI X.K W C b)) (hc : PE X pc (tI X.K W C c)) :
    PT X (.Compare pa [o.op, o'.op] [pb, pc] pos) (tT X.K W C (.cmp2 o o' a b c)) := by
  refine PTi (pt_chain (op_cmpM hu o) (op_cmpM hu o') ha hb hc hm) fun σ H Q ⟨ρ, e, h, re, rp, po⟩ => ?_
  rw [tst_cmp2] at po
  refine ⟨ρ, e, h, re, rp, (PostG.bind (R := RepV X.K) po).imp fun x H1 ⟨ρ1, h1, mx, x1, rp1, qx, po1⟩ => ?_⟩
  refine ⟨ρ1, e, h1, re.mono rp x1, rp1, (PostG.bind (R := RepV X.K) po1).imp fun y H2 ⟨ρ2, h2, my, x2, rp2, qy, po2⟩ => ?_⟩
  obtain ⟨k, ek, po3⟩ := po2.of_oR
  refine ⟨ρ2, h2, mx, my, k, rp2, qx.mono rp1 x2, qy, ek, k, rfl, ?_⟩
  cases k with
  | false => exact ⟨false, rfl, po3.here rp2 rfl⟩
  | true =>
    have po3 : PostG RB X.K W σ ρ2 H2 ((E.den C c e h2).bind fun z h4 => oR h4 (cmpO o' my z h4)) Q := po3
    refine ⟨ρ2, e, h2, (re.mono rp x1).mono rp1 x2, rp2, (PostG.bind (R := RepV X.K) po3).imp fun z H3 ⟨ρ3, h3, mz, x3, rp3, qz, po4⟩ => ?_⟩
    obtain ⟨k, ek, po5⟩ := po4.of_oR1
    exact ⟨ρ3, h3, my, mz, k, rp3, qy.mono rp2 x3, qz, ek, k, rfl, po5.here rp3 rfl⟩

/-! ### and, or, not, if as values and as tests -/
variable {rest : List Expr}
theorem snd_and (ha : PE X pa (tI X.K W C a)) (hb : PE X (.BoolOp .And (pb :: rest) pos) (tI X.K W C b)) : PE X (.BoolOp .And (pa :: pb :: rest) pos) (tI X.K W C (.and a b)) := by
  refine PEi (pe_andT ha hb) fun σ H Q ⟨ρ, e, h, re, rp, po⟩ => ?_
  simp only [E.den] at po
  refine ⟨ρ, e, h, re, rp, (PostG.bind (R := RepV X.K) po).imp fun x H1 ⟨ρ1, h1, mx, x1, rp1, qx, po1⟩ => ?_⟩
  obtain ⟨k, ek, po2⟩ := po1.of_oR
  refine ⟨k, truV_ok rp1 qx ek, ?_⟩
  cases k with
  | true => exact ⟨ρ1, e, h1, re.mono rp x1, rp1, po2⟩
  | false => exact po2.here rp1 qx
theorem snd_or (ha : PE X pa (tI X.K W C a)) (hb : PE X (.BoolOp .Or (pb :: rest) pos) (tI X.K W C b)) : PE X (.BoolOp .Or (pa :: pb :: rest) pos) (tI X.K W C (.or a b)) := by
  refine PEi (pe_orT ha hb) fun σ H Q ⟨ρ, e, h, re, rp, po⟩ => ?_
  simp only [E.den] at po
  refine ⟨ρ, e, h, re, rp, (PostG.bind (R := RepV X.K) po).imp fun x H1 ⟨ρ1, h1, mx, x1, rp1, qx, po1⟩ => ?_⟩
  obtain ⟨k, ek, po2⟩ := po1.of_oR
  refine ⟨k, truV_ok rp1 qx ek, ?_⟩
  cases k with
  | true => exact po2.here rp1 qx
  | false => exact ⟨ρ1, e, h1, re.mono rp x1, rp1, po2⟩
theorem tst_and {e : En} {h : MH} : E.tst C (.and a b) e h = (E.tst C a e h).bind fun k h1 => if k = true then E.tst C b e h1 else .ok false h1 := by
  unfold E.tst
  simp only [E.den]
  cases E.den C a e h with
  | ok x h1 =>
    simp only [Res.bind_ok]
    cases ht : truO x h1 with
    | none => rfl
    | some k =>
      cases k with
      | true => rfl
      | false =>
        simp [ht]
  | exc _ _ => rfl
  | bad => rfl
theorem tst_or {e : En} {h : MH} : E.tst C (.or a b) e h = (E.tst C a e h).bind fun k h1 => if k = true then .ok true h1 else E.tst C b e h1 := by
  unfold E.tst
  simp only [E.den]
  cases E.den C a e h with
  | ok x h1 =>
    simp only [Res.bind_ok]
    cases ht : truO x h1 with
    | none => rfl
    | some k =>
      cases k with
      | false => rfl
      | true =>
        simp [ht]
  | exc _ _ => rfl
  | bad => rfl
theorem tst_not {e : En} {h : MH} : E.tst C (.not a) e h = (E.tst C a e h).bind fun k h1 => .ok (!k) h1 := by
  unfold E.tst
  simp only [E.den]
  cases E.den C a e h with
  | ok x h1 =>
    simp only [Res.bind_ok]
    cases ht : truO x h1 with
    | none => rfl
    | some k => rfl
  | exc _ _ => rfl
  | bad => rfl
theorem tst_ite {e : En} {h : MH} : E.tst C (.ite c a b) e h = (E.tst C c e h).bind fun k h1 => if k = true then E.tst C a e h1 else E.tst C b e h1 := by
  unfold E.tst
  simp only [E.den]
  cases E.den C c e h with
  | ok x h1 =>
    simp only [Res.bind_ok]
    cases ht : truO x h1 with
    | none => rfl
    | some k => cases k <;> rfl
  | exc _ _ => rfl
  | bad => rfl
theorem sndT_not (ha : PT X pa (tT X.K W C a)) : PT X (.UnaryOp .Not pa pos) (tT X.K W C (.not a)) := by
  refine PTi (pt_not ha) fun σ H Q ⟨ρ, e, h, re, rp, po⟩ => ?_
  rw [tst_not] at po
  refine ⟨ρ, e, h, re, rp, (PostG.bind (R := RB) po).imp fun x H1 ⟨ρ1, h1, mx, x1, rp1, qx, po1⟩ => ?_⟩
  subst qx
  exact po1.here rp1 rfl
theorem sndW_and (ha : PT X pa (tT X.K W C a)) (hb : PW X (.BoolOp .And (pb :: rest) pos) (tT X.K W C b)) : PW X (.BoolOp .And (pa :: pb :: rest) pos) (tT X.K W C (.and a b)) := by
  refine ⟨fun whole pins s σ H Q I h => (pw_and ha hb).run whole pins s σ H Q I ?_⟩
  obtain ⟨ρ, e, h, re, rp, po⟩ := h
  rw [tst_and] at po
  refine ⟨ρ, e, h, re, rp, (PostG.bind (R := RB) po).imp fun x H1 ⟨ρ1, h1, mx, x1, rp1, qx, po1⟩ => ?_⟩
  subst qx
  cases mx with
  | true => exact ⟨ρ1, e, h1, re.mono rp x1, rp1, po1⟩
  | false => exact po1.here rp1 rfl
theorem sndW_or (ha : PT X pa (tT X.K W C a)) (hb : PW X (.BoolOp .Or (pb :: rest) pos) (tT X.K W C b)) : PW X (.BoolOp .Or (pa :: pb :: rest) pos) (tT X.K W C (.or a b)) := by
  refine ⟨fun whole pins s σ H Q I h => (pw_or ha hb).run whole pins s σ H Q I ?_⟩
  obtain ⟨ρ, e, h, re, rp, po⟩ := h
  rw [tst_or] at po
  refine ⟨ρ, e, h, re, rp, (PostG.bind (R := RB) po).imp fun x H1 ⟨ρ1, h1, mx, x1, rp1, qx, po1⟩ => ?_⟩
  subst qx
  cases mx with
  | true => exact po1.here rp1 rfl
  | false => exact ⟨ρ1, e, h1, re.mono rp x1, rp1, po1⟩
theorem snd_ite (hc : PT X pc (tT X.K W C c)) (ha : PE X pa (tI X.K W C a)) (hb : PE X pb (tI X.K W C b)) : PE X (.IfExp pc pa pb pos) (tI X.K W C (.ite c a b)) := by
  refine PEi (pe_ifExp hc ha hb) fun σ H Q ⟨ρ, e, h, re, rp, po⟩ => ?_
  have e1 : E.den C (.ite c a b) e h = (E.tst C c e h).bind fun k h1 => if k = true then E.den C a e h1 else E.den C b e h1 := by
    unfold E.tst
    simp only [E.den]
    cases E.den C c e h with
    | ok x h1 => rfl
    | exc _ _ => rfl
    | bad => rfl
  rw [e1] at po
  refine ⟨ρ, e, h, re, rp, (PostG.bind (R := RB) po).imp fun x H1 ⟨ρ1, h1, mx, x1, rp1, qx, po1⟩ => ?_⟩
  subst qx
  cases mx with
  | true => exact ⟨ρ1, e, h1, re.mono rp x1, rp1, po1⟩
  | false => exact ⟨ρ1, e, h1, re.mono rp x1, rp1, po1⟩
/-- any other expression as a test -/
theorem sndT_any (ha : PE X pa (tI X.K W C a)) (he : ∀ whole, isTrue pa X.env whole = (do let v ← whole; standAt pa.pos; holding [v] (truthy v))) : PT X pa (tT X.K W C a) := by
  refine PTi (pt_truth ha he) fun σ H Q ⟨ρ, e, h, re, rp, po⟩ => ?_
  refine ⟨ρ, e, h, re, rp, (PostG.bind (R := RepV X.K) po).imp fun x H1 ⟨ρ1, h1, mx, x1, rp1, qx, po1⟩ => ?_⟩
  obtain ⟨k, ek, po2⟩ := po1.of_oR1
  exact ⟨k, truV_ok rp1 qx ek, po2.here rp1 rfl⟩

/-! ### lists of expressions, displays, subscripts -/
variable {es : List Expr} {as : List E}
theorem snd_nil : PA X [] (tIs X.K W C []) := by
  refine PAi pa_nil fun σ H Q ⟨ρ, e, h, re, rp, po⟩ => ?_
  simp only [Es.den] at po
  exact po.here rp .nil
theorem snd_cons (ha : PE X pa (tI X.K W C a)) (hr : PA X es (tIs X.K W C as)) (hs : starEach (pa :: es) X.env = (false, eval pa X.env) :: starEach es X.env) : PA X (pa :: es) (tIs X.K W C (a :: as)) := by
  refine PAi (pa_cons ha hr hs) fun σ H Q ⟨ρ, e, h, re, rp, po⟩ => ?_
  simp only [Es.den] at po
  refine ⟨ρ, e, h, re, rp, (PostG.bind (R := RepV X.K) po).imp fun x H1 ⟨ρ1, h1, mx, x1, rp1, qx, po1⟩ => ?_⟩
  refine ⟨ρ1, e, h1, re.mono rp x1, rp1, (PostG.bind (R := RepVs X.K) po1).imp fun xs H2 ⟨ρ2, h2, ms, x2, rp2, qs, po2⟩ => ?_⟩
  exact po2.here rp2 (.cons (qx.mono rp1 x2) qs)
theorem snd_tup {k : Nat} (h : PA X es (tIs X.K W C as)) : PE X (.Tuple es k pos) (tI X.K W C (.tup as)) := by
  refine PEi (pe_tup h) fun σ H Q ⟨ρ, e, h, re, rp, po⟩ => ?_
  simp only [E.den] at po
  refine ⟨ρ, e, h, re, rp, (PostG.bind (R := RepVs X.K) po).imp fun xs H1 ⟨ρ1, h1, ms, x1, rp1, qs, po1⟩ => ?_⟩
  split at po1
  · rename_i hz
    exact ⟨by rw [qs.length]; exact hz, rp1.newT qs po1⟩
  · exact po1.elim
theorem snd_lst (h : PA X es (tIs X.K W C as)) : PE X (.List es pos) (tI X.K W C (.lst as)) := by
  refine PEi (pe_lst h) fun σ H Q ⟨ρ, e, h, re, rp, po⟩ => ?_
  simp only [E.den] at po
  refine ⟨ρ, e, h, re, rp, (PostG.bind (R := RepVs X.K) po).imp fun xs H1 ⟨ρ1, h1, ms, x1, rp1, qs, po1⟩ => ?_⟩
  split at po1
  · rename_i hz
    exact ⟨by rw [qs.length]; exact hz, rp1.newL qs po1⟩
  · exact po1.elim
theorem snd_ix (hu : X.A.units + 1 < cLine) (hs : PlainIx pb) (ha : PE X pa (tI X.K W C a)) (hb : PE X pb (tI X.K W C b)) : PE X (.Subscript pa pb pos) (tI X.K W C (.ix a b)) := by
  refine PEi (pe_ix (ix_M hu) ha hb hs) fun σ H Q ⟨ρ, e, h, re, rp, po⟩ => ?_
  simp only [E.den] at po
  refine ⟨ρ, e, h, re, rp, (PostG.bind (R := RepV X.K) po).imp fun x H1 ⟨ρ1, h1, mx, x1, rp1, qx, po1⟩ => ?_⟩
  refine ⟨ρ1, e, h1, re.mono rp x1, rp1, (PostG.bind (R := RepV X.K) po1).imp fun y H2 ⟨ρ2, h2, my, x2, rp2, qy, po2⟩ => ?_⟩
  obtain ⟨v, ev, po3⟩ := po2.of_oR1
  exact ⟨ρ2, h2, mx, my, v, rp2, qx.mono rp1 x2, qy, ev, fun w qw => po3.here rp2 qw⟩
/-- a part of a slice -/
def tO (K : PySem.W.Frag) (W : WX) (C : Cl) (a : Option E) : TO := fun σ H Q => ∃ ρ e h, REnv K ρ H e σ ∧ Rep K ρ h H ∧ PostG (fun _ _ m o => m = o) K W σ ρ H (Eo.den C a e h) Q
theorem snd_none : PO X none (tO X.K W C none) := by
  refine ⟨fun pins s σ H Q I ⟨ρ, e, h, re, rp, po⟩ => po_none.run pins s σ H Q I ?_⟩
  simp only [Eo.den] at po
  exact po.here rp rfl
theorem snd_some (ha : PE X pa (tI X.K W C a)) : PO X (some pa) (tO X.K W C (some a)) := by
  refine ⟨fun pins s σ H Q I ⟨ρ, e, h, re, rp, po⟩ => (po_some ha).run pins s σ H Q I ?_⟩
  simp only [Eo.den] at po
  refine ⟨ρ, e, h, re, rp, (PostG.bind (R := RepV X.K) po).imp fun x H1 ⟨ρ1, h1, mx, x1, rp1, qx, po1⟩ => ?_⟩
  split at po1
  · exact ⟨_, repInt qx, po1.here rp1 rfl⟩
  · exact po1.elim
theorem snd_sl {lo hi : Option Expr} {l u : Option E} {p2 : Pos} (ha : PE X pa (tI X.K W C a)) (hl : PO X lo (tO X.K W C l)) (hu : PO X hi (tO X.K W C u)) : PE X (.Subscript pa (.Slice lo hi none p2) pos) (tI X.K W C (.sl a l u)) := by
  refine PEi (pe_slice sl_M ha hl hu) fun σ H Q ⟨ρ, e, h, re, rp, po⟩ => ?_
  simp only [E.den] at po
  refine ⟨ρ, e, h, re, rp, (PostG.bind (R := RepV X.K) po).imp fun x H1 ⟨ρ1, h1, mx, x1, rp1, qx, po1⟩ => ?_⟩
  refine ⟨ρ1, e, h1, re.mono rp x1, rp1, (PostG.bind (R := fun _ _ m o => m = o) po1).imp fun y H2 ⟨ρ2, h2, my, x2, rp2, qy, po2⟩ => ?_⟩
  refine ⟨ρ2, e, h2, (re.mono rp x1).mono rp1 x2, rp2, (PostG.bind (R := fun _ _ m o => m = o) po2).imp fun z H3 ⟨ρ3, h3, mz, x3, rp3, qz, po3⟩ => ?_⟩
  subst qy
  subst qz
  obtain ⟨m, h', e3, q⟩ := po3.of_oP
  exact ⟨ρ3, h3, mx, m, h', rp3, (qx.mono rp1 x2).mono rp2 x3, e3, q⟩

/-! ### dicts -/
theorem Rep.newD {ρ : List Addr} {h : MH} {H : Hp} (r : Rep X.K ρ h H) {Q : VK} (hQ : ∀ ρ' H' w, Ext ρ H ρ' H' → Rep X.K ρ' (h ++ [.dct [] []]) H' → RepV X.K ρ' H' (.loc h.length) w → Q w H') :
    ∀ p, H p = none → Q (.ref p) (upd H p (.dK [])) := fun p hp =>
  hQ _ _ _ (ext_add hp) (r.add hp ⟨[], upd_same, ⟨rfl, .nil⟩, .nil⟩) (locRep (by rw [← r.len, List.getElem?_concat_length]))
theorem snd_dnew : PE X (.Dict [] [] pos) (tI X.K W C .dnew) := by
  refine PEi pe_dnewK fun σ H Q ⟨ρ, e, h, re, rp, po⟩ => ?_
  simp only [E.den] at po
  exact rp.newD po
theorem isD_of {ρ : List Addr} {h : MH} {H : Hp} {m : MV} {x : V} (rp : Rep X.K ρ h H) (q : RepV X.K ρ H m x) (e : (dctO m h).isSome = true) : ∃ a, x = .ref a ∧ IsD H a := by
  obtain ⟨d, ed⟩ := Option.isSome_iff_exists.mp e
  obtain ⟨l, a, vs, rfl, hy, e1, rfl, e2, e3, z⟩ := rp.dct q ed
  exact ⟨a, rfl, .inl ⟨_, .inl e2⟩⟩
theorem snd_dget {apos cpos : Pos} (hu : X.A.units + 1 < cLine) (ha : PE X pa (tI X.K W C a)) (hb : PE X pb (tI X.K W C b)) (m : M1 X pa "get" apos pb cpos) : PE X (.Call (.Attribute pa "get" apos) [pb] [] cpos) (tI X.K W C (.dget a b)) := by
  refine PEi (pe_dget1 hu ha hb m) fun σ H Q ⟨ρ, e, h, re, rp, po⟩ => ?_
  simp only [E.den] at po
  refine ⟨ρ, e, h, re, rp, (PostG.bind (R := RepV X.K) po).imp fun x H1 ⟨ρ1, h1, mx, x1, rp1, qx, po1⟩ => ?_⟩
  split at po1
  · rename_i hd
    obtain ⟨p, rfl, isd⟩ := isD_of rp1 qx hd
    refine ⟨p, rfl, isd, ρ1, e, h1, re.mono rp x1, rp1, (PostG.bind (R := RepV X.K) po1).imp fun y H2 ⟨ρ2, h2, my, x2, rp2, qy, po2⟩ => ?_⟩
    obtain ⟨v, ev, po3⟩ := po2.of_oR1
    obtain ⟨d, ed, ev⟩ := bind_some' ev
    obtain ⟨o, eg, ev⟩ := Option.map_eq_some_iff.mp ev
    obtain ⟨p2, u, e5, g, ru⟩ := rp2.dget (qx.mono rp1 x2) qy ed eg
    cases e5
    refine ⟨u, g, ?_⟩
    subst ev
    cases o with
    | none => cases u with
      | none => exact po3.here rp2 nonRep
      | some _ => exact ru.elim
    | some m => cases u with
      | none => exact ru.elim
      | some z => exact po3.here rp2 ru
  · exact po1.elim
theorem snd_dget2 {apos cpos : Pos} {pc : Expr} {c : E} (hu : X.A.units + 1 < cLine) (ha : PE X pa (tI X.K W C a)) (hb : PE X pb (tI X.K W C b)) (hc : PE X pc (tI X.K W C c)) (m : M2 X pa "get" apos pb pc cpos) : PE X (.Call (.Attribute pa "get" apos) [pb, pc] [] cpos) (tI X.K W C (.dget2 a b c)) := by
  refine PEi (pe_dget2 hu ha hb hc m) fun σ H Q ⟨ρ, e, h, re, rp, po⟩ => ?_
  simp only [E.den] at po
  refine ⟨ρ, e, h, re, rp, (PostG.bind (R := RepV X.K) po).imp fun x H1 ⟨ρ1, h1, mx, x1, rp1, qx, po1⟩ => ?_⟩
  split at po1
  · rename_i hd
    obtain ⟨p, rfl, isd⟩ := isD_of rp1 qx hd
    refine ⟨p, rfl, isd, ρ1, e, h1, re.mono rp x1, rp1, (PostG.bind (R := RepV X.K) po1).imp fun y H2 ⟨ρ2, h2, my, x2, rp2, qy, po2⟩ => ?_⟩
    refine ⟨ρ2, e, h2, (re.mono rp x1).mono rp1 x2, rp2, (PostG.bind (R := RepV X.K) po2).imp fun z H3 ⟨ρ3, h3, mz, x3, rp3, qz, po3⟩ => ?_⟩
    obtain ⟨v, ev, po4⟩ := po3.of_oR1
    obtain ⟨d, ed, ev⟩ := bind_some' ev
    obtain ⟨o, eg, ev⟩ := Option.map_eq_some_iff.mp ev
    obtain ⟨p2, u, e5, g, ru⟩ := rp3.dget ((qx.mono rp1 x2).mono rp2 x3) (qy.mono rp2 x3) ed eg
    cases e5
    refine ⟨u, g, ?_⟩
    subst ev
    cases o with
    | none => cases u with
      | none => exact po4.here rp3 qz
      | some _ => exact ru.elim
    | some m => cases u with
      | none => exact ru.elim
      | some z => exact po4.here rp3 ru
  · exact po1.elim

/-! ### calls -/
theorem snd_call {k i : Nat} {f : Addr} {fd : FuncData} {ps : List Str} {x : Str} {p : Pos} (F : FnOk X.prog X.w X.K X.mg X.base (L2.CX X.prog X.w) k f fd ps (spI X.K C i)) (hr : Room k X.A) (hg : Gl X x) (hm : X.mg x = some (.ref f))
    (hk : PySem.W.keepIn X.K (.ref f) = true) (hb : Binds X.K fd ps []) (tk : Takes X W) (ha : PA X (pa :: es) (tIs X.K W C as)) (hdb : (x == ("__debug__" : Str)) = false) (he : starEach (pa :: es) X.env = (false, eval pa X.env) :: starEach es X.env)
    (hpl : (backTo pos (starEach es X.env)).any (·.1) = false) : PE X (.Call (.Name x p) (pa :: es) [] pos) (tI X.K W C (.call i as)) := by
  refine PEi (pe_callS F hr hg hm hk hb (passAt tk) ha hdb he hpl) fun σ H Q ⟨ρ, e, h, re, rp, po⟩ => ?_
  simp only [E.den] at po
  refine ⟨ρ, e, h, re, rp, (PostG.bind (R := RepVs X.K) po).imp fun xs H1 ⟨ρ1, h1, ms, x1, rp1, qs, po1⟩ => ?_⟩
  exact ⟨ρ1, h1, ms, rp1, qs, po1⟩
theorem snd_call0 {k i : Nat} {f : Addr} {fd : FuncData} {ps : List Str} {x : Str} {p : Pos} (F : FnOk X.prog X.w X.K X.mg X.base (L2.CX X.prog X.w) k f fd ps (spI X.K C i)) (hr : Room k X.A) (hg : Gl X x) (hm : X.mg x = some (.ref f))
    (hk : PySem.W.keepIn X.K (.ref f) = true) (hb : Binds X.K fd ps []) (tk : Takes X W) (hdb : (x == ("__debug__" : Str)) = false) : PE X (.Call (.Name x p) [] [] pos) (tI X.K W C (.call i [])) := by
  refine ⟨fun pins s σ H Q I ⟨ρ, e, h, re, rp, po⟩ => ?_⟩
  simp only [E.den, Es.den, Res.bind_ok] at po
  refine wpAny_Call_Name_kw (ld_glob I hg hm ?_ hdb)
  exact PySem.W.callWith_K0 I.kIn hk (run_fnS (us := []) F hr hb (passAt tk σ) I .nil ⟨ρ, h, [], rp, .nil, po⟩)
/-- a built-in function -/
theorem snd_bi {b : Bi} {id : String} {x : Str} {p : Pos} (hc : CallR X (.builtin id) (rsM X.K (biO b))) (hg : Gl X x) (hm : X.mg x = none) (hv : bootBuiltins x = some (.builtin id)) (ha : PA X (pa :: es) (tIs X.K W C as)) (hn : x ≠ "__name__") (hdb : (x == ("__debug__" : Str)) = false)
    (he : starEach (pa :: es) X.env = (false, eval pa X.env) :: starEach es X.env) (hpl : (backTo pos (starEach es X.env)).any (·.1) = false) : PE X (.Call (.Name x p) (pa :: es) [] pos) (tI X.K W C (.bi b as)) := by
  refine PEi (pe_callB hc hg hm hv ha hn hdb he hpl) fun σ H Q ⟨ρ, e, h, re, rp, po⟩ => ?_
  simp only [E.den] at po
  refine ⟨ρ, e, h, re, rp, (PostG.bind (R := RepVs X.K) po).imp fun xs H1 ⟨ρ1, h1, ms, x1, rp1, qs, po1⟩ => ?_⟩
  obtain ⟨m, h', e3, q⟩ := po1.of_oP
  exact ⟨ρ1, h1, ms, m, h', rp1, qs, e3, q⟩
/-- a built-in type -/
theorem snd_ty {b : Bi} {T : String} {x : Str} {p : Pos} (hc : CallR X (.type T) (rsM X.K (biO b))) (hg : Gl X x) (hm : X.mg x = none) (hv : bootBuiltins x = some (.type T)) (ha : PA X (pa :: es) (tIs X.K W C as)) (hn : x ≠ "__name__") (hdb : (x == ("__debug__" : Str)) = false)
    (he : starEach (pa :: es) X.env = (false, eval pa X.env) :: starEach es X.env) (hpl : (backTo pos (starEach es X.env)).any (·.1) = false) : PE X (.Call (.Name x p) (pa :: es) [] pos) (tI X.K W C (.bi b as)) := by
  refine PEi (pe_callTy hc hg hm hv ha hn hdb he hpl) fun σ H Q ⟨ρ, e, h, re, rp, po⟩ => ?_
  simp only [E.den] at po
  refine ⟨ρ, e, h, re, rp, (PostG.bind (R := RepVs X.K) po).imp fun xs H1 ⟨ρ1, h1, ms, x1, rp1, qs, po1⟩ => ?_⟩
  obtain ⟨m, h', e3, q⟩ := po1.of_oP
  exact ⟨ρ1, h1, ms, m, h', rp1, qs, e3, q⟩
theorem bind_assoc {α β γ : Type} {r : Res α} {f : α → MH → Res β} {g : β → MH → Res γ} : (r.bind f).bind g = r.bind fun a h => (f a h).bind g := by cases r <;> rfl
theorem rngOk_iff {i : Int} (h : rngOk i = true) : -(2 ^ 62) ≤ i ∧ i < 2 ^ 62 := by
  unfold rngOk at h
  simp only [Bool.and_eq_true, decide_eq_true_eq] at h
  exact h
/-- list(range(..)) -/
theorem lrng_fin {ρ : List Addr} {h : MH} {H : Hp} {e : En} {σ : L2.St} {m1 m2 m : MV} {h' : MH} {x y : V} {Q : VK} (rp : Rep X.K ρ h H) (qx : RepV X.K ρ H m1 x) (qy : RepV X.K ρ H m2 y) (e3 : biO .lrng [m1, m2] h = some (m, h'))
    (q : ∀ ρ' H' w, Ext ρ H ρ' H' → Rep X.K ρ' h' H' → RepV X.K ρ' H' m w → Q w H') : ∃ i j, x = .int i ∧ y = .int j ∧ (RgOk i j ∧ ∀ q, H q = none → Q (.ref q) (upd H q (.lst (rgV i j)))) := by
  cases m1 with
  | int i =>
    cases m2 with
    | int j =>
      simp only [biO, biL] at e3
      split at e3
      · rename_i hz
        cases e3
        simp only [Bool.and_eq_true] at hz
        obtain ⟨z1, z2, z3⟩ := hz
        unfold lenOk at z3
        simp only [decide_eq_true_eq] at z3
        obtain ⟨a1, a2⟩ := rngOk_iff z1
        obtain ⟨a3, a4⟩ := rngOk_iff z2
        refine ⟨_, _, repInt qx, repInt qy, ⟨a1, a2, a3, a4, by simpa using z3⟩, ?_⟩
        have e4 : ∀ a b : Int, rgV a b = ((List.range (b - a).toNat).map fun (k : Nat) => a + (k : Int)).map V.int := fun a b => by unfold rgV; rw [List.map_map]; rfl
        rw [e4]
        exact rp.newL repVs_ints q
      · cases e3
    | _ => cases e3
  | _ => cases e3
theorem snd_lrng1 {p p2 pos2 : Pos} (hc : X.calm = true) (hg : Gl X "list") (hm : X.mg "list" = none) (hg2 : Gl X "range") (hm2 : X.mg "range" = none) (ha : PE X pa (tI X.K W C a)) (hs : starEach [pa] X.env = (false, eval pa X.env) :: starEach [] X.env) :
    PE X (.Call (.Name "list" p) [.Call (.Name "range" p2) [pa] [] pos2] [] pos) (tI X.K W C (.bi .lrng [.lit (.int 0), a])) := by
  refine PEi (pe_listRg hc hg hm (prg_1 hg2 hm2 ha hs)) fun σ H Q ⟨ρ, e, h, re, rp, po⟩ => ?_
  simp only [E.den, Es.den, Res.bind_ok, bind_assoc] at po
  refine ⟨ρ, e, h, re, rp, (PostG.bind (R := RepV X.K) po).imp fun x H1 ⟨ρ1, h1, mx, x1, rp1, qx, po1⟩ => ?_⟩
  obtain ⟨m, h', e3, q⟩ := po1.of_oP
  obtain ⟨i, j, e1, e2, e4⟩ := lrng_fin (e := e) (σ := σ) rp1 (intRep (i := 0)) qx e3 q
  cases e1
  exact ⟨j, e2, e4⟩
theorem snd_lrng2 {p p2 pos2 : Pos} (hc : X.calm = true) (hg : Gl X "list") (hm : X.mg "list" = none) (hg2 : Gl X "range") (hm2 : X.mg "range" = none) (ha : PE X pa (tI X.K W C a)) (hb : PE X pb (tI X.K W C b)) (hs : starEach [pa, pb] X.env = (false, eval pa X.env) :: starEach [pb] X.env) (hs1 : starEach [pb] X.env = (false, eval pb X.env) :: starEach [] X.env) :
    PE X (.Call (.Name "list" p) [.Call (.Name "range" p2) [pa, pb] [] pos2] [] pos) (tI X.K W C (.bi .lrng [a, b])) := by
  refine PEi (pe_listRg hc hg hm (prg_2 hg2 hm2 ha hb hs hs1 (by rw [hs1]; rfl))) fun σ H Q ⟨ρ, e, h, re, rp, po⟩ => ?_
  simp only [E.den, Es.den, Res.bind_ok, bind_assoc] at po
  refine ⟨ρ, e, h, re, rp, (PostG.bind (R := RepV X.K) po).imp fun x H1 ⟨ρ1, h1, mx, x1, rp1, qx, po1⟩ => ?_⟩
  refine ⟨ρ1, e, h1, re.mono rp x1, rp1, (PostG.bind (R := RepV X.K) po1).imp fun y H2 ⟨ρ2, h2, my, x2, rp2, qy, po2⟩ => ?_⟩
  obtain ⟨m, h', e3, q⟩ := po2.of_oP
  obtain ⟨i, j, e1, e2, e4⟩ := lrng_fin (e := e) (σ := σ) rp2 (qx.mono rp1 x2) qy e3 q
  exact ⟨i, j, e1, e2, e4⟩
/-- sorted(set(xs)) -/
theorem dedI_mem : ∀ {ns : List Int} {k : Int}, k ∈ dedI ns ↔ k ∈ ns
  | [], k => Iff.rfl
  | x :: r, k => by
    unfold dedI
    by_cases h : x ∈ r
    · rw [if_pos h, dedI_mem, List.mem_cons]
      exact ⟨.inr, fun q => q.elim (fun e => e ▸ h) id⟩
    · rw [if_neg h, List.mem_cons, List.mem_cons, dedI_mem]
theorem dedI_nd : ∀ {ns : List Int}, (dedI ns).Nodup
  | [] => List.nodup_nil
  | x :: r => by
    unfold dedI
    by_cases h : x ∈ r
    · rw [if_pos h]; exact dedI_nd
    · rw [if_neg h, List.nodup_cons]
      exact ⟨fun m => h (dedI_mem.mp m), dedI_nd⟩
theorem setI_mem {ns : List Int} {k : Int} : k ∈ setI ns ↔ k ∈ ns := by
  unfold setI
  rw [(List.mergeSort_perm _ _).mem_iff, dedI_mem]
theorem setI_pw {ns : List Int} : (setI ns).Pairwise (· < ·) :=
  L2.lt_of_le_nodup _ (sortI_pw _) ((List.mergeSort_perm _ _).nodup_iff.mpr dedI_nd)
theorem asc_one : ∀ {xs ys : List Int}, xs.Pairwise (· < ·) → ys.Pairwise (· < ·) → (∀ k, k ∈ xs ↔ k ∈ ys) → xs = ys := by
  intro xs ys a b h
  have p : xs.Perm ys := (List.perm_ext_iff_of_nodup (a.imp fun h => Int.ne_of_lt h) (b.imp fun h => Int.ne_of_lt h)).mpr h
  exact sorted_one p (a.imp fun h => Int.le_of_lt h) (b.imp fun h => Int.le_of_lt h)
def tSortSet (K : PySem.W.Frag) (ta : TE) : TE := fun σ H Q => ta σ H fun x H1 => ∃ (l : Addr) (ns : List Int), x = .ref l ∧ SqL K H1 l (ns.map V.int) ∧ ns.length < 4000 ∧
  ∀ (ms : List Int) (p : Addr), ms.Pairwise (· < ·) → (∀ k, k ∈ ms ↔ k ∈ ns) → H1 p = none → Q (.ref p) (upd H1 p (.lst (ms.map V.int)))
theorem pe_sortSet {ta : TE} {p p2 q : Pos} (hc : X.calm = true) (hg : Gl X "sorted") (hm : X.mg "sorted" = none) (hg2 : Gl X "set") (hm2 : X.mg "set" = none) (ha : PE X pa ta) (na : starEach [pa] X.env = (false, eval pa X.env) :: starEach [] X.env) :
    PE X (.Call (.Name "sorted" p) [.Call (.Name "set" p2) [pa] [] q] [] pos) (tSortSet X.K ta) := by
  refine ⟨fun pins s σ H Q I h => ?_⟩
  refine Call_ (ld_blt I hg hm PyProof.Rows.boot_sorted ?_)
  refine PyProof.Rows.callWith_builtin1 (PyProof.Rows.args_cons ?_ rfl) rfl rfl
  refine Call_ (ld_blt I hg2 hm2 PyProof.Rows.boot_set ?_)
  refine PyProof.Rows.callWith_type1 (PyProof.Rows.args_cons (thn (ha.run pins s σ H _ I h) fun v s1 ⟨x, H1, I1, r1, q1⟩ => PyProof.Rows.args_nil ?_) na) na rfl
  obtain ⟨l, ns, rfl, hq, few, q1⟩ := q1
  cases r1
  obtain ⟨its, r, pl, hz⟩ := I1.list hq
  refine setOf_list ns (I1.ok.hd hc) pl.isList (by simpa using RZ.intsAre_vals r) (by unfold scanBound; omega) fun h' tk c R le hk => ?_
  refine PyProof.Rows.args_nil ?_
  have I2 : Inv X pins σ H1 { s1 with heap := h', toks := tk } := I1.kept hk
  have R2 : SetR X.w ({ s1 with heap := h', toks := tk } : Shared).heap s1.heap.objs.size (fun j => decide (j ∈ ns)) c := R
  clear R
  revert I2 R2
  generalize ({ s1 with heap := h', toks := tk } : Shared) = sB
  intro I2 R2
  refine sortedOf_set R2 (I2.ok.hd hc) fun s2 p out c ns' k g o hp hg hi hs hm hl => ?_
  have hn : H1 p = none := I2.hok.fresh hp
  have J : Inv X pins σ (upd H1 p (.lst (ns'.map V.int))) { sB with heap := s2.heap, gens := s2.gens, drawn := s2.drawn, toks := s2.toks } :=
    I2.call (ch := []) (Un.laid k hp hn) (I2.hok.laid k hp ⟨by rw [List.length_map]; exact hl, out.toList, c, vals_of_ints hi, hg⟩) (by rw [g]; exact I2.bare) (fun _ z => nomatch z)
  have e : s2 = { sB with heap := s2.heap, gens := s2.gens, drawn := s2.drawn, toks := s2.toks } := by
    cases s2
    cases sB
    cases o
    rfl
  rw [e]
  exact ⟨.ref p, _, J, rfl, q1 ns' p hs (fun k => by rw [hm k]; simp) hn⟩
theorem snd_sset {p p2 pos2 : Pos} (hc : X.calm = true) (hg : Gl X "sorted") (hm : X.mg "sorted" = none) (hg2 : Gl X "set") (hm2 : X.mg "set" = none) (ha : PE X pa (tI X.K W C a)) (hs : starEach [pa] X.env = (false, eval pa X.env) :: starEach [] X.env) :
    PE X (.Call (.Name "sorted" p) [.Call (.Name "set" p2) [pa] [] pos2] [] pos) (tI X.K W C (.bi .sset [a])) := by
  refine PEi (pe_sortSet hc hg hm hg2 hm2 ha hs) fun σ H Q ⟨ρ, e, h, re, rp, po⟩ => ?_
  simp only [E.den, Es.den, Res.bind_ok, bind_assoc] at po
  refine ⟨ρ, e, h, re, rp, (PostG.bind (R := RepV X.K) po).imp fun x H1 ⟨ρ1, h1, mx, x1, rp1, qx, po1⟩ => ?_⟩
  obtain ⟨m, h', e3, q⟩ := po1.of_oP
  simp only [biO, biL] at e3
  split at e3
  · rename_i ns en
    split at e3
    · rename_i few
      cases e3
      cases e2 : listO mx h1 with
      | none => rw [e2] at en; cases en
      | some xs =>
        rw [e2, Option.bind_some] at en
        obtain ⟨l, ws, rfl, s1, z⟩ := rp1.lists qx e2
        rw [z.ints en] at s1
        refine ⟨l, ns, rfl, s1, few, fun ms p pw mm hp => ?_⟩
        have e4 : ms = setI ns := asc_one pw setI_pw fun k => by rw [mm k, setI_mem]
        subst e4
        exact rp1.newL repVs_ints q p hp
    · cases e3
  · cases e3
theorem snd_isTy {b : Bi} {n : String} {x : Str} {p : Pos} (hb : CallR X (.builtin "isinstance") (fun vs H Q => ∃ x, vs = [x, .ty n] ∧ rsM X.K (biO b) [x] H Q)) (hg : Gl X x) (hm : X.mg x = none) (hv : bootBuiltins x = some (.builtin "isinstance")) (ha : PE X pa (tI X.K W C a)) (ht : PE X pb (tC (.ty n))) (hn : x ≠ "__name__") (hdb : (x == ("__debug__" : Str)) = false)
    (hs : starEach [pa, pb] X.env = [(false, eval pa X.env), (false, eval pb X.env)]) (hs1 : starEach [pb] X.env = [(false, eval pb X.env)]) : PE X (.Call (.Name x p) [pa, pb] [] pos) (tI X.K W C (.bi b [a])) := by
  have hA : PA X [pa, pb] (tCons (tI X.K W C a) (tCons (tC (.ty n)) tNil)) := pa_cons ha (pa_cons ht pa_nil (by rw [hs1]; rfl)) (by rw [hs, hs1])
  refine PEi (pe_callB hb hg hm hv hA hn hdb (by rw [hs, hs1]) (by rw [hs1]; rfl)) fun σ H Q ⟨ρ, e, h, re, rp, po⟩ => ?_
  simp only [E.den, Es.den] at po
  refine ⟨ρ, e, h, re, rp, ?_⟩
  cases hd : E.den C a e h with
  | ok v h1 =>
    rw [hd] at po
    simp only [Res.bind_ok] at po
    intro ρ' H' w xe rp1 qx
    refine ⟨w, rfl, ?_⟩
    obtain ⟨m, h', e3, q⟩ := (PostG.ext po xe).of_oP
    exact ⟨ρ', h1, [v], m, h', rp1, .one qx, e3, q⟩
  | exc y h1 =>
    rw [hd] at po
    exact po
  | bad =>
    rw [hd] at po
    exact po
/-- a method of a list -/
theorem recv_ok {K : PySem.W.Frag} {ρ : List Addr} {h : MH} {H : Hp} {m : Mt} {x : MV} {w : V} (rp : Rep K ρ h H) (q : RepV K ρ H x w) (e : recvO m x h = true) : tyV K "list" w H := by
  unfold recvO at e
  split at e
  · split at e
    · rename_i l xs hx
      obtain ⟨b, vs, rfl, s1, _⟩ := rp.lists (xs := xs) q (by unfold listO; simp only [hx])
      exact .inl ⟨rfl, vs, s1⟩
    · cases e
  · cases e
theorem snd_mt0 {m : Mt} {o : Expr} {name : Str} {apos : Pos} {id : String} (slot : Slot "list" name id) (hty : typeOf (.builtin id) = pure (.type "method_descriptor")) (hm : MtR X id (rmM X.K (mtO m))) (ho : PE X o (tI X.K W C a))
    (hbase : attributeBase o name X.env (eval o X.env) = eval o X.env) (hline : (apos.endLine == pos.line) = true) : PE X (.Call (.Attribute o name apos) [] [] pos) (tI X.K W C (.mt m a [])) := by
  refine PEi (pe_bm0 PySem.F.plainAttrs_list slot hty hm ho hbase hline) fun σ H Q ⟨ρ, e, h, re, rp, po⟩ => ?_
  simp only [E.den, Es.den] at po
  refine ⟨ρ, e, h, re, rp, (PostG.bind (R := RepV X.K) po).imp fun x H1 ⟨ρ1, h1, mx, x1, rp1, qx, po1⟩ => ?_⟩
  split at po1
  · rename_i hr
    simp only [Res.bind_ok] at po1
    obtain ⟨v, h', e3, q⟩ := po1.of_oP
    exact ⟨recv_ok rp1 qx hr, ρ1, h1, mx, [], v, h', rp1, qx, .nil, e3, q⟩
  · exact po1.elim
theorem snd_mt1 {m : Mt} {o : Expr} {name : Str} {apos : Pos} {id : String} {b : E} (slot : Slot "list" name id) (hty : typeOf (.builtin id) = pure (.type "method_descriptor")) (hm : MtR X id (rmM X.K (mtO m))) (ho : PE X o (tI X.K W C a))
    (hbase : attributeBase o name X.env (eval o X.env) = eval o X.env) (hline : (apos.endLine == pos.line) = true) (hb : PE X pb (tI X.K W C b)) (hs : starEach [pb] X.env = [(false, eval pb X.env)]) : PE X (.Call (.Attribute o name apos) [pb] [] pos) (tI X.K W C (.mt m a [b])) := by
  have hA : PA X [pb] (tIs X.K W C [b]) := snd_cons hb snd_nil (by rw [hs]; rfl)
  refine PEi (pe_bm PySem.F.plainAttrs_list slot hty hm ho hA hbase (by rw [hs]; rfl) hline (by rw [hs]; rfl) rfl) fun σ H Q ⟨ρ, e, h, re, rp, po⟩ => ?_
  simp only [E.den] at po
  refine ⟨ρ, e, h, re, rp, (PostG.bind (R := RepV X.K) po).imp fun x H1 ⟨ρ1, h1, mx, x1, rp1, qx, po1⟩ => ?_⟩
  split at po1
  · rename_i hr
    refine ⟨recv_ok rp1 qx hr, ρ1, e, h1, re.mono rp x1, rp1, (PostG.bind (R := RepVs X.K) po1).imp fun xs H2 ⟨ρ2, h2, ms, x2, rp2, qs, po2⟩ => ?_⟩
    obtain ⟨v, h', e3, q⟩ := po2.of_oP
    exact ⟨ρ2, h2, mx, ms, v, h', rp2, qx.mono rp1 x2, qs, e3, q⟩
  · exact po1.elim
end
end MP
end
section
set_option Elab.async false
set_option linter.all false
set_option maxRecDepth 100000
set_option maxHeartbeats 4000000
/-! MP, part ex: instances, displays, places in tuples, all of a range test. -/
namespace MP
open PySem PySem.Spec PyProof.Rows L2
section
variable {X : Cx} {W : WX} {C : Cl} {pa pb : Expr} {a b : E} {pos : Pos} {es : List Expr} {as : List E}
theorem Rep.side {K : PySem.W.Frag} {ρ : List Addr} {h : MH} {H : Hp} (r : Rep K ρ h H) {p : Addr} (hp : H p = none) {u : HO} : Rep K ρ h (upd H p u) := by
  refine ⟨r.len, r.nd, fun l o e => ?_⟩
  obtain ⟨a, ea, q⟩ := r.obj l o e
  refine ⟨a, ea, q.mono r (ext_new hp) ?_⟩
  have : a ≠ p := fun z => r.free hp (z ▸ List.mem_of_getElem? ea)
  rw [upd_ne this]
/-! ### attributes -/
theorem snd_fld {cs : List Str} {f : Str} (hF : ∀ c ∈ cs, L2.Cls X.K (He.ga X.K c) ∧ NoAttr X.K (He.ga X.K c) f) (ha : PE X pa (tI X.K W C a)) (hb : attributeBase pa f X.env (eval pa X.env) = eval pa X.env) : PE X (.Attribute pa f pos) (tI X.K W C (.fld cs a f)) := by
  refine PEi (pe_fld ha hb) fun σ H Q ⟨ρ, e, h, re, rp, po⟩ => ?_
  simp only [E.den] at po
  refine ⟨ρ, e, h, re, rp, (PostG.bind (R := RepV X.K) po).imp fun x H1 ⟨ρ1, h1, mx, x1, rp1, qx, po1⟩ => ?_⟩
  obtain ⟨v, ev, po2⟩ := po1.of_oR1
  unfold fldO at ev
  obtain ⟨o, eo, ev1⟩ := bind_some' ev
  split at ev1
  · rename_i hc
    obtain ⟨i, ei, ev2⟩ := bind_some' ev1
    obtain ⟨l, p, dx, vs, rfl, hy, e1, rfl, e2, e3, z⟩ := rp1.ins qx eo
    obtain ⟨k1, k2⟩ := hF o.1 (by simpa using hc)
    obtain ⟨w, ew, qw⟩ := z.get ev2
    exact ⟨p, _, dx, _, w, rfl, e2, k1, k2, by rw [look_zip e3.1, ei]; exact ew, po2.here rp1 qw⟩
  · cases ev1
/-! ### methods -/
theorem mcall_is {o : Expr} {name : Str} {apos : Pos} {env : Env} (hb : attributeBase o name env (eval o env) = eval o env) (hf : methodCallForm (es.length + 0) (backTo pos (starEach es env)) (backToKw pos (keywordEach [] env)) = true) (hl : (apos.endLine == pos.line) = true) :
    eval (.Call (.Attribute o name apos) es [] pos) env = (do
      let ov ← eval o env
      standAt apos.atName
      let (f, first) ← holding [ov] (getMethod ov name (do return (← importBound o env).getD true))
      callWith pos f first (backTo pos (starEach es env)) (backToKw pos (keywordEach [] env))) := by
  rw [arm_eval_Call, hb]
  refine congrArg _ (funext fun ov => congrArg _ (funext fun _ => ?_))
  unfold methodCall
  rw [show (es.length + ([] : List Keyword).length) = es.length + 0 from rfl, hf]
  unfold calleeOf methodCallPos
  simp only [if_true, Bool.not_true, Bool.false_or, hl]
  rfl
/-- what must be known of the methods -/
structure MthOk (X : Cx) (C : Cl) (k : Nat) (m : Str) (p : Str × Nat) : Prop where
  cls : L2.Cls X.K (He.ga X.K p.1)
  fn : ∃ f fd ps, Meth X.K (He.ga X.K p.1) m f ∧ Binds X.K fd ps [] ∧ FnOk X.prog X.w X.K X.mg X.base (L2.CX X.prog X.w) k f fd ps (spI X.K C p.2)
theorem mem_look {α : Type} : ∀ {l : List (Str × α)} {x : Str} {v : α}, l.lookup x = some v → (x, v) ∈ l
  | [], _, _, h => by cases h
  | (y, u) :: l, x, v, h => by
    rw [List.lookup_cons] at h
    cases e : x == y with
    | true =>
      rw [e] at h
      have : x = y := by simpa using e
      subst this
      cases h
      exact List.mem_cons_self
    | false =>
      rw [e] at h
      exact List.mem_cons_of_mem _ (mem_look h)
/-- the method found -/
theorem meth_at {k : Nat} {cs : List (Str × Nat)} {m : Str} (hM : ∀ p ∈ cs, MthOk X C k m p) {ρ : List Addr} {h : MH} {H : Hp} {mx : MV} {x : V} {f : Nat} (rp : Rep X.K ρ h H) (qx : RepV X.K ρ H mx x)
    (hq : ((insO mx h).bind fun o => if (nIx o.2.1 m).isNone = true then cs.lookup o.1 else none) = some f) :
    ∃ l p Cc dx fs fa fd ps, mx = .loc l ∧ x = .ref p ∧ ρ[l]? = some p ∧ H p = some (.ins Cc dx fs) ∧ fs.lookup m = none ∧ L2.Cls X.K Cc ∧ Meth X.K Cc m fa ∧ Binds X.K fd ps [] ∧ FnOk X.prog X.w X.K X.mg X.base (L2.CX X.prog X.w) k fa fd ps (spI X.K C f) := by
  obtain ⟨o, eo, hq1⟩ := bind_some' hq
  split at hq1
  · rename_i hn
    obtain ⟨l, p, dx, vs, e0, hy, e1, e4, e2, e3, z⟩ := rp.ins qx eo
    obtain ⟨k1, fa, fd, ps, k2, k3, k4⟩ := hM _ (mem_look hq1)
    exact ⟨l, p, _, dx, _, fa, fd, ps, e0, e4, e1, e2, by rw [look_zip e3.1, Option.isNone_iff_eq_none.mp hn]; rfl, k1, k2, k3, k4⟩
  · cases hq1
theorem snd_meth {k : Nat} {cs : List (Str × Nat)} {m : Str} {apos : Pos} {pe : Expr} (hM : ∀ p ∈ cs, MthOk X C k m p) (hr : Room k X.A) (tk : Takes X W) (ha : PE X pa (tI X.K W C a)) (hA : PA X (pe :: es) (tIs X.K W C as))
    (hb : attributeBase pa m X.env (eval pa X.env) = eval pa X.env) (hf : methodCallForm ((pe :: es).length + 0) (backTo pos (starEach (pe :: es) X.env)) (backToKw pos (keywordEach [] X.env)) = true) (hl : (apos.endLine == pos.line) = true)
    (n1 : starEach (pe :: es) X.env = (false, eval pe X.env) :: starEach es X.env) (n2 : (backTo pos (starEach es X.env)).any (·.1) = false) :
    PE X (.Call (.Attribute pa m apos) (pe :: es) [] pos) (tI X.K W C (.meth cs m a as)) := by
  refine ⟨fun pins s σ H Q I ⟨ρ, e, h, re, rp, po⟩ => ?_⟩
  simp only [E.den] at po
  refine PySem.W.methodCall_KW (pl := (do return (← importBound pa X.env).getD true)) (thn (ha.run pins s σ H _ I ⟨ρ, e, h, re, rp, PostG.bind (R := RepV X.K) po⟩) fun u s1 ⟨x, H1, I1, rx, ρ1, h1, mx, x1, rp1, qx, po1⟩ => ?_) (mcall_is hb hf hl)
  split at po1
  · rename_i f hq
    obtain ⟨l, p, Cc, dx, fs, fa, fd, ps, rfl, rfl, e1, e2, e3, k1, k2, k3, k4⟩ := meth_at hM rp1 qx hq
    obtain rfl : u = Value.ref p := rx
    refine getmeth_ok I1 e2 k1 k2 e3 ?_
    have hA1 : tIs X.K W C as σ H1 fun vs H2 => spI X.K C f (.ref p :: vs) H2 Q (WE W σ) := by
      refine ⟨ρ1, e, h1, re.mono rp x1, rp1, (PostG.bind (R := RepVs X.K) po1).imp fun xs H2 ⟨ρ2, h2, ms, x2, rp2, qs, po2⟩ => ?_⟩
      exact ⟨ρ2, h2, .loc l :: ms, rp2, .cons (locRep (x2.at e1)) qs, po2⟩
    refine PySem.W.callWith_K (first := [.ref p]) (h₀ := X.base) I1.ok.mod.kin k2.kp (thn (hA.run pos pins s1 σ H1 _ I1 hA1) fun us s2 ⟨ws, H2, I2, r2, q2⟩ => ⟨I2.kIn, ?_⟩) n1 n2
    exact run_fnS (us := .ref p :: us) (vs := .ref p :: ws) k4 hr k3 (passAt tk σ) I2 (.cons rfl r2) q2
  · exact po1.elim
theorem snd_meth0 {k : Nat} {cs : List (Str × Nat)} {m : Str} {apos : Pos} (hM : ∀ p ∈ cs, MthOk X C k m p) (hr : Room k X.A) (tk : Takes X W) (ha : PE X pa (tI X.K W C a))
    (hb : attributeBase pa m X.env (eval pa X.env) = eval pa X.env) (hl : (apos.endLine == pos.line) = true) :
    PE X (.Call (.Attribute pa m apos) [] [] pos) (tI X.K W C (.meth cs m a [])) := by
  refine ⟨fun pins s σ H Q I ⟨ρ, e, h, re, rp, po⟩ => ?_⟩
  simp only [E.den] at po
  refine PySem.W.methodCall_KW (pl := (do return (← importBound pa X.env).getD true)) (thn (ha.run pins s σ H _ I ⟨ρ, e, h, re, rp, PostG.bind (R := RepV X.K) po⟩) fun u s1 ⟨x, H1, I1, rx, ρ1, h1, mx, x1, rp1, qx, po1⟩ => ?_) (mcall_is hb rfl hl)
  split at po1
  · rename_i f hq
    obtain ⟨l, p, Cc, dx, fs, fa, fd, ps, rfl, rfl, e1, e2, e3, k1, k2, k3, k4⟩ := meth_at hM rp1 qx hq
    obtain rfl : u = Value.ref p := rx
    refine getmeth_ok I1 e2 k1 k2 e3 ?_
    simp only [Es.den, Res.bind_ok] at po1
    exact PySem.W.callWith_K0 (first := [.ref p]) I1.kIn k2.kp (run_fnS (us := [.ref p]) (vs := [.ref p]) k4 hr k3 (passAt tk σ) I1 (.cons rfl .nil) ⟨ρ1, h1, [.loc l], rp1, .one (locRep e1), po1⟩)
  · exact po1.elim
/-! ### making -/
theorem passF (tk : Takes X W) : Passes (L2.CX X.prog X.w) X (fun _ _ _ => False) := fun pins σ H s e s' I c => tk e s' (XE.of_call I (fun _ _ _ z => z.elim) c)
/-- from the making's meaning to __init__'s promise -/
theorem mk_sp {C' : Cl} {i j : Nat} {c : Str} {σ : L2.St} (hC : ∀ xs h, C i xs h = .bad ∨ C i xs h = (C' j (.loc h.length :: xs) (h ++ [MO.ins c [] []])).bind fun v h1 => if v.isNon = true then .ok (.loc h.length) h1 else .bad)
    {ρ : List Addr} {h : MH} {H : Hp} {ms : List MV} {vs : List V} {Q : VK} (rp : Rep X.K ρ h H) (qs : RepVs X.K ρ H ms vs) (po : PostG (RepV X.K) X.K W σ ρ H (C i ms h) Q) :
    ∀ x dx, H x = none → H dx = none → dx ≠ x → spI X.K C' j (.ref x :: (vs ++ [])) (upd (upd H dx (.own x)) x (.ins (He.ga X.K c) dx [])) (fun v H2 => v = .non ∧ Q (.ref x) H2) fun _ _ _ => False := by
  intro x dx hx hdx hne
  have rp1 : Rep X.K ρ h (upd H dx (.own x)) := rp.side hdx
  have hx1 : upd H dx (.own x) x = none := by rw [upd_ne (Ne.symm hne)]; exact hx
  have rp2 : Rep X.K (ρ ++ [x]) (h ++ [.ins c [] []]) (upd (upd H dx (.own x)) x (.ins (He.ga X.K c) dx [])) := rp1.add hx1 ⟨dx, [], upd_same, ⟨rfl, .nil⟩, .nil⟩
  have x2 : Ext ρ H (ρ ++ [x]) (upd (upd H dx (.own x)) x (.ins (He.ga X.K c) dx [])) := (ext_new hdx).trans (ext_add hx1)
  have ex : (ρ ++ [x])[h.length]? = some x := by rw [← rp.len, List.getElem?_concat_length]
  rw [List.append_nil]
  refine ⟨_, _, .loc h.length :: ms, rp2, .cons (locRep ex) (qs.mono rp x2), ?_⟩
  rcases hC ms h with e | e
  · rw [e] at po
    exact po.elim
  · rw [e] at po
    cases hd : C' j (.loc h.length :: ms) (h ++ [MO.ins c [] []]) with
    | ok v h1 =>
      rw [hd] at po
      simp only [Res.bind_ok] at po
      intro ρ3 H3 b x3 rp3 qb
      split at po
      · rename_i hv
        cases v <;> first | (cases hv; done) | skip
        exact ⟨repNon qb, po ρ3 H3 _ (x2.trans x3) rp3 (locRep (x3.at ex))⟩
      · exact po.elim
    | exc y h1 => exact fun _ _ _ _ _ _ z => z.elim
    | bad =>
      rw [hd] at po
      exact po.elim
theorem snd_make {k i j : Nat} {C' : Cl} {c x : Str} {fa : Addr} {fd : FuncData} {ps : List Str} {p : Pos} {pe : Expr} (hC : ∀ xs h, C i xs h = .bad ∨ C i xs h = (C' j (.loc h.length :: xs) (h ++ [MO.ins c [] []])).bind fun v h1 => if v.isNon = true then .ok (.loc h.length) h1 else .bad)
    (M : L2.Mk X.K (He.ga X.K c) fa) (F : FnOk X.prog X.w X.K X.mg X.base (L2.CX X.prog X.w) k fa fd ps (spI X.K C' j)) (hr : Room (k + 1) X.A) (hg : Gl X x) (hm : X.mg x = some (.ref (He.ga X.K c))) (hb : Binds X.K fd ps []) (tk : Takes X W)
    (hA : PA X (pe :: es) (tIs X.K W C as)) (hdb : (x == ("__debug__" : Str)) = false) (n1 : starEach (pe :: es) X.env = (false, eval pe X.env) :: starEach es X.env) (n2 : (backTo pos (starEach es X.env)).any (·.1) = false) :
    PE X (.Call (.Name x p) (pe :: es) [] pos) (tI X.K W C (.call i as)) := by
  refine PEi (pe_make (dvs := []) (ds := []) M F hr hg hm hb .nil (passF tk) hA hdb n1 n2) fun σ H Q ⟨ρ, e, h, re, rp, po⟩ => ?_
  simp only [E.den] at po
  exact ⟨ρ, e, h, re, rp, (PostG.bind (R := RepVs X.K) po).imp fun xs H1 ⟨ρ1, h1, ms, x1, rp1, qs, po1⟩ => mk_sp hC rp1 qs po1⟩
theorem snd_make0 {k i j : Nat} {C' : Cl} {c x : Str} {fa : Addr} {fd : FuncData} {ps : List Str} {p : Pos} (hC : ∀ xs h, C i xs h = .bad ∨ C i xs h = (C' j (.loc h.length :: xs) (h ++ [MO.ins c [] []])).bind fun v h1 => if v.isNon = true then .ok (.loc h.length) h1 else .bad)
    (M : L2.Mk X.K (He.ga X.K c) fa) (F : FnOk X.prog X.w X.K X.mg X.base (L2.CX X.prog X.w) k fa fd ps (spI X.K C' j)) (hr : Room (k + 1) X.A) (hg : Gl X x) (hm : X.mg x = some (.ref (He.ga X.K c))) (hb : Binds X.K fd ps []) (tk : Takes X W)
    (hdb : (x == ("__debug__" : Str)) = false) : PE X (.Call (.Name x p) [] [] pos) (tI X.K W C (.call i [])) := by
  refine PEi (pe_make0 (dvs := []) (ds := []) M F hr hg hm hb .nil (passF tk) hdb) fun σ H Q ⟨ρ, e, h, re, rp, po⟩ => ?_
  simp only [E.den, Es.den, Res.bind_ok] at po
  exact mk_sp hC rp .nil po
/-- a call that is never let -/
theorem snd_callX {i : Nat} {f : Addr} {x : Str} {p : Pos} {pe : Expr} (hC : ∀ xs h, C i xs h = .bad) (hg : Gl X x) (hm : X.mg x = some (.ref f)) (hk : PySem.W.keepIn X.K (.ref f) = true)
    (hA : PA X (pe :: es) (tIs X.K W C as)) (hdb : (x == ("__debug__" : Str)) = false) (n1 : starEach (pe :: es) X.env = (false, eval pe X.env) :: starEach es X.env) (n2 : (backTo pos (starEach es X.env)).any (·.1) = false) :
    PE X (.Call (.Name x p) (pe :: es) [] pos) (tI X.K W C (.call i as)) := by
  refine ⟨fun pins s σ H Q I ⟨ρ, e, h, re, rp, po⟩ => ?_⟩
  simp only [E.den] at po
  refine wpAny_Call_Name_kw (ld_glob I hg hm ?_ hdb)
  refine PySem.W.callWith_K (h₀ := X.base) I.ok.mod.kin hk (thn (hA.run pos pins s σ H _ I ⟨ρ, e, h, re, rp, PostG.bind (R := RepVs X.K) po⟩) fun us s1 ⟨vs, H1, I1, r, ρ1, h1, ms, x1, rp1, qs, po1⟩ => ?_) n1 n2
  rw [hC] at po1
  exact po1.elim
theorem snd_callX0 {i : Nat} {x : Str} {p : Pos} (hC : ∀ xs h, C i xs h = .bad) : PE X (.Call (.Name x p) [] [] pos) (tI X.K W C (.call i [])) := by
  refine ⟨fun pins s σ H Q I ⟨ρ, e, h, re, rp, po⟩ => ?_⟩
  simp only [E.den, Es.den, Res.bind_ok, hC] at po
  exact po.elim
/-! ### t.index(x) -/
theorem snd_tidx {v : MV} {o : Expr} {p : Addr} {apos : Pos} (ho : PE X o (tC (.ref p))) (hv : ∀ ρ H, RepV X.K ρ H v (.ref p)) (hk : ∃ ob, X.K.lookup p = some ob ∧ ob.cls = .type "tuple" ∧ ob.dict = none) (hb : PE X pb (tI X.K W C b))
    (hbase : attributeBase o "index" X.env (eval o X.env) = eval o X.env) (hl : (apos.endLine == pos.line) = true) (hs : starEach [pb] X.env = [(false, eval pb X.env)]) : PE X (.Call (.Attribute o "index" apos) [pb] [] pos) (tI X.K W C (.tidx v b)) := by
  have hA : PA X [pb] (tCons (tI X.K W C b) tNil) := pa_cons hb pa_nil (by rw [hs]; rfl)
  refine PEi (pe_bm PySem.F.plainAttrs_tuple PySem.F.slot_tuple_index PySem.F.type_tuple_index mt_tidxM ho hA hbase (by rw [hs]; rfl) hl (by rw [hs]; rfl) rfl) fun σ H Q ⟨ρ, e, h, re, rp, po⟩ => ?_
  simp only [E.den] at po
  refine ⟨.inr (.inl ⟨rfl, hk⟩), ρ, e, h, re, rp, (PostG.bind (R := RepV X.K) po).imp fun x H1 ⟨ρ1, h1, mx, x1, rp1, qx, po1⟩ => ?_⟩
  obtain ⟨w, ew, po2⟩ := po1.of_oR1
  exact ⟨ρ1, h1, v, mx, w, x, rfl, rp1, hv _ _, qx, ew, fun z qz => po2.here rp1 qz⟩
/-! ### displays of dicts -/
def trsOf (K : PySem.W.Frag) (W : WX) (C : Cl) : List E → List (TE × TE)
  | a :: b :: r => (tI K W C a, tI K W C b) :: trsOf K W C r
  | _ => []
def cPairs (f : Expr → Option E) : List (Option Expr) → List Expr → Option (List E)
  | [], [] => some []
  | some k :: ks, v :: vs => match f k, f v, cPairs f ks vs with
    | some a, some b, some r => some (a :: b :: r)
    | _, _, _ => none
  | _, _ => none
theorem cPairs_len {f : Expr → Option E} : ∀ {ks : List (Option Expr)} {vs : List Expr} {as : List E}, cPairs f ks vs = some as → ks.length = vs.length ∧ as.length = 2 * ks.length ∧ ks.all (·.isSome) = true
  | [], [], _, h => by cases h; exact ⟨rfl, rfl, rfl⟩
  | [], _ :: _, _, h => by cases h
  | none :: _, _, _, h => by cases h
  | some k :: ks, [], _, h => by cases h
  | some k :: ks, v :: vs, as, h => by
    unfold cPairs at h
    split at h
    · rename_i a b r h1 h2 h3
      cases h
      obtain ⟨p, q, z⟩ := cPairs_len h3
      exact ⟨by simp [p], by simp [q]; omega, by simpa using z⟩
    · cases h
theorem cPairs_ok {f : Expr → Option E} (hf : ∀ pe e, f pe = some e → PE X pe (tI X.K W C e)) : ∀ {ks : List (Option Expr)} {vs : List Expr} {as : List E}, cPairs f ks vs = some as → PPs X pos ks vs (trsOf X.K W C as)
  | [], [], _, h => by cases h; exact pps_nil
  | [], _ :: _, _, h => by cases h
  | none :: _, _, _, h => by cases h
  | some k :: ks, [], _, h => by cases h
  | some k :: ks, v :: vs, as, h => by
    unfold cPairs at h
    split at h
    · rename_i a b r h1 h2 h3
      cases h
      exact pps_cons (hf _ _ h1) (hf _ _ h2) (cPairs_ok hf h3)
    · cases h
def flP : List (V × V) → List V
  | [] => []
  | p :: r => p.1 :: p.2 :: flP r
theorem tIs_cut {σ : L2.St} {H : Hp} {Q : List V → Hp → Prop} {a : E} {as : List E} (h : tIs X.K W C (a :: as) σ H Q) : tI X.K W C a σ H fun x H1 => tIs X.K W C as σ H1 fun xs H2 => Q (x :: xs) H2 := by
  obtain ⟨ρ, e, h, re, rp, po⟩ := h
  simp only [Es.den] at po
  refine ⟨ρ, e, h, re, rp, (PostG.bind (R := RepV X.K) po).imp fun x H1 ⟨ρ1, h1, mx, x1, rp1, qx, po1⟩ => ?_⟩
  refine ⟨ρ1, e, h1, re.mono rp x1, rp1, (PostG.bind (R := RepVs X.K) po1).imp fun xs H2 ⟨ρ2, h2, ms, x2, rp2, qs, po2⟩ => ?_⟩
  exact po2.here rp2 (.cons (qx.mono rp1 x2) qs)
theorem tIs_imp {σ : L2.St} {H : Hp} {Q Q' : List V → Hp → Prop} {as : List E} (h : tIs X.K W C as σ H Q) (f : ∀ vs H', Q vs H' → Q' vs H') : tIs X.K W C as σ H Q' := by
  obtain ⟨ρ, e, h, re, rp, po⟩ := h
  exact ⟨ρ, e, h, re, rp, po.imp f⟩
theorem tI_imp {σ : L2.St} {H : Hp} {Q Q' : VK} {a : E} (h : tI X.K W C a σ H Q) (f : ∀ vs H', Q vs H' → Q' vs H') : tI X.K W C a σ H Q' := by
  obtain ⟨ρ, e, h, re, rp, po⟩ := h
  exact ⟨ρ, e, h, re, rp, po.imp f⟩
theorem tpairs_of {σ : L2.St} : ∀ (n : Nat) {as : List E} {H : Hp} {Q : List (V × V) → Hp → Prop}, as.length = 2 * n → tIs X.K W C as σ H (fun vs H' => ∃ prs, vs = flP prs ∧ Q prs H') → tPairs (trsOf X.K W C as) σ H Q
  | 0, [], H, Q, _, h => by
    obtain ⟨ρ, e, h, re, rp, po⟩ := h
    simp only [Es.den] at po
    obtain ⟨prs, e1, q⟩ := po.here rp .nil
    cases prs with
    | nil => exact q
    | cons p r => cases e1
  | 0, _ :: _, _, _, hl, _ => by simp at hl
  | n + 1, [], _, _, hl, _ => by simp at hl
  | n + 1, [_], _, _, hl, _ => by simp at hl; omega
  | n + 1, a :: b :: r, H, Q, hl, h => by
    refine tI_imp (tIs_cut h) fun x H1 h1 => tI_imp (tIs_cut h1) fun y H2 h2 => tpairs_of n (by simp at hl; omega) (tIs_imp h2 fun vs H3 ⟨prs, e1, q⟩ => ?_)
    cases prs with
    | nil => cases e1
    | cons p ps =>
      simp only [flP, List.cons.injEq] at e1
      obtain ⟨rfl, rfl, rfl⟩ := e1
      exact ⟨ps, rfl, q⟩
theorem mergeK_nd {K : PySem.W.Frag} {ρ : List Addr} {H : Hp} : ∀ (n : Nat) {ms : List MV} {vs : List V} {ks : List Key} {xs : List MV} {ws : List V} {d : List Key × List MV}, ms.length ≤ n → RepVs K ρ H ms vs → ks.length = ws.length → ks.Nodup → RepVs K ρ H xs ws → dPairs ms ks xs = some d →
    ∃ (kvs : List (Key × V)) (us : List V), vs = flP (kvs.map fun kv => (kV kv.1, kv.2)) ∧ mergeK (ks.zip ws) kvs = d.1.zip us ∧ (d.1.length = us.length ∧ d.1.Nodup) ∧ RepVs K ρ H d.2 us ∧ 2 * kvs.length = ms.length
  | n, [], vs, ks, xs, ws, d, _, q, hl, nd, qw, e => by
    cases e
    unfold RepVs at q
    subst q
    exact ⟨[], ws, rfl, rfl, ⟨hl, nd⟩, qw, rfl⟩
  | n, [_], _, _, _, _, _, _, _, _, _, _, e => by cases e
  | 0, _ :: _ :: _, _, _, _, _, _, hn, _, _, _, _, _ => by simp at hn
  | n + 1, a :: v :: r, vs, ks, xs, ws, d, hn, q, hl, nd, qw, e => by
    unfold RepVs at q
    obtain ⟨w1, vs1, rfl, qa, q⟩ := q
    unfold RepVs at q
    obtain ⟨w2, vs2, rfl, qv, q⟩ := q
    unfold dPairs at e
    obtain ⟨k, ek, e1⟩ := bind_some' e
    have ea := repKey qa ek
    subst ea
    have pz := putK_zip (y := w2) (k := k) nd hl
    cases hi : kIx ks k with
    | some i =>
      rw [hi] at e1 pz
      simp only at e1 pz
      obtain ⟨kvs, us, a1, a2, a3, a4, a5⟩ := mergeK_nd n (ws := ws.set i w2) (by simp at hn; omega) q (by rw [List.length_set]; exact hl) nd (qw.set qv i) e1
      refine ⟨(k, w2) :: kvs, us, by rw [a1]; rfl, ?_, a3, a4, by simp at a5 ⊢; omega⟩
      show mergeK (putK (ks.zip ws) k w2) kvs = _
      rw [pz]
      exact a2
    | none =>
      rw [hi] at e1 pz
      simp only at e1 pz
      have nd2 : (ks ++ [k]).Nodup := by
        rw [List.nodup_append]
        refine ⟨nd, by simp, fun b hb d hd => ?_⟩
        rw [List.mem_singleton.mp hd]
        exact fun z => kIx_none hi (z ▸ hb)
      obtain ⟨kvs, us, a1, a2, a3, a4, a5⟩ := mergeK_nd n (ws := ws ++ [w2]) (by simp at hn; omega) q (by simp [hl]) nd2 (qw.append (.one qv)) e1
      refine ⟨(k, w2) :: kvs, us, by rw [a1]; rfl, ?_, a3, a4, by simp at a5 ⊢; omega⟩
      show mergeK (putK (ks.zip ws) k w2) kvs = _
      rw [pz]
      exact a2
theorem snd_disp {keys : List (Option Expr)} {values : List Expr} {f : Expr → Option E} (hf : ∀ pe e, f pe = some e → PE X pe (tI X.K W C e)) (hc : cPairs f keys values = some as) (h0 : keys ≠ []) (h15 : keys.length ≤ 15) :
    PE X (.Dict keys values pos) (tI X.K W C (.disp as)) := by
  obtain ⟨l1, l2, l3⟩ := cPairs_len hc
  refine PEi (pe_disp (cPairs_ok hf hc) l3 l1 h0 h15) fun σ H Q ⟨ρ, e, h, re, rp, po⟩ => ?_
  simp only [E.den] at po
  intro p hp
  have rp0 : Rep X.K ρ h (upd H p (.dK [])) := rp.side hp
  have x0 : Ext ρ H ρ (upd H p (.dK [])) := ext_new hp
  have nf : p ∉ ρ := rp.free hp
  refine tpairs_of keys.length l2 ⟨ρ, e, h, re.mono rp x0, rp0, ?_⟩
  cases hd : Es.den C as e h with
  | bad =>
    rw [hd] at po
    exact po.elim
  | exc y h1 => exact fun _ _ _ _ _ _ z => z.elim
  | ok ms h2 =>
    rw [hd] at po
    simp only [Res.bind_ok] at po
    intro ρ2 H2 vs x2 rp2 qs
    cases hv : dispO ms h2 with
    | none =>
      rw [hv] at po
      exact po.elim
    | some m =>
      obtain ⟨m, h3⟩ := m
      rw [hv] at po
      unfold dispO at hv
      split at hv
      · rename_i hz
        obtain ⟨d, ed, hv2⟩ := Option.map_eq_some_iff.mp hv
        cases hv2
        have n2 : p ∉ ρ2 := fun z => by
          rcases x2.new p z with z | z
          · exact nf z
          · rw [upd_same] at z
            cases z
        have ep : H2 p = some (.dK []) := x2.fr p _ upd_same nf
        obtain ⟨kvs, ws, a1, a2, a3, a4, a5⟩ := mergeK_nd ms.length (Nat.le_refl _) qs (ks := []) (xs := []) (ws := []) rfl .nil .nil ed
        refine ⟨_, a1, ep, kvs, rfl, by omega, ?_⟩
        have a2' : mergeK [] kvs = d.1.zip ws := a2
        rw [a2']
        have kp : Kp ρ2 H2 ρ2 (upd H2 p (.dK (d.1.zip ws))) := by
          refine ⟨⟨[], by simp⟩, fun a xs q => ?_, fun a o u q => ?_⟩
          · rw [upd_ne fun z => by rw [z, ep] at q; cases q]
            exact q
          · rw [upd_ne fun z => by rw [z, ep] at q; cases q]
            exact q
        have rp3 := rp2.keep kp fun a m => upd_ne fun z => n2 (z ▸ m)
        have rp4 := rp3.join (o := .dct d.1 d.2) n2 ⟨ws, upd_same, a3, a4.keep kp⟩
        refine po _ _ _ ⟨?_, fun a o q n => ?_, fun a m => ?_⟩ rp4 (locRep (by rw [← rp2.len, List.getElem?_concat_length]))
        · obtain ⟨t, rfl⟩ := x2.pre
          exact ⟨t ++ [p], by rw [List.append_assoc]⟩
        · have na : a ≠ p := fun z => by
            rw [z, hp] at q
            cases q
          rw [upd_ne na]
          exact x2.fr a o (by rw [upd_ne na]; exact q) n
        · rcases List.mem_append.mp m with m | m
          · rcases x2.new a m with m | z
            · exact .inl m
            · by_cases na : a = p
              · rw [na]
                exact .inr hp
              · rw [upd_ne na] at z
                exact .inr z
          · rw [List.mem_singleton.mp m]
            exact .inr hp
      · cases hv
end
end MP
end
section
set_option Elab.async false
set_option linter.all false
set_option maxRecDepth 100000
set_option maxHeartbeats 4000000
/-! MP, part ey: any and all of a test over a list's items. -/
namespace MP
open PySem PySem.Spec PyProof.Rows L2
/-- the test of an item in the generator's own frame; s1: the state in which the list was read -/
def ItemT (X : Cx) (P : Addr) (s1 : Shared) (scope : Scope) (x : Str) (elt : Expr) (ws : List V) (pb : Nat → Bool) : Prop :=
  ∀ (env : Env) (A2 : Around) (E2 : Value → Shared → Prop) (i : Nat) (v : Value) (y : V) (t : Shared) (mm : Str → Option Value), env.scope = scope → env.cells = cloFrom X.env.cells scope.names [] → A2.handled = none → A2.units ≤ X.A.units + 8 →
    ws[i]? = some y → RelV y v → t.heap.Ns env.locals mm → mm x = some v → (∀ b o, b ≠ P → s1.heap.get? b = some o → t.heap.get? b = some o) →
    wpAny (model X.prog X.w) A2 (eval elt env) (fun z t2 => z = .bool (pb i) ∧ Keeps t t2) E2 t
section
variable {X : Cx} {pins : List (Addr × Obj)} {σ : L2.St} {H : Hp} {s : Shared}
/-- the generator stands ready -/
def RdyT (X : Cx) (pins : List (Addr × Obj)) (σ : L2.St) (H1 : Hp) (P : Addr) (n : Nat) (pb : Nat → Bool) (g : Addr) (s5 : Shared) : Prop :=
  ∃ (fp wr : List Addr) (G : Array GenState → Array GenState → Prop) (F : Nat → Value → Prop) (St : Nat → Shared → Prop), WalksS X.prog X.w X.A.in1 g fp wr G n F St ∧ St 0 s5 ∧ TruthOf X.prog X.w X.A.in1 F pb ∧
    ∀ s2, Moved wr G s5 s2 → ∃ H2, GxR.Tabbed P H1 H2 ∧ Inv X pins σ H2 s2
theorem gen_items {c P : Addr} {elt iter : Expr} {x : Str} {px gpos : Pos} {scope : Scope} {te : TE} {k : Nat} {Q2 : Value → Shared → Prop} {R : List V → Hp → Prop}
    (room : Room k X.A) (TB : GxR.TabB X.base X.mg c P) (code : X.env.code = .ref c) (S : GxR.GenS X.env scope x) (hi : PE X iter te) (fold : ∀ v, genFold iter X.env v = pure v) (I : Inv X pins σ H s)
    (h : te σ H fun v H1 => ∃ yl ws, v = .ref yl ∧ SqL X.K H1 yl ws ∧ GxR.TabG H1 P ∧ R ws H1)
    (body : ∀ ws H1 s1, R ws H1 → Inv X pins σ H1 s1 → ∃ pb, ItemT X P s1 scope x elt ws pb ∧ ∀ g s5, RdyT X pins σ H1 P ws.length pb g s5 → Q2 (.ref g) s5) :
    wpAny (model X.prog X.w) X.A (eval (.GeneratorExp elt [⟨.Name x px, iter, [], 0⟩] scope gpos) X.env) Q2 X.xe s := by
  have rd : X.A.depth < recursionLimit := by
    have := room.dp
    omega
  refine wpAny_GeneratorExp_walksQD room.hd S.co (closure_ok S.free) S.cell S.dot S.loc S.kind rd ?_ fold
  refine thn (hi.run pins s σ H _ I h) fun xv s1 ⟨v, H1, I1, r1, yl, ws, ev, hyl, ⟨ps, hP, ht⟩, rr⟩ => ?_
  subst ev
  obtain rfl : xv = Value.ref yl := r1
  obtain ⟨pb, it, fin⟩ := body ws H1 s1 rr I1
  obtain ⟨its, rv, hl, hz⟩ := I1.list hyl
  have isl := hl.isList
  have len : its.length = ws.length := rv.length.symm
  have item : ∀ (i : Nat) (v : Value), its.toArray[i]? = some v → ∃ y, ws[i]? = some y ∧ RelV y v := fun i v hv => by
    have hv2 : its[i]? = some v := by simpa using hv
    have lt : i < its.length := (List.getElem?_eq_some_iff.mp hv2).1
    have hy : ws[i]? = some (ws[i]'(by omega)) := List.getElem?_eq_getElem _
    obtain ⟨u, hu, ru⟩ := rv.get hy
    rw [hv2] at hu
    cases hu
    exact ⟨_, hy, ru⟩
  refine wpAny_pyIter_list isl ?_
  generalize eo : ({ cls := .type "list_iterator", data := .fields #[.ref yl, .int 0 0] } : Obj) = io
  generalize en : s1.heap.objs.size = N
  have itr : (s1.heap.push io).IsListIter N yl 0 := by
    subst eo en
    exact ⟨_, Heap.get?_push_size _ rfl, rfl, rfl⟩
  have ylt : yl < N := by
    rw [← en]
    obtain ⟨_, e, _⟩ := _root_.id isl
    exact Heap.lt_size e
  have tab1 : s1.heap.get? P = some { cls := .none, data := .fields ps } := I1.hok P _ hP
  have Plt : P < N := by
    rw [← en]
    exact Heap.lt_size tab1
  have old1 : ∀ b u, s1.heap.get? b = some u → (s1.heap.push io).get? b = some u := fun b u e => Heap.get?_push_of_some _ e
  have tab2 := old1 _ _ tab1
  have cd : PySem.W.CodeHd (s1.heap.push io) c P := TB.code.keeps fun b u e => old1 _ _ (I1.bk b u e)
  have lim2 : (s1.heap.push io).NoLimit := I1.nolimit.push io
  have sz2 : (s1.heap.push io).objs.size = N + 1 := by
    rw [Heap.size_push, en]
  have statP : cStatics ≠ P := fun e => by
    obtain ⟨_, q, _⟩ := I1.nolimit
    obtain ⟨o2, es2, ep2, q2, q3, _⟩ := q
    rw [e, tab1] at q2
    cases q2
    cases q3
  have statN : cStatics < N := by
    rw [← en]
    obtain ⟨_, q, _⟩ := I1.nolimit
    exact q.lt
  have ylP : yl ≠ P := fun z => by
    obtain ⟨_, e, _, _, e4⟩ := _root_.id isl
    rw [z, tab1] at e
    cases e
    cases e4
  -- behind the code object
  have go : ∀ (cv : Value) (h3 : Heap) (tk : Nat) (ps2 : Array Value), Heap.ExtBut P (s1.heap.push io) h3 → N + 1 ≤ h3.objs.size → h3.get? P = some { cls := .none, data := .fields ps2 } → (∃ more, ps2 = ps ++ more) → TriplesOk ps2.toList →
      wpAny (model X.prog X.w) X.A (builtinsFor X.env.globals X.env.builtins) (fun bi s4 =>
        ∃ Ia fp wr n0 Pf St0 pz F, Value.ref N = .ref Ia ∧ (∀ A2 : Around, A2.handled = none → Walks X.prog X.w A2 Ia fp wr n0 Pf St0) ∧ St0 0 s4.heap ∧ (∀ b ∈ fp, b < s4.heap.objs.size) ∧ s4.heap.NoLimit ∧ cStatics ∉ wr ∧
          (∀ hr : Heap, (∀ b o, s4.heap.get? b = some o → hr.get? b = some o) →
            QuietGenD X.prog X.w (genEnv scope (cloFrom X.env.cells scope.names []) s4.heap.objs.size cv bi X.env) x [] elt (List.range s4.heap.objs.size) wr Pf pz F hr (X.A.depth + 1) (X.A.units + 8)) ∧
          (∀ a h5 tk5 gs, gs.bare = true → s4.heap.objs.size < a → h5.objs.size = a + 1 → (∀ b o, s4.heap.get? b = some o → h5.get? b = some o) →
            WalksS X.prog X.w X.A.in4 a (a :: s4.heap.objs.size :: List.range s4.heap.objs.size) (s4.heap.objs.size :: wr) (GenOnlyQ s4.gens.size) (passing pz n0 0).length
              (fun j y => ∃ i, (passing pz n0 0)[j]? = some i ∧ F i y) (GenAt X.prog X.w X.A.in4 a s4.gens.size s4.heap.objs.size (List.range s4.heap.objs.size) wr pz n0 F) →
            GenAt X.prog X.w X.A.in4 a s4.gens.size s4.heap.objs.size (List.range s4.heap.objs.size) wr pz n0 F 0 { s4 with gens := s4.gens.push gs, toks := tk5, heap := h5 } →
            Q2 (.ref a) { s4 with gens := s4.gens.push gs, toks := tk5, heap := h5 })) X.xe { s1 with heap := h3, toks := tk } := by
    intro cv h3 tk ps2 hx hsz hP3 grew ok3
    obtain ⟨bm, ob, b1, b2, b3, b4, b5, b6, b7, b8⟩ := TB.bm
    have old3 : ∀ b u, b ≠ P → s1.heap.get? b = some u → h3.get? b = some u := fun b u hb e => hx b u hb (old1 _ _ e)
    have glob : h3.Ns X.env.globals X.mg := by
      rw [I1.ok.glob]
      exact ((I1.mod.glob.keeps I1.bk).push io).extBut hx TB.gP
    refine wpAny_builtinsFor (m := X.mg) glob b1 b2 (old3 _ _ b4 (I1.bk _ _ b5)) b6 b7 b8 ?_
    have isl3 : h3.IsList yl its.toArray := by
      obtain ⟨ob2, e, r⟩ := _root_.id isl
      exact ⟨ob2, old3 _ _ ylP e, r⟩
    have itr3 : h3.IsListIter N yl 0 := itr.at fun u e => hx _ u (Nat.ne_of_gt Plt) e
    refine ⟨N, [N, yl], [N], its.toArray.size, (fun i v => its.toArray[i]? = some v), (fun i h => h.IsListIter N yl i ∧ h.IsList yl its.toArray), (fun _ => true), (fun i y => y = .bool (pb i)), rfl,
      (fun A2 hA => Walks.list hA _ _ (Nat.ne_of_lt ylt) _), ⟨itr3, isl3⟩, ?_, lim2.extBut hx statP, ?_, ?_, ?_⟩
    · intro b hb
      have : b = N ∨ b = yl := by simpa using hb
      show b < h3.objs.size
      rcases this with z | z
      · rw [z]
        exact hsz
      · subst z
        exact Nat.lt_of_lt_of_le ylt (Nat.le_trans (Nat.le_succ N) hsz)
    · intro z
      have : cStatics = N := by simpa using z
      exact Nat.ne_of_lt statN this
    · intro hr hhr
      have back : ∀ (t : Shared), (∀ b ∈ List.range h3.objs.size, b ∉ [N] → ∀ o, hr.get? b = some o → t.heap.get? b = some o) → ∀ b o, b ≠ P → s1.heap.get? b = some o → t.heap.get? b = some o := fun t hk b o hb e => by
        have e3 := old3 b o hb e
        refine hk b (List.mem_range.mpr (Heap.lt_size e3)) (fun z => ?_) o (hhr b o e3)
        have z1 : b = N := by simpa using z
        have z2 := Heap.lt_size e
        rw [en, z1] at z2
        exact Nat.lt_irrefl _ z2
      refine ⟨fun A2 E2 i v t mm hA hd hu hPv hn hm hk => ?_, fun A2 E2 i v t mm hA hd hu hPv hp hn hm hk => ?_⟩
      · simp only [List.forIn_nil]
        exact wpAny_pure ⟨rfl, GxR.keeps_refl _⟩
      · obtain ⟨y, hy, ry⟩ := item i v hPv
        exact it _ A2 E2 i v y t mm rfl rfl hA hu hy ry hn hm (back t hk)
    · intro g h5 tk5 gs gb ag sz5 k5 W5 at5
      simp only [GxR.passing_true, List.length_range] at W5
      have n5 : its.toArray.size = ws.length := by rw [List.size_toArray, len]
      rw [n5] at W5 at5
      refine fin g _ ⟨_, _, _, _, _, W5.in4_1, at5, ?_, fun s2 hm => ?_⟩
      · intro j y sj Qj Ej hy hQj
        obtain ⟨i, hij, rfl⟩ := hy
        obtain ⟨hj, ej⟩ := List.getElem?_eq_some_iff.mp hij
        rw [List.getElem_range] at ej
        subst ej
        exact wpAny_truthy_bool hQj
      · obtain ⟨more, em⟩ := grew
        have nw : ∀ b u, s1.heap.get? b = some u → b ∉ h3.objs.size :: [N] := fun b u e hb => by
          have z2 := Heap.lt_size e
          rw [en] at z2
          rcases List.mem_cons.mp hb with z | z
          · rw [z] at z2
            have z3 : (h3.objs.size : Nat) < N := z2
            omega
          · have z1 : b = N := by simpa using z
            rw [z1] at z2
            exact Nat.lt_irrefl _ z2
        have kept : ∀ b u, b ≠ P → s1.heap.get? b = some u → s2.heap.get? b = some u := fun b u hb e => hm.heap b u (nw b u e) (k5 b u (old3 b u hb e))
        have tab5 : s2.heap.get? P = some { cls := .none, data := .fields (ps ++ more) } := by
          rw [← em]
          exact hm.heap P _ (nw P _ tab1) (k5 P _ hP3)
        have J := GxR.inv_tab (more := more) (h' := s2.heap) (g' := s2.gens) (d' := s2.drawn) (t' := s2.toks) I1 hP kept tab5 (AllBare.movedS (I1.bare.push gb) hm)
        rw [GxR.sh_eta s1 s2 hm.os] at J
        exact ⟨upd H1 P (.tbl (ps ++ more)), ⟨⟨ps ++ more, upd_same, by rw [← em]; exact ok3⟩, fun b hb => upd_ne hb⟩, J⟩
  rw [← en]
  rw [← en] at go sz2
  refine ⟨lim2, ?_⟩
  cases hf : codeAmong gpos ps.toList with
  | none =>
    refine wpAny_genexprCodeX code (cd.code tab2 ht) (cd.tab tab2) hf fun c2 h2 tk hx hge hlt hco _ htab _ => ?_
    obtain ⟨o1, vs, f1, tf, fl, tg, inF, tx, tt, op, _, _, _, _, _, _, _, _, _, htr, _⟩ := hco
    exact go _ h2 tk _ hx (by rw [← sz2]; exact Nat.le_trans hge (Nat.le_of_lt hlt)) htab.2 ⟨_, rfl⟩ htr
  | some cv =>
    refine wpAny_genexprCode_hit code (cd.code tab2 ht) hf ?_
    exact go cv (s1.heap.push io) s1.toks ps (Heap.ExtBut.refl _ _) (Nat.le_of_eq sz2.symm) tab2 ⟨#[], by simp⟩ ht
/-! ### lo <= x <= hi -/
theorem item_rng {P : Addr} {s1 : Shared} {scope : Scope} {x : Str} {lo hi : Int} {j1 j2 : Nat} {p1 p2 p3 p4 : Pos} {ns : List Int} (hk : scope.kind = .function) (hl : scope.names.lookup x = some .local) (hd : (x == ("__debug__" : Str)) = false)
    (hm : lastMarks [.LtE, .LtE] [.Name x p2, .Constant (.int hi) j2 p3] = false) :
    ItemT X P s1 scope x (.Compare (.Constant (.int lo) j1 p1) [.LtE, .LtE] [.Name x p2, .Constant (.int hi) j2 p3] p4) (ns.map V.int) (fun i => match ns[i]? with
      | some n => decide (lo ≤ n) && decide (n ≤ hi)
      | none => false) := by
  intro env A2 E2 i v y t mm hs hc hA hu hy ry hn hmx hold
  rw [List.getElem?_map] at hy
  obtain ⟨n, en, rfl⟩ := Option.map_eq_some_iff.mp hy
  obtain ⟨tn, rfl⟩ := (show ∃ tk, v = Value.int n tk from ry)
  have ev : (fun i => match ns[i]? with
      | some n => decide (lo ≤ n) && decide (n ≤ hi)
      | none => false) i = (decide (lo ≤ n) && decide (n ≤ hi)) := by
    simp only [en]
  rw [ev]
  have ld : ∀ (Q : Value → Shared → Prop) (k : Nat), Q (.int n tn) { t with toks := k } → wpAny (model X.prog X.w) A2 (eval (.Name x p2) env) Q E2 { t with toks := k } := fun Q k hQ =>
    wpAny_Name (wpAny_loadName_local (by rw [hs]; exact hk) (show env.scope.names.lookup x = some .local by rw [hs]; exact hl) hn hmx hQ) hd
  refine Compare_chain (wpAny_Constant_int (chain_link (ld _ _ (PySem.P.le_int (wpAny_truthy_bool ?_))))) hm
  cases decide (lo ≤ n) with
  | false => exact ite_ff ⟨rfl, GxR.keeps_tok _ _⟩
  | true => exact ite_tt (chain_last (wpAny_Constant_int (PySem.P.le_int ⟨by simp, GxR.keeps_tok _ _⟩)))
/-- all(lo <= x <= hi for x in xs) -/
theorem all_rng (ns : List Int) (lo hi : Int) : (List.range (ns.map V.int).length).all (fun i => match ns[i]? with
      | some n => decide (lo ≤ n) && decide (n ≤ hi)
      | none => false) = ns.all fun n => decide (lo ≤ n) && decide (n ≤ hi) := by
  rw [List.length_map, Bool.eq_iff_iff, List.all_eq_true, List.all_eq_true]
  constructor
  · intro h n hn
    obtain ⟨j, hj, e⟩ := List.getElem_of_mem hn
    have q := h j (List.mem_range.mpr hj)
    rw [List.getElem?_eq_getElem hj, e] at q
    exact q
  · intro h j hj
    have hj2 := List.mem_range.mp hj
    rw [List.getElem?_eq_getElem hj2]
    exact h _ (List.getElem_mem hj2)
theorem snd_allR {W : WX} {C : Cl} {k l : Nat} {own : Str × Option Str} {c : Addr} {lo hi : Int} {a : E} {scope : Scope} {x : Str} {iter : Expr} {j1 j2 : Nat} {p p1 p2 p3 p4 px pos gpos : Pos}
    (room : Room k X.A) (hg : Gl X "all") (hm : X.mg "all" = none) (TB : GxR.TabB X.base X.mg c (tabA X.K own)) (code : X.env.code = .ref c) (S : GxR.GenS X.env scope x) (fold : ∀ v, genFold iter X.env v = pure v)
    (hd : (x == ("__debug__" : Str)) = false) (hmk : lastMarks [.LtE, .LtE] [.Name x p2, .Constant (.int hi) j2 p3] = false) (ha : PE X iter (tI X.K W C a)) :
    PE X (.Call (.Name "all" p) [.GeneratorExp (.Compare (.Constant (.int lo) j1 p1) [.LtE, .LtE] [.Name x p2, .Constant (.int hi) j2 p3] p4) [⟨.Name x px, iter, [], 0⟩] scope gpos] [] pos) (tI X.K W C (.allR l own lo hi a)) := by
  refine ⟨fun pins s σ H Q I ⟨ρ, e, h, re, rp, po⟩ => ?_⟩
  simp only [E.den] at po
  refine wpAny_Call_Name_kw (ld_blt I hg hm (u := .builtin "all") (by decide +kernel) ?_ (by decide))
  refine PyProof.Rows.callWith_builtin1 ?_ (by rfl) (by rfl)
  refine Calls.spliced_cons (gen_items (R := fun ws H1 => ∃ ns : List Int, ws = ns.map V.int ∧ ∀ H2, GxR.Tabbed (tabA X.K own) H1 H2 → Q (.bl (ns.all fun n => decide (lo ≤ n) && decide (n ≤ hi))) H2) room TB code S ha fold I
    ⟨ρ, e, h, re, rp, (PostG.bind (R := RepV X.K) po).imp fun v H1 ⟨ρ1, h1, mv, x1, rp1, qv, po1⟩ => ?_⟩ fun ws H1 s1 hR I1 => ?_)
  · obtain ⟨b, eb, po2⟩ := po1.of_oR
    unfold allRO at eb
    split at eb
    · rename_i y hy
      split at eb
      · rename_i hyx
        subst hyx
        obtain ⟨ns, en, rfl⟩ := Option.map_eq_some_iff.mp eb
        obtain ⟨xs, ex, en⟩ := bind_some' en
        obtain ⟨yl, vs, rfl, sq, z⟩ := rp1.lists qv ex
        have := z.ints en
        subst this
        obtain ⟨_, tg⟩ := rp1.tab hy
        refine ⟨yl, _, rfl, sq, tg, ns, rfl, fun H2 t2 => ?_⟩
        obtain ⟨x2, rp2⟩ := rp1.tabbed hy t2
        exact po2 ρ1 H2 _ x2 rp2 blRep
      · cases eb
    · cases eb
  · obtain ⟨ns, rfl, hQ⟩ := hR
    refine ⟨_, item_rng S.kind S.loc hd hmk, fun g s5 hG => Calls.spliced_nil ?_⟩
    obtain ⟨fp, wr, G, F, St, Wk, hst, htr, hI⟩ := hG
    refine call_all_walkS (Wk.self 0 _ _ _ hst ⟨g, fp, wr, G, _, F, St, _, rfl, Wk, hst, htr, fun s2 hmv => ?_⟩)
    obtain ⟨H2, hT, J⟩ := hI s2 hmv
    rw [all_rng]
    exact ⟨.bl _, H2, J, rfl, hQ H2 hT⟩
end
end MP
end
section
set_option Elab.async false
set_option linter.all false
set_option maxRecDepth 100000
set_option maxHeartbeats 4000000
/-! MP, part ez: any and all of a pure test with the def's own names over a list. -/
namespace MP
open PySem PySem.Spec PyProof.Rows L2

/-! ### what a test's parts answer in the generator's own frame -/
section
variable {X : Cx} {pins : List (Addr × Obj)} {σ : L2.St} {H1 : Hp} {s1 : Shared} {P : Addr} {t : Shared}
/-- all objects but the table stand as they stood -/
def Per (P : Addr) (s1 t : Shared) : Prop := ∀ b o, b ≠ P → s1.heap.get? b = some o → t.heap.get? b = some o
theorem Per.tok (h : Per P s1 t) (k : Nat) : Per P s1 { t with toks := k } := h
def TabAt (P : Addr) (s : Shared) : Prop := ∃ ps, s.heap.get? P = some { cls := .none, data := .fields ps }
theorem Per.list (I : Inv X pins σ H1 s1) (hP : TabAt P s1) (h : Per P s1 t) {a : Addr} {xs : List V} (q : SqL X.K H1 a xs) : ∃ its : List Value, Vals xs its ∧ PlainL t.heap a its.toArray ∧ xs.length ≤ sizeLine := by
  obtain ⟨its, r, ⟨o, n, e, e1, e2⟩, z⟩ := I.list q
  refine ⟨its, r, ⟨o, n, h a o (fun w => ?_) e, e1, e2⟩, z⟩
  obtain ⟨ps, ep⟩ := hP
  rw [w, ep] at e
  cases e
  cases e1
theorem Per.tuple (I : Inv X pins σ H1 s1) (hP : TabAt P s1) (h : Per P s1 t) {a : Addr} {xs : List V} (q : SqT X.K H1 a xs) : ∃ its : List Value, Vals xs its ∧ IsTup t.heap a its.toArray ∧ xs.length ≤ sizeLine := by
  obtain ⟨its, r, ⟨o, e, e1, e2⟩, z⟩ := I.tuple q
  refine ⟨its, r, ⟨o, h a o (fun w => ?_) e, e1, e2⟩, z⟩
  obtain ⟨ps, ep⟩ := hP
  rw [w, ep] at e
  cases e
  cases e1
mutual
theorem Per.reads (I : Inv X pins σ H1 s1) (hP : TabAt P s1) (h : Per P s1 t) : ∀ (d : PyData) (v : V) (u : Value), Dp X.K H1 v d → RelV v u → ∃ as, Reads t.heap u d as
  | .none, _, _, h, r => by
    cases h
    cases r
    exact ⟨_, Reads.none⟩
  | .bool b, _, _, h, r => by
    cases h
    cases r
    exact ⟨_, Reads.bool b⟩
  | .int i, _, _, h, r => by
    cases h
    obtain ⟨t, rfl⟩ := r
    exact ⟨_, Reads.int i t⟩
  | .str x, _, _, h, r => by
    cases h
    obtain ⟨t, rfl⟩ := r
    exact ⟨_, Reads.str x t⟩
  | .list ds, _, _, q, r => by
    cases q with
    | lst hs ha =>
      cases r
      obtain ⟨its, rv, ⟨o, n, ho, hc, _, hd⟩, _⟩ := Per.list I hP h hs
      obtain ⟨as, hr⟩ := Per.readsAll I hP h ds _ its ha rv
      exact ⟨_, Reads.list ho hc hd hr⟩
  | .tuple ds, _, _, q, r => by
    cases q with
    | tup hs ha =>
      cases r
      obtain ⟨its, rv, ⟨o, ho, hc, n, hd⟩, _⟩ := Per.tuple I hP h hs
      obtain ⟨as, hr⟩ := Per.readsAll I hP h ds _ its ha rv
      exact ⟨_, Reads.tuple ho hc hd hr⟩
  | .dict _, _, _, h, _ => by cases h
theorem Per.readsAll (I : Inv X pins σ H1 s1) (hP : TabAt P s1) (h : Per P s1 t) : ∀ (ds : List PyData) (vs : List V) (us : List Value), DpAll X.K H1 vs ds → Vals vs us → ∃ as, ReadsAll t.heap us ds as
  | [], _, _, h, r => by
    cases h
    cases r
    exact ⟨_, ReadsAll.nil⟩
  | d :: ds, _, _, q, r => by
    cases q with
    | cons h1 h2 =>
      cases r with
      | cons r1 r2 =>
        obtain ⟨as, q1⟩ := Per.reads I hP h d _ _ h1 r1
        obtain ⟨bs, q2⟩ := Per.readsAll I hP h ds _ _ h2 r2
        exact ⟨_, ReadsAll.cons q1 q2⟩
end
/-- a dict of ints or texts -/
theorem Per.dict (I : Inv X pins σ H1 s1) (hP : TabAt P s1) (h : Per P s1 t) {a : Addr} {kvs : List (Key × V)} (e : H1 a = some (.dK kvs)) :
    (a == sysModules) = false ∧ ∃ vs, KV kvs vs ∧ t.heap.DictOf (mixKind X.prog X.w) a vs := by
  obtain ⟨z, hd, vs, rel, dd⟩ := dk_of I.hok e
  refine ⟨hd, vs, rel, dd.extBut h fun w => ?_⟩
  obtain ⟨ps, ep⟩ := hP
  obtain ⟨o2, _, _, e2, _, e3, _⟩ := dd
  rw [w, ep] at e2
  cases e2
  cases e3
end
/-- the model's syntax of a pure test over x; the def's names, its scope; the generator's scope -/
inductive QOk (N : List Str) (osc isc : Scope) (x : Str) : Expr → QE → Prop
  | it (p : Pos) : QOk N osc isc x (.Name x p) .it
  | v (y : Str) (p : Pos) (i : Nat) : N[i]? = some y → isc.names.lookup y = some .free → (osc.names.lookup y = some .cell ∨ osc.names.lookup y = some .free) → (y == ("__debug__" : Str)) = false → (y == ("__classdict__" : Str)) = false → QOk N osc isc x (.Name y p) (.v i)
  | int (n : Int) (j : Nat) (p : Pos) : QOk N osc isc x (.Constant (.int n) j p) (.int n)
  | ix (a b : Expr) (p : Pos) (qa qb : QE) : PlainIx b → QOk N osc isc x a qa → QOk N osc isc x b qb → QOk N osc isc x (.Subscript a b p) (.ix qa qb)
  | cmp (o : COp) (a b : Expr) (p : Pos) (qa qb : QE) : behindInMarks o.op b = false → QOk N osc isc x a qa → QOk N osc isc x b qb → QOk N osc isc x (.Compare a [o.op] [b] p) (.cmp o qa qb)
  | and (a b : Expr) (p : Pos) (qa qb : QE) : QOk N osc isc x a qa → QOk N osc isc x b qb → QOk N osc isc x (.BoolOp .And [a, b] p) (.and qa qb)
  | or (a b : Expr) (p : Pos) (qa qb : QE) : QOk N osc isc x a qa → QOk N osc isc x b qb → QOk N osc isc x (.BoolOp .Or [a, b] p) (.or qa qb)
  | not (a : Expr) (p : Pos) (qa : QE) : QOk N osc isc x a qa → QOk N osc isc x (.UnaryOp .Not a p) (.not qa)
section
variable {X : Cx} {pins : List (Addr × Obj)} {σ : L2.St} {H1 : Hp} {s1 : Shared} {P : Addr}
/-- x op y in any state behind s1, under any around -/
theorem cmpQ_at (I : Inv X pins σ H1 s1) (hP : TabAt P s1) {t : Shared} (hp : Per P s1 t) {A2 : Around} {E2 : Value → Shared → Prop} (hu : A2.units + 130 < cLine) (o : COp) {ρ : List Addr} {h : MH} (rp : Rep X.K ρ h H1) {mx my : MV} {x y : V} {v u : Value} (qx : RepV X.K ρ H1 mx x) (qy : RepV X.K ρ H1 my y) (rx : RelV x v) (ry : RelV y u)
    {k : Bool} (e : cmpQ o mx my h = some k) {Q : Value → Shared → Prop} (fin : ∀ tk, Q (.bool k) { t with toks := tk }) : wpAny (model X.prog X.w) A2 (compareOp o.op v u) Q E2 t := by
  have inn : ∀ {k : Bool} {neg : Bool}, inO mx my h = some k → (∀ tk, Q (.bool (if neg then !k else k)) { t with toks := tk }) → wpAny (model X.prog X.w) A2 (compareOp (if neg then .NotIn else .In) v u) Q E2 t := by
    intro k neg e fin
    rcases or_cases (show (inL mx my h).or (dIn mx my h) = some k from e) with e | e
    · rcases inL_ok rp qx qy e with ⟨p, xs, rfl, s2, f, g, rfl⟩ | ⟨d, ds, d1, d2, e1, e2, rfl⟩
      · cases ry
        obtain ⟨its, r, pl, hz⟩ := Per.tuple I hP hp s2
        cases neg with
        | false =>
          refine SeqAt.in_tupleAt (eqU x) pl (fun w hw => mem_eqAt rx f r g w (by simpa using hw)) ?_
          rw [show its.toArray.any (eqU x) = its.any (eqU x) by simp, any_eqU r g]
          exact fin t.toks
        | true =>
          refine SeqAt.notIn_tupleAt (eqU x) pl (fun w hw => mem_eqAt rx f r g w (by simpa using hw)) ?_
          rw [show its.toArray.any (eqU x) = its.any (eqU x) by simp, any_eqU r g]
          exact fin t.toks
      · obtain ⟨as, r1⟩ := Per.reads I hP hp d x v d1 rx
        obtain ⟨bs, r2⟩ := Per.reads I hP hp (.list ds) y u d2 ry
        cases neg with
        | false => exact SeqAt.in_list_reads r2 r1 (canLay_of_shp e2) (canLay_of_shp e1) (room_in_shp e1 (by omega)) (fin t.toks)
        | true => exact SeqAt.notIn_list_reads r2 r1 (canLay_of_shp e2) (canLay_of_shp e1) (room_in_shp e1 (by omega)) (fin t.toks)
    · unfold dIn at e
      obtain ⟨d, ed, e⟩ := bind_some' e
      obtain ⟨kk, ek, e⟩ := Option.map_eq_some_iff.mp e
      obtain ⟨l, a, vs, rfl, hy, e1, rfl, e2, e3, z⟩ := rp.dct qy ed
      obtain rfl : u = Value.ref a := ry
      have ex := repKey qx ek
      subst ex
      obtain ⟨hd, ws, rel, dd⟩ := Per.dict I hP hp e2
      have e4 : (valueAt ws kk).isSome = k := by
        have e5 : (kIx d.1 kk).isSome = k := by assumption
        rw [← (rel.val kk).isSome_eq, valV_zip e3.1, ← e5]
        cases ei : kIx d.1 kk with
        | none => rfl
        | some i =>
          have hi := kIx_lt ei
          show (vs[i]?).isSome = true
          rw [List.getElem?_eq_getElem (by omega)]
          rfl
      cases neg with
      | false =>
        refine wpAny_in_of (kV_is rx) hd dd.mapOf ?_
        rw [e4]
        exact fin _
      | true =>
        refine wpAny_notIn_of (kV_is rx) hd dd.mapOf ?_
        rw [e4]
        exact fin _
  have two : ∀ {b : Bool}, eqO mx my h = some b → ∃ d d' as bs, Reads t.heap v d as ∧ Reads t.heap u d' bs ∧ shp d = true ∧ shp d' = true ∧ b = PyData.eqv d d' := by
    intro b e
    unfold eqO at e
    split at e
    · rename_i d d' h1 h2
      split at e
      · rename_i hs
        cases e
        obtain ⟨as, r1⟩ := Per.reads I hP hp d x v (rp.dp (of_dat h1) qx) rx
        obtain ⟨bs, r2⟩ := Per.reads I hP hp d' y u (rp.dp (of_dat h2) qy) ry
        exact ⟨d, d', as, bs, r1, r2, hs.1, hs.2, rfl⟩
      · cases e
    · cases e
  cases o with
  | eq =>
    obtain ⟨d, d', as, bs, r1, r2, s1, s2, rfl⟩ := two e
    exact SeqAt.compareEq_reads r1 r2 (canLay_of_shp s1) (canLay_of_shp s2) (room_shp s1 (by omega)) (fin t.toks)
  | ne =>
    cases e2 : eqO mx my h with
    | none => simp [cmpQ, cmpO, e2] at e
    | some b =>
      simp [cmpQ, cmpO, e2] at e
      obtain ⟨d, d', as, bs, r1, r2, s1, s2, rfl⟩ := two e2
      refine SeqAt.compareNe_reads r1 r2 (canLay_of_shp s1) (canLay_of_shp s2) (room_shp s1 (by omega)) ?_
      have e3 : (!PyData.eqv d d') = k := by simp [e]
      rw [e3]
      exact fin t.toks
  | is => cases e
  | isn => cases e
  | inn => exact inn (neg := false) e fin
  | nin =>
    cases e2 : inO mx my h with
    | none => simp [cmpQ, cmpO, e2] at e
    | some b =>
      have e3 : (!b) = k := by simpa [cmpQ, cmpO, e2] using e
      refine inn (neg := true) e2 fun tk => ?_
      rw [if_pos rfl, e3]
      exact fin tk
  | lt =>
    simp only [cmpQ, cmpO] at e
    split at e
    · cases e
      cases repInt qx
      cases repInt qy
      obtain ⟨_, rfl⟩ := rx
      obtain ⟨_, rfl⟩ := ry
      exact PySem.P.lt_int (fin t.toks)
    · cases e
  | le =>
    simp only [cmpQ, cmpO] at e
    split at e
    · cases e
      cases repInt qx
      cases repInt qy
      obtain ⟨_, rfl⟩ := rx
      obtain ⟨_, rfl⟩ := ry
      exact PySem.P.le_int (fin t.toks)
    · cases e
  | gt =>
    simp only [cmpQ, cmpO] at e
    split at e
    · cases e
      cases repInt qx
      cases repInt qy
      obtain ⟨_, rfl⟩ := rx
      obtain ⟨_, rfl⟩ := ry
      exact PySem.P.gt_int (fin t.toks)
    · cases e
  | ge =>
    simp only [cmpQ, cmpO] at e
    split at e
    · cases e
      cases repInt qx
      cases repInt qy
      obtain ⟨_, rfl⟩ := rx
      obtain ⟨_, rfl⟩ := ry
      exact PySem.P.ge_int (fin t.toks)
    · cases e

/-- a pure test's part in the generator's frame -/
theorem QOk.run (I : Inv X pins σ H1 s1) (hP : TabAt P s1) {env : Env} {A2 : Around} {E2 : Value → Shared → Prop} {isc : Scope} {x : Str} {ρ : List Addr} {h : MH} {e : En} {itm : MV} {y : V} {v : Value} {mm : Str → Option Value}
    (S : GxR.GenS X.env isc x) (hsc : env.scope = isc) (hcl : env.cells = cloFrom X.env.cells isc.names []) (hxd : (x == ("__debug__" : Str)) = false) (re : REnv X.K ρ H1 e σ) (rp : Rep X.K ρ h H1) (hu : A2.units + 130 < cLine) (ry : RepV X.K ρ H1 itm y) (rv : RelV y v) (hx : mm x = some v) :
    ∀ {pe : Expr} {q : QE}, QOk X.N X.env.scope isc x pe q → ∀ {m : MV}, QE.den e itm h q = some m → ∀ {t : Shared} {Q : Value → Shared → Prop}, Per P s1 t → t.heap.Ns env.locals mm → (∀ w z tk, RepV X.K ρ H1 m w → RelV w z → Q z { t with toks := tk }) → wpAny (model X.prog X.w) A2 (eval pe env) Q E2 t := by
  intro pe q ok
  have kf : env.scope.kind = .function := by rw [hsc]; exact S.kind
  induction ok with
  | it p =>
    intro m em t Q hp hn fin
    cases em
    exact wpAny_Name (wpAny_loadName_local kf (show env.scope.names.lookup x = some .local by rw [hsc]; exact S.loc) hn hx (fin y v t.toks ry rv)) hxd
  | v z p i hN hf ho hd hc =>
    intro m em t Q hp hn fin
    obtain ⟨o, e1, e2⟩ := bind_some' em
    have e2 : o = some m := e2
    subst e2
    obtain ⟨w, hw, rw'⟩ := re.2 i m e1
    obtain ⟨mm2, hn2, hl⟩ := I.loc
    obtain ⟨u, ru, lk⟩ := hl i z w hN hw (ho.elim (fun a => .inr (.inl a)) fun a => .inr (.inr a))
    rcases lk with ⟨a, _⟩ | ⟨_, c, ec, ⟨ob, eo, ed⟩⟩
    · have a : X.env.scope.names.lookup z = some .local := a
      rcases ho with b | b <;> rw [a] at b <;> cases b
    · have hcell : t.heap.IsCell c (some u) := by
        refine ⟨ob, hp c ob (fun k => ?_) eo, ed⟩
        obtain ⟨ps, ep⟩ := hP
        rw [k, ep] at eo
        cases eo
        cases ed
      refine wpAny_Name (wpAny_loadName_free kf (show env.scope.names.lookup z = some .free by rw [hsc]; exact hf) ?_ hcell (fin w u t.toks rw' ru) hc) hd
      rw [hcl]
      exact NdefX.clo_has S.free (PySem.mem_of_lookup hf) ec
  | int n j p =>
    intro m em t Q hp hn fin
    cases em
    exact wpAny_Constant_int (fin (.int n) _ _ (by unfold RepV; rfl) ⟨_, rfl⟩)
  | ix a b p qa qb hpl ha hb iha ihb =>
    intro m em t Q hp hn fin
    obtain ⟨ma, e1, em⟩ := bind_some' em
    obtain ⟨mb, e2, em⟩ := bind_some' em
    refine Subscript_ (iha e1 hp hn fun wa za ka ra la => ihb e2 (hp.tok _) hn fun wb zb kb rb lb => ?_)
    have hp2 : Per P s1 { t with toks := kb } := hp
    have oc := or_cases (show (ixL ma mb h).or ((dctO ma h).bind fun d => (dGetO d mb).bind id) = some m from em)
    clear em e1 e2
    rcases oc with em | em
    · unfold ixL at em
      split at em
      · rename_i i
        cases repInt rb
        obtain ⟨tt, rfl⟩ := lb
        split at em
        · rename_i zz _
          split at em
          · rename_i hz
            have := repStr ra
            subst this
            obtain ⟨tz, rfl⟩ := la
            cases e3 : L2.atI zz.cps.toList i with
            | none => rw [e3] at em; cases em
            | some cc =>
              rw [e3] at em
              cases em
              obtain ⟨j, h1, h2, h3, h4, h5⟩ := atI_get e3
              have hl : zz.cps.toList.length = zz.length := by simp [Str.length]
              rw [hl] at h1 h4 h5
              have hn6 := line63
              exact tail_any (typeIs_str _ zz tz) slot_str_getitem.lookup (getItem_str (c := cc) (by
                have e1 : decide (i < -(2 ^ 63 : Int)) = false := decide_eq_false (by omega)
                have e2 : decide (i ≥ 2 ^ 63) = false := decide_eq_false (by omega)
                rw [e1, e2, Bool.or_false]) (by rw [h1]; simpa using h2) (fin (.str ⟨#[cc]⟩) _ _ (by unfold RepV; rfl) ⟨_, rfl⟩)) (hpl _ _)
          · cases em
        · obtain ⟨xs, ex, em⟩ := bind_some' em
          obtain ⟨a', vs, rfl, s2, zz⟩ := rp.items ra ex
          obtain ⟨w, e3, rw'⟩ := zz.atI em
          cases la
          have hn6 := line63
          obtain ⟨j, h1, h2, h3, h4, h5⟩ := atI_get e3
          rcases s2 with s2 | s2
          · obtain ⟨its, r, pl, hz⟩ := Per.list I hP hp2 s2
            obtain ⟨u, eu, ru⟩ := r.get h2
            have hl := r.length
            by_cases h0 : 0 ≤ i
            · have hj : i.toNat = j := by
                rw [seqIndex_of h0 h5] at h1
                exact Option.some.inj h1
              exact item_listR pl.isList h0 (by omega) (by rw [hj]; simpa using eu) (fin _ _ _ rw' ru) (hpl _ _)
            · have hj : (i + (its.toArray.size : Int)).toNat = j := by
                rw [seqIndex_neg (by omega) h4] at h1
                rw [List.size_toArray, ← hl]
                exact Option.some.inj h1
              exact subscriptTail_builtinR (x := u) pl.isList.typeIs slot_list_getitem.lookup
                (wpAny_getItem_list_neg (Q := fun r s' => r = u ∧ Q r s') pl.isList (by omega) (by rw [List.size_toArray] <;> omega) (by omega) (by rw [hj]; simpa using eu) ⟨rfl, fin _ _ _ rw' ru⟩) (hpl _ _)
          · obtain ⟨its, r, pl, hz⟩ := Per.tuple I hP hp2 s2
            obtain ⟨u, eu, ru⟩ := r.get h2
            have hl := r.length
            exact subscriptTail_builtinR (x := u) pl.typeIs slot_tuple_getitem.lookup
              (PyProof.Rows.getItem_tuple (j := j) (Q := fun r s' => r = u ∧ Q r s') pl (by omega) (by omega) (by rw [List.size_toArray, ← hl]; exact h1) (by simpa using eu) ⟨rfl, fin _ _ _ rw' ru⟩) (hpl _ _)
      · cases em
    · obtain ⟨d, ed, em⟩ := bind_some' em
      obtain ⟨o, eg, em⟩ := bind_some' em
      have em : o = some m := em
      subst em
      unfold dGetO at eg
      obtain ⟨kk, ek, eg⟩ := Option.map_eq_some_iff.mp eg
      obtain ⟨l, a', vs, rfl, hy, e4, rfl, e5, e6, zz⟩ := rp.dct ra ed
      cases la
      have ex := repKey rb ek
      subst ex
      obtain ⟨hd, ws, rel, dd⟩ := Per.dict I hP hp2 e5
      obtain ⟨i, ei, eg⟩ := bind_some' eg
      obtain ⟨w, ew, rw'⟩ := zz.get eg
      have lu : valV (d.1.zip vs) kk = some w := by
        rw [valV_zip e6.1, ei]
        exact ew
      obtain ⟨u, hu2, ru⟩ := RelO.some_of (v := w) (o := valueAt ws kk) (by rw [← lu]; exact rel.val kk)
      exact tail_any dd.typeIs PySem.F.slot_dict_getitem.lookup (wpAny_getItem_of (kV_is lb) dd.mapOf hu2 (fin _ _ _ rw' ru)) (hpl _ _)
  | cmp o a b p qa qb hm ha hb iha ihb =>
    intro m em t Q hp hn fin
    obtain ⟨ma, e1, em⟩ := bind_some' em
    obtain ⟨mb, e2, em⟩ := bind_some' em
    obtain ⟨k, ek, rfl⟩ := Option.map_eq_some_iff.mp em
    exact wpAny_Compare1 (iha e1 hp hn fun wa za ka ra la => ihb e2 (hp.tok _) hn fun wb zb kb rb lb => cmpQ_at I hP (hp.tok _) hu o rp ra rb la lb ek fun tk => fin (.bl k) _ _ (by unfold RepV; rfl) rfl) hm
  | and a b p qa qb ha hb iha ihb =>
    intro m em t Q hp hn fin
    obtain ⟨ma, e1, em⟩ := bind_some' em
    refine BoolOp_and (iha e1 hp hn fun wa za ka ra la => ?_)
    split at em
    · cases em
      have : wa = .bl false := by unfold RepV at ra; exact ra
      subst this
      cases la
      exact wpAny_truthy_bool (ite_ff (fin (.bl false) _ _ ra rfl))
    · have : wa = .bl true := by unfold RepV at ra; exact ra
      subst this
      cases la
      exact wpAny_truthy_bool (ite_tt (BoolOp_one (ihb em (hp.tok _) hn fin)))
    · cases em
  | or a b p qa qb ha hb iha ihb =>
    intro m em t Q hp hn fin
    obtain ⟨ma, e1, em⟩ := bind_some' em
    refine BoolOp_or (iha e1 hp hn fun wa za ka ra la => ?_)
    split at em
    · have : wa = .bl false := by unfold RepV at ra; exact ra
      subst this
      cases la
      exact wpAny_truthy_bool (ite_ff (BoolOp_one (ihb em (hp.tok _) hn fin)))
    · cases em
      have : wa = .bl true := by unfold RepV at ra; exact ra
      subst this
      cases la
      exact wpAny_truthy_bool (ite_tt (fin (.bl true) _ _ ra rfl))
    · cases em
  | not a p qa ha iha =>
    intro m em t Q hp hn fin
    obtain ⟨ma, e1, em⟩ := bind_some' em
    refine wpAny_UnaryOp (iha e1 hp hn fun wa za ka ra la => not_of ?_)
    split at em
    · rename_i k
      cases em
      have : wa = .bl k := by unfold RepV at ra; exact ra
      subst this
      cases la
      exact wpAny_truthy_bool (fin (.bl (!k)) _ _ (by unfold RepV; rfl) rfl)
    · cases em

theorem testsO_at {f : MV → Option MV} : ∀ {xs : List MV} {bs : List Bool}, testsO f xs = some bs → bs.length = xs.length ∧ ∀ (i : Nat) (m : MV), xs[i]? = some m → ∃ b, bs[i]? = some b ∧ f m = some (.bl b)
  | [], _, e => by
    cases e
    exact ⟨rfl, fun i m h => by cases h⟩
  | x :: r, bs, e => by
    unfold testsO at e
    split at e
    · rename_i b hb
      obtain ⟨bs2, e2, rfl⟩ := Option.map_eq_some_iff.mp e
      obtain ⟨h1, h2⟩ := testsO_at e2
      refine ⟨by simp [h1], fun i m h => ?_⟩
      cases i with
      | zero =>
        cases h
        exact ⟨b, rfl, hb⟩
      | succ i => exact h2 i m h
    · cases e
theorem any_bits (bs : List Bool) : ((List.range bs.length).any fun i => (bs[i]?).getD false) = bs.any id := by
  rw [Bool.eq_iff_iff, List.any_eq_true, List.any_eq_true]
  constructor
  · rintro ⟨i, hi, e⟩
    have hi := List.mem_range.mp hi
    rw [List.getElem?_eq_getElem hi] at e
    exact ⟨_, List.getElem_mem hi, e⟩
  · rintro ⟨b, hb, e⟩
    obtain ⟨i, hi, e2⟩ := List.getElem_of_mem hb
    refine ⟨i, List.mem_range.mpr hi, ?_⟩
    rw [List.getElem?_eq_getElem hi, e2]
    exact e
theorem all_bits (bs : List Bool) : ((List.range bs.length).all fun i => (bs[i]?).getD false) = bs.all id := by
  rw [Bool.eq_iff_iff, List.all_eq_true, List.all_eq_true]
  constructor
  · intro h b hb
    obtain ⟨i, hi, e2⟩ := List.getElem_of_mem hb
    have := h i (List.mem_range.mpr hi)
    rw [List.getElem?_eq_getElem hi, e2] at this
    exact this
  · intro h i hi
    have hi := List.mem_range.mp hi
    rw [List.getElem?_eq_getElem hi]
    exact h _ (List.getElem_mem hi)
def anyNm (an : Bool) : String := if an then "any" else "all"
theorem snd_genQ {W : WX} {C : Cl} {k l : Nat} {own : Str × Option Str} {c : Addr} {an : Bool} {nm : Str} {q : QE} {a : E} {scope : Scope} {x : Str} {pe iter : Expr} {p px pos gpos : Pos}
    (room : Room k X.A) (hu : X.A.units + 150 < cLine) (hnm : nm = if an then "any" else "all") (hg : Gl X nm) (hm : X.mg nm = none) (TB : GxR.TabB X.base X.mg c (tabA X.K own)) (code : X.env.code = .ref c) (S : X.Ok → GxR.GenS X.env scope x) (fold : ∀ v, genFold iter X.env v = pure v)
    (hd : (x == ("__debug__" : Str)) = false) (hq : QOk X.N X.env.scope scope x pe q) (ha : PE X iter (tI X.K W C a)) :
    PE X (.Call (.Name nm p) [.GeneratorExp pe [⟨.Name x px, iter, [], 0⟩] scope gpos] [] pos) (tI X.K W C (.genQ an l own q a)) := by
  refine ⟨fun pins s σ H Q I ⟨ρ, e, h, re, rp, po⟩ => ?_⟩
  have S := S I.ok
  simp only [E.den] at po
  have main : ∀ {Q2 : Value → Shared → Prop}, (∀ bs : List Bool, ∀ H1, (∀ H2, GxR.Tabbed (tabA X.K own) H1 H2 → Q (.bl (if an then bs.any id else bs.all id)) H2) → ∀ g s5, RdyT X pins σ H1 (tabA X.K own) bs.length (fun i => (bs[i]?).getD false) g s5 → Q2 (.ref g) s5) →
      wpAny (model X.prog X.w) X.A (eval (.GeneratorExp pe [⟨.Name x px, iter, [], 0⟩] scope gpos) X.env) Q2 X.xe s := by
    intro Q2 fin
    refine gen_items (R := fun ws H1 => ∃ (ρ1 : List Addr) (h1 : MH) (xs : List MV) (bs : List Bool), Rep X.K ρ1 h1 H1 ∧ REnv X.K ρ1 H1 e σ ∧ RepVs X.K ρ1 H1 xs ws ∧ testsO (fun m => QE.den e m h1 q) xs = some bs ∧ GxR.TabG H1 (tabA X.K own) ∧ ∀ H2, GxR.Tabbed (tabA X.K own) H1 H2 → Q (.bl (if an then bs.any id else bs.all id)) H2) room TB code S ha fold I
      ⟨ρ, e, h, re, rp, (PostG.bind (R := RepV X.K) po).imp fun v H1 ⟨ρ1, h1, mv, x1, rp1, qv, po1⟩ => ?_⟩ fun ws H1 s1 hR I1 => ?_
    · obtain ⟨b, eb, po2⟩ := po1.of_oR
      unfold genO at eb
      split at eb
      · rename_i y hy
        split at eb
        · rename_i hyx
          subst hyx
          obtain ⟨bs, en, rfl⟩ := Option.map_eq_some_iff.mp eb
          obtain ⟨xs, ex, en⟩ := bind_some' en
          obtain ⟨yl, vs, rfl, sq, z⟩ := rp1.lists qv ex
          obtain ⟨_, tg⟩ := rp1.tab hy
          refine ⟨yl, _, rfl, sq, tg, ρ1, h1, xs, bs, rp1, re.mono rp x1, z, en, tg, fun H2 t2 => ?_⟩
          obtain ⟨x2, rp2⟩ := rp1.tabbed hy t2
          exact po2 ρ1 H2 _ x2 rp2 blRep
        · cases eb
      · cases eb
    · obtain ⟨ρ1, h1, xs, bs, rp1, re1, z, eb, tg, hQ⟩ := hR
      obtain ⟨len, hbs⟩ := testsO_at eb
      have hP : TabAt (tabA X.K own) s1 := by
        obtain ⟨ps, e1, _⟩ := tg
        exact ⟨ps, I1.hok _ _ e1⟩
      have lw : ws.length = bs.length := by rw [len, z.length]
      refine ⟨fun i => (bs[i]?).getD false, ?_, fun g s5 hG => fin bs H1 hQ g s5 (by rw [← lw]; exact hG)⟩
      intro env A2 E2 i v y t mm hs hc hA hu2 hy ry hn hmx hold
      obtain ⟨m, hm2, rm⟩ : ∃ m, xs[i]? = some m ∧ RepV X.K ρ1 H1 m y := by
        have hi := (List.getElem?_eq_some_iff.mp hy).1
        have hx : xs[i]? = some (xs[i]'(by have := z.length; omega)) := List.getElem?_eq_getElem _
        obtain ⟨w, hw, rw'⟩ := z.get hx
        rw [hy] at hw
        cases hw
        exact ⟨_, hx, rw'⟩
      obtain ⟨b, hb, hd2⟩ := hbs i m hm2
      refine hq.run I1 hP S hs hc hd re1 rp1 (by omega) rm ry hmx hd2 hold hn fun w zv tk rw' rl => ?_
      have : w = .bl b := by unfold RepV at rw'; exact rw'
      subst this
      cases rl
      refine ⟨?_, GxR.keeps_tok _ _⟩
      show Value.bool b = .bool ((bs[i]?).getD false)
      rw [hb]
      rfl
  subst hnm
  cases an with
  | true =>
    refine wpAny_Call_Name_kw (ld_blt I hg hm (u := .builtin "any") (by decide +kernel) ?_ (by decide))
    refine PyProof.Rows.callWith_builtin1 ?_ (by rfl) (by rfl)
    refine Calls.spliced_cons (main fun bs H1 hQ g s5 hG => Calls.spliced_nil ?_)
    obtain ⟨fp, wr, G, F, St, Wk, hst, htr, hI⟩ := hG
    refine call_any_walkS (Wk.self 0 _ _ _ hst ⟨g, fp, wr, G, _, F, St, _, rfl, Wk, hst, htr, fun s2 hmv => ?_⟩)
    obtain ⟨H2, hT, J⟩ := hI s2 hmv
    rw [any_bits]
    exact ⟨.bl _, H2, J, rfl, hQ H2 hT⟩
  | false =>
    refine wpAny_Call_Name_kw (ld_blt I hg hm (u := .builtin "all") (by decide +kernel) ?_ (by decide))
    refine PyProof.Rows.callWith_builtin1 ?_ (by rfl) (by rfl)
    refine Calls.spliced_cons (main fun bs H1 hQ g s5 hG => Calls.spliced_nil ?_)
    obtain ⟨fp, wr, G, F, St, Wk, hst, htr, hI⟩ := hG
    refine call_all_walkS (Wk.self 0 _ _ _ hst ⟨g, fp, wr, G, _, F, St, _, rfl, Wk, hst, htr, fun s2 hmv => ?_⟩)
    obtain ⟨H2, hT, J⟩ := hI s2 hmv
    rw [all_bits]
    exact ⟨.bl _, H2, J, rfl, hQ H2 hT⟩
end
end MP
end
section
set_option Elab.async false
set_option linter.all false
set_option maxRecDepth 100000
set_option maxHeartbeats 4000000
/-! MP, part f: what loops walk, targets, comprehensions, statements. -/
namespace MP
open PySem PySem.Spec PyProof.Rows L2

/-! ### what is walked -/
def ItOk (K : PySem.W.Frag) (ρ0 : List Addr) (H0 : Hp) (src : Src) (J : It) : Prop := ∀ (ρ : List Addr) (h : MH) (H : Hp) (i : Nat), Kp ρ0 H0 ρ H → Rep K ρ h H →
  (src i h = some none → J.stop i H) ∧ ∀ v, src i h = some (some v) → J.go i H ∧ ∀ x H', J.yld i H x H' → Ext ρ H ρ H' ∧ Rep K ρ h H' ∧ RepV K ρ H' v x
theorem ItOk.kp {K : PySem.W.Frag} {ρ0 ρ1 : List Addr} {H0 H1 : Hp} {src : Src} {J : It} (x : Kp ρ0 H0 ρ1 H1) (q : ItOk K ρ0 H0 src J) : ItOk K ρ1 H1 src J := fun ρ h H i y r =>
  q ρ h H i ⟨by obtain ⟨t, rfl⟩ := x.pre; obtain ⟨u, rfl⟩ := y.pre; exact ⟨t ++ u, by rw [List.append_assoc]⟩, fun a xs e => y.kt a xs (x.kt a xs e), fun a o u e => y.kf a o u (x.kf a o u e)⟩ r
def tIt (K : PySem.W.Frag) (W : WX) (C : Cl) (k : IK) (as : List E) : TI := fun σ H R => ∃ ρ e h, REnv K ρ H e σ ∧ Rep K ρ h H ∧ (match Es.den C as e h with
  | .ok vs h1 => ∃ src, srcO k vs h1 = some src ∧ ∀ ρ1 H1 J, Ext ρ H ρ1 H1 → Rep K ρ1 h1 H1 → ItOk K ρ1 H1 src J → R J H1
  | .exc x h1 => ∀ ρ' H' cls d, Ext ρ H ρ' H' → Rep K ρ' h1 H' → RepX K ρ' H' x cls d → W cls d σ H'
  | .bad => False)
section
variable {K : PySem.W.Frag} {ρ : List Addr} {h : MH} {H : Hp}
theorem it_tup {xs : List MV} {vs : List V} {a : Addr} (s : SqT K H a vs) (z : RepVs K ρ H xs vs) (uniq : ∀ {ρ1 h1 H1} ws, Kp ρ H ρ1 H1 → Rep K ρ1 h1 H1 → SqT K H1 a ws → True) : ItOk K ρ H (fun i _ => some xs[i]?) (Itt K a) := by
  intro ρ1 h1 H1 i x r
  refine ⟨fun e => ⟨vs, x.sqT s, ?_⟩, fun v e => ?_⟩
  · have e : xs[i]? = none := Option.some.inj e
    rw [z.length]
    exact List.getElem?_eq_none_iff.mp e
  · have e : xs[i]? = some v := Option.some.inj e
    obtain ⟨w, ew, qw⟩ := z.get e
    refine ⟨⟨vs, w, x.sqT s, ew⟩, fun y H' ⟨e1, f⟩ => ?_⟩
    subst e1
    have := f vs (x.sqT s)
    rw [ew] at this
    cases this
    exact ⟨.refl, r, qw.keep x⟩
theorem it_rol {xs : List MV} {vs : List V} {a : Addr} (s : SqC K H a vs) (z : RepVs K ρ H xs vs) : ItOk K ρ H (fun i _ => some xs[i]?) (Itl K a) := by
  intro ρ1 h1 H1 i x r
  refine ⟨fun e => ⟨vs, (x.sqC s).sq, ?_⟩, fun v e => ?_⟩
  · have e : xs[i]? = none := Option.some.inj e
    rw [z.length]
    exact List.getElem?_eq_none_iff.mp e
  · have e : xs[i]? = some v := Option.some.inj e
    obtain ⟨w, ew, qw⟩ := z.get e
    refine ⟨⟨vs, w, (x.sqC s).sq, ew⟩, fun y H' ⟨e1, f⟩ => ?_⟩
    subst e1
    have := f vs (x.sqC s).sq
    rw [ew] at this
    cases this
    exact ⟨.refl, r, qw.keep x⟩
def srcL (l : Nat) : Src := fun i h => match h[l]? with
  | some (.lst xs) => some xs[i]?
  | _ => none
theorem it_loc {l : Nat} {a : Addr} (ea : ρ[l]? = some a) : ItOk K ρ H (srcL l) (Itl K a) := by
  intro ρ1 h1 H1 i x r
  unfold srcL
  refine ⟨fun e => ?_, fun v e => ?_⟩
  · split at e
    · rename_i xs hx
      have e : xs[i]? = none := Option.some.inj e
      obtain ⟨b, vs, e1, e2, z⟩ := r.lst hx
      rw [x.at ea] at e1
      cases e1
      exact ⟨vs, .inl (.inl e2), by rw [z.length]; exact List.getElem?_eq_none_iff.mp e⟩
    · cases e
  · split at e
    · rename_i xs hx
      have e : xs[i]? = some v := Option.some.inj e
      obtain ⟨b, vs, e1, e2, z⟩ := r.lst hx
      rw [x.at ea] at e1
      cases e1
      obtain ⟨w, ew, qw⟩ := z.get e
      refine ⟨⟨vs, w, .inl (.inl e2), ew⟩, fun y H' ⟨e1, f⟩ => ?_⟩
      subst e1
      have := f vs (.inl (.inl e2))
      rw [ew] at this
      cases this
      exact ⟨.refl, r, qw⟩
    · cases e
theorem it_str {x : Str} : ItOk K ρ H (fun i _ => some ((x.cps[i]?).map fun c => .str ⟨#[c]⟩)) (Its x) := by
  intro ρ1 h1 H1 i y r
  refine ⟨fun e => ?_, fun v e => ?_⟩
  · have e : (x.cps[i]?).map (fun c => MV.str ⟨#[c]⟩) = none := Option.some.inj e
    show x.cps.size ≤ i
    exact Array.getElem?_eq_none_iff.mp (Option.map_eq_none_iff.mp e)
  · have e : (x.cps[i]?).map (fun c => MV.str ⟨#[c]⟩) = some v := Option.some.inj e
    obtain ⟨c, ec, ev⟩ := Option.map_eq_some_iff.mp e
    refine ⟨?_, fun z H' ⟨e1, c', ec', ez⟩ => ?_⟩
    · show i < x.cps.size
      exact (Array.getElem?_eq_some_iff.mp ec).1
    · subst e1
      rw [ec] at ec'
      cases ec'
      rw [← ev, ez]
      exact ⟨.refl, r, strRep⟩
theorem it_rng {lo : Int} {n : Nat} : ItOk K ρ H (fun i _ => some (if i < n then some (.int (lo + i)) else none)) (Itr lo n) := by
  intro ρ1 h1 H1 i x r
  refine ⟨fun e => ?_, fun v e => ?_⟩
  · have e : some (if i < n then some (MV.int (lo + i)) else none) = some none := e
    by_cases hi : i < n
    · rw [if_pos hi] at e; cases e
    · exact Nat.le_of_not_lt hi
  · have e : some (if i < n then some (MV.int (lo + i)) else none) = some (some v) := e
    by_cases hi : i < n
    · rw [if_pos hi] at e
      cases e
      refine ⟨hi, fun y H' ⟨e1, f⟩ => ?_⟩
      subst e1
      subst f
      exact ⟨.refl, r, intRep⟩
    · rw [if_neg hi] at e; cases e
end
section
variable {X : Cx} {W : WX} {C : Cl} {tg pa pb : Expr} {a b : E} {pos : Pos}
theorem PIi {iter : Expr} {t t' : TI} (h : PI X tg iter t) (f : ∀ σ H R, t' σ H R → t σ H R) : PI X tg iter t' := ⟨fun pins s σ H R I q => h.run pins s σ H R I (f σ H R q)⟩
theorem snd_itV (ha : PE X pa (tI X.K W C a)) : PI X tg pa (tIt X.K W C .val [a]) := by
  refine ⟨fun pins s σ H R I ⟨ρ, e, h, re, rp, po⟩ => ?_⟩
  simp only [Es.den] at po
  cases hd : E.den C a e h with
  | bad =>
    rw [hd] at po
    exact False.elim po
  | exc y h1 =>
    rw [hd] at po
    refine (pi_list (tg := tg) ha).run pins s σ H R I ⟨ρ, e, h, re, rp, ?_⟩
    rw [hd]
    exact po
  | ok v h1 =>
    rw [hd] at po
    simp only [Res.bind_ok] at po
    obtain ⟨src, es, po⟩ := po
    cases v with
    | tup xs =>
      cases es
      refine (pi_tup (tg := tg) ha).run pins s σ H R I ⟨ρ, e, h, re, rp, ?_⟩
      rw [hd]
      intro ρ1 H1 w x1 rp1 qx
      unfold RepV at qx
      obtain ⟨ad, vs, rfl, s1, z⟩ := qx
      exact ⟨ad, rfl, ⟨vs, s1⟩, po ρ1 H1 _ x1 rp1 (it_tup s1 z fun _ _ _ _ => trivial)⟩
    | rol xs =>
      cases es
      refine (pi_list (tg := tg) ha).run pins s σ H R I ⟨ρ, e, h, re, rp, ?_⟩
      rw [hd]
      intro ρ1 H1 w x1 rp1 qx
      unfold RepV at qx
      obtain ⟨ad, vs, rfl, s1, z⟩ := qx
      exact ⟨ad, rfl, ⟨vs, s1.sq⟩, po ρ1 H1 _ x1 rp1 (it_rol s1 z)⟩
    | str x =>
      cases es
      refine (pi_str (tg := tg) ha).run pins s σ H R I ⟨ρ, e, h, re, rp, ?_⟩
      rw [hd]
      intro ρ1 H1 w x1 rp1 qx
      exact ⟨x, repStr qx, po ρ1 H1 _ x1 rp1 it_str⟩
    | loc l =>
      unfold srcO at es
      simp only at es
      split at es
      · rename_i ys hy
        cases es
        refine (pi_list (tg := tg) ha).run pins s σ H R I ⟨ρ, e, h, re, rp, ?_⟩
        rw [hd]
        intro ρ1 H1 w x1 rp1 qx
        obtain ⟨ad, e1, rfl⟩ := repLoc qx
        obtain ⟨bd, vs, e2, e3, z⟩ := rp1.lst hy
        rw [e1] at e2
        cases e2
        exact ⟨ad, rfl, ⟨vs, .inl (.inl e3)⟩, po ρ1 H1 _ x1 rp1 (it_loc e1)⟩
      · cases es
    | _ => cases es
theorem rev_at {α : Type} {xs : List α} {i : Nat} : xs.reverse[i]? = if i < xs.length then xs[xs.length - 1 - i]? else none := by
  by_cases h : i < xs.length
  · rw [if_pos h, List.getElem?_reverse h]
  · rw [if_neg h, List.getElem?_eq_none (by simpa using Nat.le_of_not_lt h)]
theorem it_rev {K : PySem.W.Frag} {ρ : List Addr} {H : Hp} {xs : List MV} {vs : List V} {a : Addr} (s : SqC K H a vs) (z : RepVs K ρ H xs vs) : ItOk K ρ H (fun i _ => some xs.reverse[i]?) (Itv K a vs.length) := by
  intro ρ1 h1 H1 i x r
  refine ⟨fun e => ?_, fun v e => ?_⟩
  · have e : xs.reverse[i]? = none := Option.some.inj e
    have := List.getElem?_eq_none_iff.mp e
    simp at this
    show vs.length ≤ i
    rw [z.length]
    exact this
  · have e : xs.reverse[i]? = some v := Option.some.inj e
    rw [rev_at] at e
    split at e
    · rename_i hi
      obtain ⟨w, ew, qw⟩ := z.get e
      rw [← z.length] at ew
      refine ⟨⟨by rw [z.length]; exact hi, vs, w, (x.sqC s).sq, ew⟩, fun y H' ⟨e1, f⟩ => ?_⟩
      subst e1
      have := f vs (x.sqC s).sq
      rw [ew] at this
      cases this
      exact ⟨.refl, r, qw.keep x⟩
    · cases e
theorem it_revT {K : PySem.W.Frag} {ρ : List Addr} {H : Hp} {xs : List MV} {vs : List V} {a : Addr} (s : SqT K H a vs) (z : RepVs K ρ H xs vs) : ItOk K ρ H (fun i _ => some xs.reverse[i]?) (RT.ItvT K a vs.length) := by
  intro ρ1 h1 H1 i x r
  refine ⟨fun e => ?_, fun v e => ?_⟩
  · have e : xs.reverse[i]? = none := Option.some.inj e
    have := List.getElem?_eq_none_iff.mp e
    simp at this
    show vs.length ≤ i
    rw [z.length]
    exact this
  · have e : xs.reverse[i]? = some v := Option.some.inj e
    rw [rev_at] at e
    split at e
    · rename_i hi
      obtain ⟨w, ew, qw⟩ := z.get e
      rw [← z.length] at ew
      refine ⟨⟨by rw [z.length]; exact hi, vs, w, x.sqT s, ew⟩, fun y H' ⟨e1, f⟩ => ?_⟩
      subst e1
      have := f vs (x.sqT s)
      rw [ew] at this
      cases this
      exact ⟨.refl, r, qw.keep x⟩
    · cases e
theorem it_revL {K : PySem.W.Frag} {ρ : List Addr} {H : Hp} {l : Nat} {a : Addr} {n : Nat} (ea : ρ[l]? = some a) : ItOk K ρ H (srcRev l n) (Itv K a n) := by
  intro ρ1 h1 H1 i x r
  unfold srcRev
  refine ⟨fun e => ?_, fun v e => ?_⟩
  · split at e
    · split at e
      · rename_i ys hy
        cases e2 : ys[n - 1 - i]? with
        | none => rw [e2] at e; cases e
        | some y => rw [e2] at e; cases e
      · cases e
    · rename_i hi
      exact Nat.le_of_not_lt hi
  · split at e
    · rename_i hi
      split at e
      · rename_i ys hy
        cases e2 : ys[n - 1 - i]? with
        | none => rw [e2] at e; cases e
        | some y =>
          rw [e2] at e
          cases e
          obtain ⟨b, vs, e1, e3, z⟩ := r.lst hy
          rw [x.at ea] at e1
          cases e1
          obtain ⟨w, ew, qw⟩ := z.get e2
          refine ⟨⟨hi, vs, w, .inl (.inl e3), ew⟩, fun y H' ⟨e1, f⟩ => ?_⟩
          subst e1
          have := f vs (.inl (.inl e3))
          rw [ew] at this
          cases this
          exact ⟨.refl, r, qw⟩
      · cases e
    · cases e
theorem snd_rev {p : Pos} (hg : Gl X "reversed") (hm : X.mg "reversed" = none) (ha : PE X pa (tI X.K W C a)) (hs : starEach [pa] X.env = (false, eval pa X.env) :: starEach [] X.env) : PI X tg (.Call (.Name "reversed" p) [pa] [] pos) (tIt X.K W C .rev [a]) := by
  refine PIi (RT.pi_revA hg hm ha hs) fun σ H R ⟨ρ, e, h, re, rp, po⟩ => ?_
  simp only [Es.den] at po
  cases hd : E.den C a e h with
  | bad =>
    rw [hd] at po
    exact False.elim po
  | exc y h1 =>
    rw [hd] at po
    refine ⟨ρ, e, h, re, rp, ?_⟩
    rw [hd]
    exact po
  | ok v h1 =>
    rw [hd] at po
    simp only [Res.bind_ok] at po
    obtain ⟨src, es, po⟩ := po
    refine ⟨ρ, e, h, re, rp, ?_⟩
    rw [hd]
    intro ρ1 H1 w x1 rp1 qx
    cases v with
    | tup xs =>
      cases es
      unfold RepV at qx
      obtain ⟨ad, vs, rfl, s1, z⟩ := qx
      exact ⟨ad, vs, rfl, .inr ⟨s1, po ρ1 H1 _ x1 rp1 (it_revT s1 z)⟩⟩
    | rol xs =>
      cases es
      unfold RepV at qx
      obtain ⟨ad, vs, rfl, s1, z⟩ := qx
      exact ⟨ad, vs, rfl, .inl ⟨s1.sq, po ρ1 H1 _ x1 rp1 (it_rev s1 z)⟩⟩
    | loc l =>
      unfold srcO at es
      simp only at es
      split at es
      · rename_i ys hy
        cases es
        obtain ⟨ad, e1, rfl⟩ := repLoc qx
        obtain ⟨bd, vs, e2, e3, z⟩ := rp1.lst hy
        rw [e1] at e2
        cases e2
        exact ⟨ad, vs, rfl, .inl ⟨.inl (.inl e3), po ρ1 H1 _ x1 rp1 (by rw [z.length]; exact it_revL e1)⟩⟩
      · cases es
    | _ => cases es
/-- zip of two tuples -/
theorem it_zipT {K : PySem.W.Frag} {ρ : List Addr} {H : Hp} {xs ys : List MV} {vs ws : List V} {a b : Addr} (s1 : SqT K H a vs) (z1 : RepVs K ρ H xs vs) (s2 : SqT K H b ws) (z2 : RepVs K ρ H ys ws) :
    ItOk K ρ H (fun i _ => some (List.zipWith (fun x y => MV.tup [x, y]) xs ys)[i]?) (RZ.ItzT K a b) := by
  intro ρ1 h1 H1 i x r
  refine ⟨fun e => ⟨vs, ws, x.sqT s1, x.sqT s2, ?_⟩, fun v e => ?_⟩
  · have e : (List.zipWith (fun x y => MV.tup [x, y]) xs ys)[i]? = none := Option.some.inj e
    rw [List.getElem?_eq_none_iff, List.length_zipWith] at e
    rw [z1.length, z2.length]
    omega
  · have e : (List.zipWith (fun x y => MV.tup [x, y]) xs ys)[i]? = some v := Option.some.inj e
    rw [List.getElem?_zipWith] at e
    split at e
    · rename_i m1 m2 e1 e2
      cases e
      obtain ⟨w1, ew1, q1⟩ := z1.get e1
      obtain ⟨w2, ew2, q2⟩ := z2.get e2
      refine ⟨⟨vs, ws, w1, w2, x.sqT s1, x.sqT s2, ew1, ew2⟩, fun y H' ⟨T, u1, u2, ey, hT, eH, f1, f2⟩ => ?_⟩
      subst ey eH
      have g1 := f1 vs (x.sqT s1)
      rw [ew1] at g1
      cases g1
      have g2 := f2 ws (x.sqT s2)
      rw [ew2] at g2
      cases g2
      have kp : Kp ρ1 H1 ρ1 (upd H1 T (.tup [w1, w2])) := ⟨⟨[], by simp⟩, fun c xs e => by rw [upd_ne (fun z => by rw [z, hT] at e; cases e)]; exact e, fun c o u e => by rw [upd_ne (fun z => by rw [z, hT] at e; cases e)]; exact e⟩
      refine ⟨⟨⟨[], by simp⟩, fun c o e _ => by rw [upd_ne (fun z => by rw [z, hT] at e; cases e)]; exact e, fun c m => .inl m⟩, r.tup hT, ?_⟩
      unfold RepV
      exact ⟨T, [w1, w2], rfl, .inl (.inl upd_same), .cons ((q1.keep x).keep kp) (.cons ((q2.keep x).keep kp) .nil)⟩
    · cases e
theorem snd_zip {elts : List Expr} {kk : Nat} {tpos p : Pos} (hg : Gl X "zip") (hm : X.mg "zip" = none) (ha : PE X pa (tI X.K W C a)) (hb : PE X pb (tI X.K W C b)) (hs : starEach [pa, pb] X.env = (false, eval pa X.env) :: starEach [pb] X.env) (hs1 : starEach [pb] X.env = (false, eval pb X.env) :: starEach [] X.env) :
    PI X (.Tuple elts kk tpos) (.Call (.Name "zip" p) [pa, pb] [] pos) (tIt X.K W C .zip [a, b]) := by
  have hA : PA X [pa, pb] (tIs X.K W C [a, b]) := snd_cons ha (snd_cons hb snd_nil hs1) hs
  refine PIi (RZ.pi_zipA hg hm hA hs (by rw [hs1]; rfl)) fun σ H R ⟨ρ, e, h, re, rp, po⟩ => ?_
  refine ⟨ρ, e, h, re, rp, ?_⟩
  cases hd : Es.den C [a, b] e h with
  | bad =>
    rw [hd] at po
    exact False.elim po
  | exc y h1 =>
    rw [hd] at po
    exact po
  | ok vs h1 =>
    rw [hd] at po
    simp only at po
    obtain ⟨src, es, po⟩ := po
    intro ρ1 H1 w x1 rp1 qx
    unfold srcO at es
    split at es <;> first | (rename_i hk; cases hk; done) | skip
    · rename_i xs ys
      cases es
      obtain ⟨u1, u2, rfl, q1, q2⟩ := qx.of2
      unfold RepV at q1 q2
      obtain ⟨ad, v1, rfl, s1, z1⟩ := q1
      obtain ⟨bd, v2, rfl, s2, z2⟩ := q2
      exact ⟨ad, bd, v1, v2, rfl, .inr ⟨s1, s2, po ρ1 H1 _ x1 rp1 (it_zipT s1 z1 s2 z2)⟩⟩
    all_goals cases es
theorem srcO_rng1 {h : MH} {src : Src} {vs : List MV} (e : srcO .rng1 vs h = some src) : ∃ j : Int, vs = [.int j] ∧ rngOk j = true ∧ src = fun i _ => some (if i < j.toNat then some (.int (0 + i)) else none) := by
  unfold srcO at e
  split at e <;> first | (rename_i hk; cases hk; done) | skip
  · split at e
    · cases e
      exact ⟨_, rfl, by assumption, rfl⟩
    · cases e
  · cases e
theorem srcO_rng2 {h : MH} {src : Src} {vs : List MV} (e : srcO .rng2 vs h = some src) : ∃ a b : Int, vs = [.int a, .int b] ∧ (rngOk a && rngOk b) = true ∧ src = fun i _ => some (if i < (b - a).toNat then some (.int (a + i)) else none) := by
  unfold srcO at e
  split at e <;> first | (rename_i hk; cases hk; done) | skip
  · split at e
    · cases e
      exact ⟨_, _, rfl, by assumption, rfl⟩
    · cases e
  · cases e
theorem snd_rng1 {p : Pos} (hg : Gl X "range") (hm : X.mg "range" = none) (ha : PE X pa (tI X.K W C a)) (hs : starEach [pa] X.env = [(false, eval pa X.env)]) : PI X tg (.Call (.Name "range" p) [pa] [] pos) (tIt X.K W C .rng1 [a]) := by
  have hA : PA X [pa] (tIs X.K W C [a]) := snd_cons ha snd_nil (by rw [hs]; rfl)
  refine PIi (pi_range1 hg hm hA hs) fun σ H R ⟨ρ, e, h, re, rp, po⟩ => ?_
  refine ⟨ρ, e, h, re, rp, ?_⟩
  cases hd : Es.den C [a] e h with
  | bad => rw [hd] at po; exact po
  | exc y h1 => rw [hd] at po; exact po
  | ok vs h1 =>
    rw [hd] at po
    obtain ⟨src, es, po⟩ := po
    intro ρ1 H1 ws x1 rp1 qs
    obtain ⟨j, rfl, hz, rfl⟩ := srcO_rng1 es
    obtain ⟨v, rfl, q⟩ := qs.of1
    obtain ⟨z1, z2⟩ := rngOk_iff hz
    exact ⟨j, by rw [repInt q], z1, z2, po ρ1 H1 _ x1 rp1 it_rng⟩
theorem snd_rng2 {p : Pos} (hg : Gl X "range") (hm : X.mg "range" = none) (ha : PE X pa (tI X.K W C a)) (hb : PE X pb (tI X.K W C b)) (hs : starEach [pa, pb] X.env = [(false, eval pa X.env), (false, eval pb X.env)]) (hs1 : starEach [pb] X.env = [(false, eval pb X.env)]) :
    PI X tg (.Call (.Name "range" p) [pa, pb] [] pos) (tIt X.K W C .rng2 [a, b]) := by
  have hA : PA X [pa, pb] (tIs X.K W C [a, b]) := snd_cons ha (snd_cons hb snd_nil (by rw [hs1]; rfl)) (by rw [hs, hs1])
  refine PIi (pi_range2 hg hm hA hs hs1) fun σ H R ⟨ρ, e, h, re, rp, po⟩ => ?_
  refine ⟨ρ, e, h, re, rp, ?_⟩
  cases hd : Es.den C [a, b] e h with
  | bad => rw [hd] at po; exact po
  | exc y h1 => rw [hd] at po; exact po
  | ok vs h1 =>
    rw [hd] at po
    obtain ⟨src, es, po⟩ := po
    intro ρ1 H1 ws x1 rp1 qs
    obtain ⟨i, j, rfl, hz, rfl⟩ := srcO_rng2 es
    obtain ⟨v, w, rfl, q, q'⟩ := qs.of2
    rw [Bool.and_eq_true] at hz
    obtain ⟨z1, z2⟩ := rngOk_iff hz.1
    obtain ⟨z3, z4⟩ := rngOk_iff hz.2
    exact ⟨i, j, by rw [repInt q, repInt q'], ⟨z1, z2, z3, z4⟩, po ρ1 H1 _ x1 rp1 it_rng⟩

/-! ### targets -/
def tTg (K : PySem.W.Frag) (t : Tg) : TG := fun v σ H Q => ∃ ρ e h m e', REnv K ρ H e σ ∧ Rep K ρ h H ∧ RepV K ρ H m v ∧ t.setH m h e = some e' ∧ ∀ σ', REnv K ρ H e' σ' → Q σ' H
def gSets : List Nat → TGs
  | [] => gNil
  | i :: is => gCons (gName i) (gSets is)
theorem gSets_ok {K : PySem.W.Frag} {ρ : List Addr} {H : Hp} : ∀ {is : List Nat} {ms : List MV} {vs : List V} {e e' : En} {σ : L2.St} {Q : L2.St → Hp → Prop}, tgSets is ms e = some e' → RepVs K ρ H ms vs → REnv K ρ H e σ → (∀ σ', REnv K ρ H e' σ' → Q σ' H) → gSets is vs σ H Q
  | [], [], _, _, _, _, _, h, q, r, f => by
    cases h
    unfold RepVs at q
    exact ⟨q, f _ r⟩
  | [], _ :: _, _, _, _, _, _, h, _, _, _ => by cases h
  | _ :: _, [], _, _, _, _, _, h, _, _, _ => by cases h
  | i :: is, m :: ms, _, e, e', σ, Q, h, q, r, f => by
    unfold RepVs at q
    obtain ⟨w, ws, rfl, a, b⟩ := q
    exact ⟨w, ws, rfl, gSets_ok (is := is) h b (r.set i a) f⟩
theorem tgSets_length : ∀ {is : List Nat} {ms : List MV} {e e' : En}, tgSets is ms e = some e' → ms.length = is.length
  | [], [], _, _, _ => rfl
  | [], _ :: _, _, _, h => by cases h
  | _ :: _, [], _, _, h => by cases h
  | i :: is, m :: ms, e, e', h => by
    show ms.length + 1 = is.length + 1
    rw [tgSets_length (is := is) h]
theorem snd_nm {i : Nat} {x : Str} (hN : X.N.Nodup) (hi : X.N[i]? = some x) (hx : Loc X.env.scope x) (hf : X.fn x = true ∨ X.env.scope.names.lookup x = some .local) : PG X (.Name x pos) (tTg X.K (.nm i)) := by
  refine ⟨fun pins s σ H v u Q I r ⟨ρ, e, h, m, e', re, rp, q, es, f⟩ => (pg_name hN hi hx hf).run pins s σ H v u Q I r ?_⟩
  cases es
  exact f _ (re.set i q)
theorem snd_tp {es : List Expr} {k : Nat} {is : List Nat} (hc : X.calm = true) (h : PGs X es (gSets is)) (hn : (assignEach es X.env).length = is.length) (hst : (assignEach es X.env).findIdx? (·.1) = none) : PG X (.Tuple es k pos) (tTg X.K (.tp is)) := by
  refine ⟨fun pins s σ H v u Q I r ⟨ρ, e, hh, m, e', re, rp, q, es, f⟩ => ?_⟩
  unfold Tg.setH at es
  simp only at es
  split at es
  · rename_i xs
    unfold RepV at q
    obtain ⟨a, vs, rfl, s1, z⟩ := q
    exact (pg_tup hc h hn hst).run pins s σ H _ u Q I r ⟨a, vs, rfl, s1, by rw [z.length]; exact tgSets_length es, gSets_ok es z re f⟩
  · rename_i l
    split at es
    · rename_i xs hx
      obtain ⟨a, e1, rfl⟩ := repLoc q
      obtain ⟨b, vs, e2, e3, z⟩ := rp.lst hx
      rw [e1] at e2
      cases e2
      exact (pg_unl hc h hn hst).run pins s σ H _ u Q I r ⟨a, vs, rfl, .inl (.inl e3), by rw [z.length]; exact tgSets_length es, gSets_ok es z re f⟩
    · cases es
  · cases es

/-! ### comprehensions -/
theorem renv_wipe {K : PySem.W.Frag} {ρ : List Addr} {H : Hp} {e : En} {σ : L2.St} (q : REnv K ρ H e σ) : ∀ ws : List Nat, REnv K ρ H (wipeM e ws) (wipe σ ws)
  | [] => q
  | v :: vs => by
    have ih := renv_wipe q vs
    refine ⟨by unfold wipeM wipe; rw [List.length_set, List.length_set]; exact ih.1, fun i m ei => ?_⟩
    unfold wipeM at ei
    by_cases hi : v = i
    · subst hi
      by_cases hv : v < (wipeM e vs).length
      · rw [List.getElem?_set_self hv] at ei; cases ei
      · rw [List.getElem?_eq_none (by rw [List.length_set]; omega)] at ei; cases ei
    · rw [List.getElem?_set_ne hi] at ei
      obtain ⟨w, a, b⟩ := ih.2 i m ei
      exact ⟨w, by unfold wipe; rw [List.getElem?_set_ne hi]; exact a, b⟩
/-- the target's slots are the block's own -/
def Tg.slots : Tg → List Nat
  | .nm i => [i]
  | .tp is => is
theorem wipe_set {σ : L2.St} {v : Option V} {i : Nat} : ∀ {ws : List Nat}, i ∈ ws → wipe (σ.set i v) ws = wipe σ ws
  | w :: ws, h => by
    unfold wipe
    by_cases hi : i ∈ ws
    · rw [wipe_set hi]
    · have : w = i := by
        rcases List.mem_cons.mp h with rfl | h
        · rfl
        · exact absurd h hi
      subst this
      rw [wipe_comm hi, List.set_set]
where wipe_comm {σ : L2.St} {v : Option V} {i : Nat} : ∀ {ws : List Nat}, i ∉ ws → wipe (σ.set i v) ws = (wipe σ ws).set i v
  | [], _ => rfl
  | w :: ws, h => by
    unfold wipe
    rw [wipe_comm fun z => h (List.mem_cons_of_mem _ z), List.set_comm _ _ fun z => h (by rw [z]; exact List.mem_cons_self)]
theorem wipe_sub {σ : L2.St} {ws : List Nat} : ∀ {vs : List Nat}, (∀ v ∈ vs, v ∈ ws) → wipe (wipe σ vs) ws = wipe σ ws
  | [], _ => rfl
  | v :: vs, h => (wipe_set (h v List.mem_cons_self)).trans (wipe_sub fun u hu => h u (List.mem_cons_of_mem _ hu))
/-- a target's reading that also tells the wiped slots -/
def tTgW (K : PySem.W.Frag) (t : Tg) (ws : List Nat) : TG := fun v σ H Q => ∃ ρ e h m e', REnv K ρ H e σ ∧ Rep K ρ h H ∧ RepV K ρ H m v ∧ t.set m e = some e' ∧ ∀ σ', REnv K ρ H e' σ' → wipe σ' ws = wipe σ ws → Q σ' H
theorem gSetsW_ok {K : PySem.W.Frag} {ρ : List Addr} {H : Hp} {ws : List Nat} {σ0 : L2.St} : ∀ {is : List Nat} {ms : List MV} {vs : List V} {e e' : En} {σ : L2.St} {Q : L2.St → Hp → Prop}, (∀ i ∈ is, i ∈ ws) → tgSets is ms e = some e' → RepVs K ρ H ms vs → REnv K ρ H e σ →
    wipe σ ws = wipe σ0 ws → (∀ σ', REnv K ρ H e' σ' → wipe σ' ws = wipe σ0 ws → Q σ' H) → gSets is vs σ H Q
  | [], [], _, _, _, _, _, _, h, q, r, w, f => by
    cases h
    unfold RepVs at q
    exact ⟨q, f _ r w⟩
  | [], _ :: _, _, _, _, _, _, _, h, _, _, _, _ => by cases h
  | _ :: _, [], _, _, _, _, _, _, h, _, _, _, _ => by cases h
  | i :: is, m :: ms, _, e, e', σ, Q, hw, h, q, r, w, f => by
    unfold RepVs at q
    obtain ⟨y, ys, rfl, a, b⟩ := q
    exact ⟨y, ys, rfl, gSetsW_ok (is := is) (fun j hj => hw j (List.mem_cons_of_mem _ hj)) h b (r.set i a) ((wipe_set (hw i List.mem_cons_self)).trans w) f⟩
theorem snd_nmW {i : Nat} {x : Str} {ws : List Nat} (hw : i ∈ ws) (hN : X.N.Nodup) (hi : X.N[i]? = some x) (hx : Loc X.env.scope x) (hf : X.fn x = true ∨ X.env.scope.names.lookup x = some .local) : PG X (.Name x pos) (tTgW X.K (.nm i) ws) := by
  refine ⟨fun pins s σ H v u Q I r ⟨ρ, e, h, m, e', re, rp, q, es, f⟩ => (pg_name hN hi hx hf).run pins s σ H v u Q I r ?_⟩
  cases es
  exact f _ (re.set i q) (wipe_set hw)
theorem snd_tpW {es : List Expr} {k : Nat} {is ws : List Nat} (hw : ∀ i ∈ is, i ∈ ws) (hc : X.calm = true) (h : PGs X es (gSets is)) (hn : (assignEach es X.env).length = is.length) (hst : (assignEach es X.env).findIdx? (·.1) = none) : PG X (.Tuple es k pos) (tTgW X.K (.tp is) ws) := by
  refine ⟨fun pins s σ H v u Q I r ⟨ρ, e, hh, m, e', re, rp, q, es, f⟩ => (pg_tup hc h hn hst).run pins s σ H v u Q I r ?_⟩
  unfold Tg.set at es
  simp only at es
  split at es
  · rename_i xs
    unfold RepV at q
    obtain ⟨a, vs, rfl, s1, z⟩ := q
    refine ⟨a, vs, rfl, s1, by rw [z.length]; exact tgSets_length es, gSetsW_ok hw es z re rfl f⟩
  · cases es
abbrev WF : WX := fun _ _ _ _ => False
/-- the core: from the loop of ours to tLc's reading -/
theorem lc_ok {K : PySem.W.Frag} {W : WX} {k : IK} {as : List E} {t : Tg} {ws : List Nat} {tst : En → MH → Res Bool} {elt : E} {tt : TT} {σ : L2.St} {H : Hp} {Q : VK}
    (htt : ∀ σ2 H2 ρ2 e2 h2 (Qb : Bool → Hp → Prop), REnv K ρ2 H2 e2 σ2 → Rep K ρ2 h2 H2 → PostG RB K WF σ2 ρ2 H2 (tst e2 h2) Qb → tt σ2 H2 Qb)
    (hh : ∃ ρ e h, REnv K ρ H e σ ∧ Rep K ρ h H ∧ PostG (RepV K) K W σ ρ H ((Es.den C as e h).bind fun vs h1 => match srcO k vs h1 with
      | none => .bad
      | some src => loop .bad (compTurn src t (wipeM e ws) tst (fun e h => E.den C elt e h)) 0 ([], h1)) Q) :
    tLc (tIt K W C k as) (tTgW K t ws) tt (tI K WF C elt) ws σ H Q := by
  obtain ⟨ρ, e, h, re, rp, po⟩ := hh
  refine ⟨ρ, e, h, re, rp, ?_⟩
  cases hd : Es.den C as e h with
  | bad => rw [hd] at po; exact po
  | exc y h1 => rw [hd] at po; exact po
  | ok vs h1 =>
    rw [hd] at po
    simp only [Res.bind_ok] at po
    cases hs : srcO k vs h1 with
    | none => rw [hs] at po; exact po.elim
    | some src =>
      rw [hs] at po
      simp only at po
      refine ⟨src, hs, fun ρ1 H1 J x1 rp1 it D hD => ?_⟩
      have po := PostG.ext po x1
      -- a bound on the turns
      have hb : loop .bad (compTurn src t (wipeM e ws) tst (fun e h => E.den C elt e h)) 0 ([], h1) ≠ .bad := fun z => by rw [z] at po; exact po
      obtain ⟨n, en⟩ := of_loop hb
      rw [← en] at po
      refine ⟨fun i m H2 => ∃ ρ2 acc h2 us, Ext ρ1 H1 ρ2 H2 ∧ Rep K ρ2 h2 H2 ∧ D ∉ ρ2 ∧ H2 D = some (.lst us) ∧ RepVs K ρ2 H2 acc us ∧
        PostG (RepV K) K W σ ρ1 H1 (loopN .bad (compTurn src t (wipeM e ws) tst (fun e h => E.den C elt e h)) m i (acc, h2)) Q, ⟨n, ρ1, [], h1, [], ext_new hD, ?_, rp1.free hD, upd_same, .nil, po⟩, fun i m H2 ⟨ρ2, acc, h2, us, x2, rp2, nD, hD2, qa, po2⟩ => ?_⟩
      · exact rp1.keep (rp1.kp (ext_new hD)) fun a m => upd_ne fun z => rp1.free hD (z ▸ m)
      · cases m with
        | zero => exact po2.elim
        | succ m =>
          unfold loopN at po2
          unfold compTurn at po2
          simp only at po2
          have itk := it ρ2 h2 H2 i (rp1.kp x2) rp2
          cases hsrc : src i h2 with
          | none => rw [hsrc] at po2; exact po2.elim
          | some ov =>
            rw [hsrc] at po2
            cases ov with
            | none =>
              refine .inl ⟨itk.1 hsrc, ?_⟩
              simp only at po2
              refine po2 (ρ2 ++ [D]) H2 (.ref D) ⟨?_, x2.fr, fun a m => ?_⟩ (rp2.join nD ⟨us, hD2, qa⟩) (locRep (by rw [← rp2.len, List.getElem?_concat_length]))
              · obtain ⟨u, rfl⟩ := x2.pre
                exact ⟨u ++ [D], by rw [List.append_assoc]⟩
              · rcases List.mem_append.mp m with m | m
                · exact x2.new a m
                · rw [List.mem_singleton.mp m]
                  exact .inr hD
            | some v =>
              simp only at po2
              obtain ⟨go, yl⟩ := itk.2 v hsrc
              cases hset : t.set v (wipeM e ws) with
              | none => rw [hset] at po2; exact po2.elim
              | some e' =>
                rw [hset] at po2
                simp only at po2
                refine .inr ⟨go, fun H' => ∃ ρ3 acc h3 us, Ext ρ1 H1 ρ3 H' ∧ Rep K ρ3 h3 H' ∧ D ∉ ρ3 ∧ H' D = some (.lst us) ∧ RepVs K ρ3 H' acc us ∧
                  PostG (RepV K) K W σ ρ1 H1 (loopN .bad (compTurn src t (wipeM e ws) tst (fun e h => E.den C elt e h)) m (i + 1) (acc, h3)) Q, fun H' q => ⟨m, Nat.lt_succ_self m, q⟩, fun x H3 y3 => ?_⟩
                obtain ⟨x3, rp3, qv⟩ := yl x H3 y3
                have hD3 : H3 D = some (.lst us) := x3.fr D _ hD2 nD
                have re3 : REnv K ρ2 H3 (wipeM e ws) (wipe σ ws) := ((renv_wipe ((re.mono rp x1).mono rp1 x2) ws).mono rp2 x3)
                refine ⟨ρ2, wipeM e ws, h2, v, e', re3, rp3, qv, hset, fun σ' re' hw => ⟨hw.trans (wipe_sub fun _ z => z), htt σ' H3 ρ2 e' h2 _ re' rp3 ?_⟩⟩
                -- the test
                cases ht : tst e' h2 with
                | bad => rw [ht] at po2; exact po2.elim
                | exc _ _ => rw [ht] at po2; exact po2.elim
                | ok b h4 =>
                  rw [ht] at po2
                  intro ρ4 H4 b' x4 rp4 eb
                  subst eb
                  have nD4 : D ∉ ρ4 := fun z => by
                    rcases x4.new D z with z | z
                    · exact nD z
                    · rw [hD3] at z; cases z
                  have hD4 : H4 D = some (.lst us) := x4.fr D _ hD3 nD
                  have qa4 : RepVs K ρ4 H4 acc us := (qa.mono rp2 x3).mono rp3 x4
                  cases b with
                  | false =>
                    simp only at po2
                    rw [if_neg Bool.false_ne_true]
                    exact ⟨ρ4, acc, h4, us, (x2.trans x3).trans x4, rp4, nD4, hD4, qa4, po2⟩
                  | true =>
                    simp only at po2
                    rw [if_pos rfl]
                    refine ⟨ρ4, e', h4, re'.mono rp3 x4, rp4, ?_⟩
                    cases hel : E.den C elt e' h4 with
                    | bad => rw [hel] at po2; exact po2.elim
                    | exc _ _ => rw [hel] at po2; exact po2.elim
                    | ok y h5 =>
                      rw [hel] at po2
                      simp only at po2
                      intro ρ5 H5 w x5 rp5 qy
                      by_cases hz : acc.length < sizeLine
                      · rw [if_pos hz] at po2
                        simp only at po2
                        have nD5 : D ∉ ρ5 := fun z => by
                          rcases x5.new D z with z | z
                          · exact nD4 z
                          · rw [hD4] at z; cases z
                        have hD5 : H5 D = some (.lst us) := x5.fr D _ hD4 nD4
                        have kp : Kp ρ5 H5 ρ5 (upd H5 D (.lst (us ++ [w]))) := ⟨⟨[], by simp⟩, fun a xs q => by
                          rw [upd_ne fun z => by rw [z, hD5] at q; cases q]; exact q, fun a o u q => by
                          rw [upd_ne fun z => by rw [z, hD5] at q; cases q]; exact q⟩
                        refine ⟨us, hD5, by rw [qa4.length]; exact hz, ρ5, acc ++ [y], h5, us ++ [w], ?_, ?_, nD5, upd_same, ((qa4.mono rp4 x5).append (.one qy)).keep kp, po2⟩
                        · have x6 := ((x2.trans x3).trans x4).trans x5
                          refine ⟨x6.pre, fun a o q na => ?_, x6.new⟩
                          rw [upd_ne fun z => by rw [z, hD] at q; cases q]
                          exact x6.fr a o q na
                        · exact rp5.keep kp fun a m => upd_ne fun z => nD5 (z ▸ m)
                      · rw [if_neg hz] at po2
                        exact po2.elim
/-- .. of a dict -/
theorem dc_ok {K : PySem.W.Frag} {W : WX} {k : IK} {as : List E} {t : Tg} {ws : List Nat} {key val : E} {σ : L2.St} {H : Hp} {Q : VK}
    (hh : ∃ ρ e h, REnv K ρ H e σ ∧ Rep K ρ h H ∧ PostG (RepV K) K W σ ρ H ((Es.den C as e h).bind fun vs h1 => match srcO k vs h1 with
      | none => .bad
      | some src => loop .bad (dcTurn src t (wipeM e ws) (fun e h => (E.den C key e h).bind fun y h1 => (oR h1 (keyO y)).bind fun k h2 => (E.den C val e h2).bind fun z h3 => .ok (k, z) h3)) 0 ([], [], h1)) Q) :
    tDc (tIt K W C k as) (tTgW K t ws) tYes (tI K WF C key) (tI K WF C val) ws σ H Q := by
  obtain ⟨ρ, e, h, re, rp, po⟩ := hh
  refine ⟨ρ, e, h, re, rp, ?_⟩
  cases hd : Es.den C as e h with
  | bad => rw [hd] at po; exact po
  | exc y h1 => rw [hd] at po; exact po
  | ok vs h1 =>
    rw [hd] at po
    simp only [Res.bind_ok] at po
    cases hs : srcO k vs h1 with
    | none => rw [hs] at po; exact po.elim
    | some src =>
      rw [hs] at po
      simp only at po
      refine ⟨src, hs, fun ρ1 H1 J x1 rp1 it D hD => ?_⟩
      have po := PostG.ext po x1
      generalize hel : (fun e h => (E.den C key e h).bind fun y h1 => (oR h1 (keyO y)).bind fun k h2 => (E.den C val e h2).bind fun z h3 => Res.ok (k, z) h3 : En → MH → Res (Key × MV)) = elt at po
      -- a bound on the turns
      have hb : loop .bad (dcTurn src t (wipeM e ws) elt) 0 ([], [], h1) ≠ .bad := fun z => by rw [z] at po; exact po
      obtain ⟨n, en⟩ := of_loop hb
      rw [← en] at po
      refine ⟨fun i m H2 => ∃ ρ2 ks acc h2 us, Ext ρ1 H1 ρ2 H2 ∧ Rep K ρ2 h2 H2 ∧ D ∉ ρ2 ∧ H2 D = some (.dK (ks.zip us)) ∧ (ks.length = us.length ∧ ks.Nodup) ∧ RepVs K ρ2 H2 acc us ∧
        PostG (RepV K) K W σ ρ1 H1 (loopN .bad (dcTurn src t (wipeM e ws) elt) m i (ks, acc, h2)) Q, ⟨n, ρ1, [], [], h1, [], ext_new hD, ?_, rp1.free hD, upd_same, ⟨rfl, List.nodup_nil⟩, .nil, po⟩, fun i m H2 ⟨ρ2, ks, acc, h2, us, x2, rp2, nD, hD2, hk2, qa, po2⟩ => ?_⟩
      · exact rp1.keep (rp1.kp (ext_new hD)) fun a m => upd_ne fun z => rp1.free hD (z ▸ m)
      · cases m with
        | zero => exact po2.elim
        | succ m =>
          unfold loopN at po2
          unfold dcTurn at po2
          simp only at po2
          have itk := it ρ2 h2 H2 i (rp1.kp x2) rp2
          cases hsrc : src i h2 with
          | none => rw [hsrc] at po2; exact po2.elim
          | some ov =>
            rw [hsrc] at po2
            cases ov with
            | none =>
              refine .inl ⟨itk.1 hsrc, ?_⟩
              simp only at po2
              refine po2 (ρ2 ++ [D]) H2 (.ref D) ⟨?_, x2.fr, fun a m => ?_⟩ (rp2.join nD ⟨us, hD2, hk2, qa⟩) (locRep (by rw [← rp2.len, List.getElem?_concat_length]))
              · obtain ⟨u, rfl⟩ := x2.pre
                exact ⟨u ++ [D], by rw [List.append_assoc]⟩
              · rcases List.mem_append.mp m with m | m
                · exact x2.new a m
                · rw [List.mem_singleton.mp m]
                  exact .inr hD
            | some v =>
              simp only at po2
              obtain ⟨go, yl⟩ := itk.2 v hsrc
              cases hset : t.set v (wipeM e ws) with
              | none => rw [hset] at po2; exact po2.elim
              | some e' =>
                rw [hset] at po2
                simp only at po2
                refine .inr ⟨go, fun H' => ∃ ρ3 ks acc h3 us, Ext ρ1 H1 ρ3 H' ∧ Rep K ρ3 h3 H' ∧ D ∉ ρ3 ∧ H' D = some (.dK (ks.zip us)) ∧ (ks.length = us.length ∧ ks.Nodup) ∧ RepVs K ρ3 H' acc us ∧
                  PostG (RepV K) K W σ ρ1 H1 (loopN .bad (dcTurn src t (wipeM e ws) elt) m (i + 1) (ks, acc, h3)) Q, fun H' q => ⟨m, Nat.lt_succ_self m, q⟩, fun x H3 y3 => ?_⟩
                obtain ⟨x3, rp3, qv⟩ := yl x H3 y3
                have hD3 : H3 D = some (.dK (ks.zip us)) := x3.fr D _ hD2 nD
                have re3 : REnv K ρ2 H3 (wipeM e ws) (wipe σ ws) := ((renv_wipe ((re.mono rp x1).mono rp1 x2) ws).mono rp2 x3)
                refine ⟨ρ2, wipeM e ws, h2, v, e', re3, rp3, qv, hset, fun σ' re' hw => ⟨hw.trans (wipe_sub fun _ z => z), ?_⟩⟩
                unfold tYes
                simp only [if_true]
                subst hel
                simp only at po2
                refine ⟨ρ2, e', h2, re', rp3, ?_⟩
                cases hk : E.den C key e' h2 with
                | bad => rw [hk] at po2; exact po2.elim
                | exc _ _ => rw [hk] at po2; exact po2.elim
                | ok ky h4 =>
                  rw [hk, Res.bind_ok] at po2
                  intro ρ4 H4 kw x4 rp4 qk
                  have nD4 : D ∉ ρ4 := fun z => by
                    rcases x4.new D z with z | z
                    · exact nD z
                    · rw [hD3] at z; cases z
                  have hD4 : H4 D = some (.dK (ks.zip us)) := x4.fr D _ hD3 nD
                  have qa4 : RepVs K ρ4 H4 acc us := (qa.mono rp2 x3).mono rp3 x4
                  cases hkk : keyO ky with
                  | none => rw [hkk] at po2; exact po2.elim
                  | some kk =>
                    rw [hkk, oR_some, Res.bind_ok] at po2
                    have ekw := repKey qk hkk
                    refine ⟨ρ4, e', h4, re'.mono rp3 x4, rp4, ?_⟩
                    cases hv : E.den C val e' h4 with
                    | bad => rw [hv] at po2; exact po2.elim
                    | exc _ _ => rw [hv] at po2; exact po2.elim
                    | ok y h5 =>
                      rw [hv, Res.bind_ok] at po2
                      simp only at po2
                      intro ρ5 H5 w x5 rp5 qy
                      by_cases hz : ks.length < sizeLine
                      · rw [if_pos hz] at po2
                        simp only at po2
                        have nD5 : D ∉ ρ5 := fun z => by
                          rcases x5.new D z with z | z
                          · exact nD4 z
                          · rw [hD4] at z; cases z
                        have hD5 : H5 D = some (.dK (ks.zip us)) := x5.fr D _ hD4 nD4
                        have qa5 := qa4.mono rp4 x5
                        obtain ⟨us', z1, z2, z3, z4⟩ := dput_step (k := kk) hk2.1 hk2.2 qa5 qy
                        have kp : Kp ρ5 H5 ρ5 (upd H5 D (.dK (putK (ks.zip us) kk w))) := ⟨⟨[], by simp⟩, fun a xs q => by
                          rw [upd_ne fun z => by rw [z, hD5] at q; cases q]; exact q, fun a o u q => by
                          rw [upd_ne fun z => by rw [z, hD5] at q; cases q]; exact q⟩
                        refine ⟨ks.zip us, kk, ekw, hD5, by rw [List.length_zip, ← hk2.1, Nat.min_self]; exact hz, ρ5, _, _, h5, us', ?_, ?_, nD5, by rw [upd_same, z1], ⟨z2, z3⟩, z4.keep kp, po2⟩
                        · have x6 := ((x2.trans x3).trans x4).trans x5
                          refine ⟨x6.pre, fun a o q na => ?_, x6.new⟩
                          rw [upd_ne fun z => by rw [z, hD] at q; cases q]
                          exact x6.fr a o q na
                        · exact rp5.keep kp fun a m => upd_ne fun z => nD5 (z ▸ m)
                      · rw [if_neg hz] at po2
                        exact po2.elim
/-! ### statements -/
def PostS (K : PySem.W.Frag) (W : WX) (D : Ends) (ρ : List Addr) (H : Hp) (r : SR) : Prop := match r with
  | .nx e h' => ∀ ρ' H' σ', Ext ρ H ρ' H' → Rep K ρ' h' H' → REnv K ρ' H' e σ' → D.nx σ' H'
  | .rt v h' => ∀ ρ' H' w, Ext ρ H ρ' H' → Rep K ρ' h' H' → RepV K ρ' H' v w → D.rt w H'
  | .bk e h' => ∀ ρ' H' σ', Ext ρ H ρ' H' → Rep K ρ' h' H' → REnv K ρ' H' e σ' → D.bk σ' H'
  | .ct e h' => ∀ ρ' H' σ', Ext ρ H ρ' H' → Rep K ρ' h' H' → REnv K ρ' H' e σ' → D.ct σ' H'
  | .exc x e h' => ∀ ρ' H' σ' cls d, Ext ρ H ρ' H' → Rep K ρ' h' H' → REnv K ρ' H' e σ' → RepX K ρ' H' x cls d → W cls d σ' H'
  | .bad => False
def tS (K : PySem.W.Frag) (W : WX) (C : Cl) (s : S) : TS := fun D σ H => ∃ ρ e h, REnv K ρ H e σ ∧ Rep K ρ h H ∧ PostS K W D ρ H (S.den C s e h)
def tSs (K : PySem.W.Frag) (W : WX) (C : Cl) (s : List S) : TS := fun D σ H => ∃ ρ e h, REnv K ρ H e σ ∧ Rep K ρ h H ∧ PostS K W D ρ H (Ss.den C s e h)
theorem PostS.ext {K : PySem.W.Frag} {W : WX} {D : Ends} {ρ ρ1 : List Addr} {H H1 : Hp} {r : SR} (p : PostS K W D ρ H r) (x : Ext ρ H ρ1 H1) : PostS K W D ρ1 H1 r := by
  cases r with
  | nx e h' => exact fun ρ' H' σ' y => p ρ' H' σ' (x.trans y)
  | rt v h' => exact fun ρ' H' w y => p ρ' H' w (x.trans y)
  | bk e h' => exact fun ρ' H' σ' y => p ρ' H' σ' (x.trans y)
  | ct e h' => exact fun ρ' H' σ' y => p ρ' H' σ' (x.trans y)
  | exc z e h' => exact fun ρ' H' σ' c d y => p ρ' H' σ' c d (x.trans y)
  | bad => exact p
/-- an expression, then what follows -/
theorem PostS.sr {α β : Type} {R : List Addr → Hp → α → β → Prop} {K : PySem.W.Frag} {W : WX} {D : Ends} {ρ : List Addr} {H : Hp} {r : Res α} {e : En} {σ : L2.St} {h : MH} {f : α → MH → SR} (re : REnv K ρ H e σ) (rp : Rep K ρ h H) (p : PostS K W D ρ H (r.sr e f)) :
    PostG R K W σ ρ H r (fun b H1 => ∃ ρ1 h1 a, Ext ρ H ρ1 H1 ∧ Rep K ρ1 h1 H1 ∧ R ρ1 H1 a b ∧ REnv K ρ1 H1 e σ ∧ PostS K W D ρ1 H1 (f a h1)) := by
  cases r with
  | ok a h' => exact fun ρ' H' b x rp' q => ⟨ρ', h', a, x, rp', q, re.mono rp x, PostS.ext (r := f a h') p x⟩
  | exc x h' => exact fun ρ' H' cls d y rp' q => p ρ' H' σ cls d y rp' (re.mono rp y) q
  | bad => exact p
variable {ps : List Stmt} {pst : Stmt} {ss : List S} {st : S}
theorem snd_snil : PSs X [] (tSs X.K W C []) := by
  refine ⟨fun pins s σ H D I ⟨ρ, e, h, re, rp, po⟩ => pss_nil.run pins s σ H D I ?_⟩
  simp only [Ss.den] at po
  exact po ρ H σ .refl rp re
theorem snd_scons (h1 : PS X pst (tS X.K W C st)) (h2 : PSs X ps (tSs X.K W C ss)) : PSs X (pst :: ps) (tSs X.K W C (st :: ss)) := by
  refine ⟨fun pins s σ H D I ⟨ρ, e, h, re, rp, po⟩ => (pss_cons h1 h2).run pins s σ H D I ?_⟩
  simp only [Ss.den] at po
  refine ⟨ρ, e, h, re, rp, ?_⟩
  cases hd : S.den C st e h with
  | nx e' h' =>
    rw [hd] at po
    exact fun ρ' H' σ' x rp' re' => ⟨ρ', e', h', re', rp', PostS.ext po x⟩
  | rt v h' => rw [hd] at po; exact po
  | bk e' h' => rw [hd] at po; exact po
  | ct e' h' => rw [hd] at po; exact po
  | exc x e' h' => rw [hd] at po; exact po
  | bad => rw [hd] at po; exact po
theorem snd_expr (ha : PE X pa (tI X.K W C a)) (hs : swapsWith pa none pos.line X.env = pure false) : PS X (.Expr pa pos) (tS X.K W C (.expr a)) := by
  refine PSi (ps_expr ha hs) fun D σ H ⟨ρ, e, h, re, rp, po⟩ => ?_
  simp only [S.den] at po
  exact ⟨ρ, e, h, re, rp, (PostS.sr (R := RepV X.K) re rp po).imp fun x H1 ⟨ρ1, h1, mx, x1, rp1, qx, re1, po1⟩ => po1 ρ1 H1 σ .refl rp1 re1⟩
theorem snd_doc {x : Str} {j : Nat} {p : Pos} : PS X (.Expr (.Constant (.str x) j p) pos) (tS X.K W C .pass) := by
  refine PSi ps_doc fun D σ H ⟨ρ, e, h, re, rp, po⟩ => ?_
  simp only [S.den] at po
  exact po ρ H σ .refl rp re
theorem snd_pass : PS X (.Pass pos) (tS X.K W C .pass) := by
  refine PSi ps_pass fun D σ H ⟨ρ, e, h, re, rp, po⟩ => ?_
  simp only [S.den] at po
  exact po ρ H σ .refl rp re
theorem snd_brk : PS X (.Break pos) (tS X.K W C .brk) := by
  refine PSi ps_break fun D σ H ⟨ρ, e, h, re, rp, po⟩ => ?_
  simp only [S.den] at po
  exact po ρ H σ .refl rp re
theorem snd_cont : PS X (.Continue pos) (tS X.K W C .cont) := by
  refine PSi ps_continue fun D σ H ⟨ρ, e, h, re, rp, po⟩ => ?_
  simp only [S.den] at po
  exact po ρ H σ .refl rp re
theorem snd_bad : PS X pst (tS X.K W C .bad) := by
  refine PSi ps_never fun D σ H ⟨ρ, e, h, re, rp, po⟩ => ?_
  simp only [S.den] at po
  exact po.elim
theorem snd_ret (ha : PE X pa (tI X.K W C a)) : PS X (.Return (some pa) pos) (tS X.K W C (.ret a)) := by
  refine PSi (ps_ret ha) fun D σ H ⟨ρ, e, h, re, rp, po⟩ => ?_
  simp only [S.den] at po
  exact ⟨ρ, e, h, re, rp, (PostS.sr (R := RepV X.K) re rp po).imp fun x H1 ⟨ρ1, h1, mx, x1, rp1, qx, re1, po1⟩ => po1 ρ1 H1 x .refl rp1 qx⟩
theorem snd_retN : PS X (.Return none pos) (tS X.K W C (.ret (.lit .non))) := by
  refine PSi ps_retN fun D σ H ⟨ρ, e, h, re, rp, po⟩ => ?_
  simp only [S.den, E.den, Res.sr_ok] at po
  exact po ρ H .non .refl rp nonRep
theorem snd_iff {pt pf : List Stmt} {t f : List S} (hc : PT X pa (tT X.K W C a)) (ht : PSs X pt (tSs X.K W C t)) (hf : PSs X pf (tSs X.K W C f)) : PS X (.If pa pt pf pos) (tS X.K W C (.iff a t f)) := by
  refine PSi (ps_if hc ht hf) fun D σ H ⟨ρ, e, h, re, rp, po⟩ => ?_
  simp only [S.den] at po
  refine ⟨ρ, e, h, re, rp, (PostS.sr (R := RB) re rp po).imp fun x H1 ⟨ρ1, h1, mx, x1, rp1, qx, re1, po1⟩ => ?_⟩
  subst qx
  cases mx with
  | true => exact ⟨ρ1, e, h1, re1, rp1, po1⟩
  | false => exact ⟨ρ1, e, h1, re1, rp1, po1⟩
/-- name = value, a, b = value -/
theorem asg_ok {K : PySem.W.Frag} {te : TE} {t : Tg} {D : Ends} {σ : L2.St} {H : Hp} (hE : ∀ Q : VK, tI K W C a σ H Q → te σ H Q) (h : tS K W C (.asg t a) D σ H) : tAsg te (tTg K t) D σ H := by
  obtain ⟨ρ, e, h, re, rp, po⟩ := h
  simp only [S.den] at po
  refine hE _ ⟨ρ, e, h, re, rp, (PostS.sr (R := RepV K) re rp po).imp fun x H1 ⟨ρ1, h1, mx, x1, rp1, qx, re1, po1⟩ => ?_⟩
  cases hs : t.setH mx h1 e with
  | none => rw [hs] at po1; exact po1.elim
  | some e' =>
    rw [hs] at po1
    exact ⟨ρ1, e, h1, mx, e', re1, rp1, qx, hs, fun σ' re' => po1 ρ1 H1 σ' .refl rp1 re'⟩
theorem snd_asg {t : Tg} (ha : PE X pa (tI X.K W C a)) (hg : PG X tg (tTg X.K t)) (hs : swapsWithSole [tg] pa pos.line X.env = pure false) (hw : swappedStores [tg] pa X.env = pure none)
    (h1 : (assignEach [tg] X.env).map (·.2) = [assign tg X.env]) : PS X (.Assign [tg] pa pos) (tS X.K W C (.asg t a)) :=
  PSi (ps_asg ha hg hs hw h1) fun D σ H h => asg_ok (fun _ q => q) h
theorem snd_par {i j : Nat} {x y : Str} {px py pt : Pos} {kt k2 pt2} (hc : X.calm = true) (hN : X.N.Nodup) (hi : X.N[i]? = some x) (hj : X.N[j]? = some y) (hij : i ≠ j)
    (hx : X.env.scope.names.lookup x = some .local) (hy : X.env.scope.names.lookup y = some .local) (ha : PE X pa (tI X.K W C a)) (hb : PE X pb (tI X.K W C b)) (hsa : starEach [pa, pb] X.env = [(false, eval pa X.env), (false, eval pb X.env)]) (hsb : starEach [pb] X.env = [(false, eval pb X.env)])
    (hw : swappedStores [.Tuple [.Name x px, .Name y py] kt pt] (.Tuple [pa, pb] k2 pt2) X.env = pure (some [x, y])) :
    PS X (.Assign [.Tuple [.Name x px, .Name y py] kt pt] (.Tuple [pa, pb] k2 pt2) pos) (tS X.K W C (.asg (.tp [i, j]) (.tup [a, b]))) := by
  have hA : PA X [pa, pb] (tIs X.K W C [a, b]) := snd_cons ha (snd_cons hb snd_nil (by rw [hsb]; rfl)) (by rw [hsa, hsb])
  refine PSi (ps_par hc hN hi hj hij hx hy hA hw rfl) fun D σ H ⟨ρ, e, h, re, rp, po⟩ => ?_
  simp only [S.den, E.den] at po
  refine ⟨ρ, e, h, re, rp, ?_⟩
  cases hd : Es.den C [a, b] e h with
  | bad => rw [hd] at po; exact po
  | exc z h1 => rw [hd] at po; exact fun ρ' H' cls d y rp' q => po ρ' H' σ cls d y rp' (re.mono rp y) q
  | ok vs h1 =>
    rw [hd] at po
    intro ρ1 H1 ws x1 rp1 qs
    simp only [Res.bind_ok] at po
    split at po
    · rename_i hz
      simp only [Res.sr_ok] at po
      have hl : vs.length = 2 := by
        have : ∀ {as : List E} {e : En} {h : MH} {vs : List MV} {h1 : MH}, Es.den C as e h = .ok vs h1 → vs.length = as.length := by
          intro as
          induction as with
          | nil => intro e h vs h1 q; simp only [Es.den] at q; cases q; rfl
          | cons b bs ih =>
            intro e h vs h1 q
            simp only [Es.den] at q
            cases h2 : E.den C b e h with
            | ok v h3 =>
              rw [h2] at q
              simp only [Res.bind_ok] at q
              cases h4 : Es.den C bs e h3 with
              | ok us h5 =>
                rw [h4] at q
                simp only [Res.bind_ok] at q
                cases q
                rw [List.length_cons, List.length_cons, ih h4]
              | exc _ _ => rw [h4] at q; cases q
              | bad => rw [h4] at q; cases q
            | exc _ _ => rw [h2] at q; cases q
            | bad => rw [h2] at q; cases q
        exact this hd
      match vs, hl, qs, po with
      | [v, w], _, qs, po =>
        obtain ⟨v', w', rfl, q1, q2⟩ := qs.of2
        exact ⟨v', w', rfl, po ρ1 H1 _ x1 rp1 (((re.mono rp x1).set i q1).set j q2)⟩
    · exact po.elim
theorem snd_aug {i : Nat} {x : Str} {o : BOp} {p : Pos} (hN : X.N.Nodup) (hi : X.N[i]? = some x) (hx : Loc X.env.scope x) (hf : X.fn x = true ∨ X.env.scope.names.lookup x = some .local) (ha : PE X pa (tI X.K W C a)) : PS X (.AugAssign (.Name x p) o.op pa pos) (tS X.K W C (.aug i o a)) := by
  refine PSi (ps_aug hN hi hx ha (ip_M o) hf) fun D σ H ⟨ρ, e, h, re, rp, po⟩ => ?_
  simp only [S.den] at po
  split at po
  · rename_i m em
    obtain ⟨w, ew, qw⟩ := re.2 i m em
    refine ⟨w, ew, ρ, e, h, re, rp, (PostS.sr (R := RepV X.K) re rp po).imp fun y H1 ⟨ρ1, h1, my, x1, rp1, qy, re1, po1⟩ => ?_⟩
    cases ho : augO o m my h1 with
    | none => rw [ho] at po1; exact po1.elim
    | some z =>
      obtain ⟨mz, h2⟩ := z
      rw [ho] at po1
      exact ⟨ρ1, h1, m, my, mz, h2, rp1, qw.mono rp x1, qy, ho, fun ρ2 H2 z x2 rp2 qz => po1 ρ2 H2 _ x2 rp2 ((re1.mono rp1 x2).set i qz)⟩
  · exact po.elim
theorem snd_setIx {c : E} {pc : Expr} {p : Pos} (hu : X.A.units + 1 < cLine) (hc : PE X pc (tI X.K W C c)) (ha : PE X pa (tI X.K W C a)) (hb : PE X pb (tI X.K W C b)) (hs : ∀ v, assign (.Subscript pa pb p) X.env v = (do
      let ov ← holding [v] (eval pa X.env)
      let iv ← holding [v, ov] (eval pb X.env)
      standAt p
      holding [v, ov, iv] (setItem ov iv v)
      release [v, ov, iv] [])) (hsw : swapsWithSole [.Subscript pa pb p] pc pos.line X.env = pure false) (hw : swappedStores [.Subscript pa pb p] pc X.env = pure none)
    : PS X (.Assign [.Subscript pa pb p] pc pos) (tS X.K W C (.setIx a b c)) := by
  refine PSi (ps_asg hc (pg_sub ha hb (set_M hu) hs) hsw hw rfl) fun D σ H ⟨ρ, e, h, re, rp, po⟩ => ?_
  simp only [S.den] at po
  refine ⟨ρ, e, h, re, rp, (PostS.sr (R := RepV X.K) re rp po).imp fun v H1 ⟨ρ1, h1, mv, x1, rp1, qv, re1, po1⟩ => ?_⟩
  refine ⟨ρ1, e, h1, re1, rp1, (PostS.sr (R := RepV X.K) re1 rp1 po1).imp fun o H2 ⟨ρ2, h2, mo, x2, rp2, qo, re2, po2⟩ => ?_⟩
  refine ⟨ρ2, e, h2, re2, rp2, (PostS.sr (R := RepV X.K) re2 rp2 po2).imp fun i H3 ⟨ρ3, h3, mi, x3, rp3, qi, re3, po3⟩ => ?_⟩
  split at po3
  · rename_i h4 he
    exact ⟨ρ3, h3, mo, mi, mv, h4, rp3, qo.mono rp2 x3, qi, (qv.mono rp1 x2).mono rp2 x3, he, fun H' y rp' => po3 ρ3 H' σ y rp' (re3.mono rp3 y)⟩
  · exact po3.elim
theorem snd_setFld {cs : List Str} {f : Str} {c : E} {pc : Expr} {p : Pos} (hF : ∀ c ∈ cs, L2.Cls X.K (He.ga X.K c) ∧ NoAttr X.K (He.ga X.K c) f) (ha : PE X pa (tI X.K W C a)) (hc : PE X pc (tI X.K W C c)) (hs : swapsWith pc (some (.Attribute pa f p)) pos.line X.env = pure false) :
    PS X (.Assign [.Attribute pa f p] pc pos) (tS X.K W C (.setFld cs a f c)) := by
  refine PSi (ps_fld ha hc hs) fun D σ H ⟨ρ, e, h, re, rp, po⟩ => ?_
  simp only [S.den] at po
  refine ⟨ρ, e, h, re, rp, (PostS.sr (R := RepV X.K) re rp po).imp fun v H1 ⟨ρ1, h1, mv, x1, rp1, qv, re1, po1⟩ => ?_⟩
  refine ⟨ρ1, e, h1, re1, rp1, (PostS.sr (R := RepV X.K) re1 rp1 po1).imp fun o H2 ⟨ρ2, h2, mo, x2, rp2, qo, re2, po2⟩ => ?_⟩
  split at po2
  · rename_i h3 he
    unfold setFldO at he
    split at he
    · rename_i l
      obtain ⟨d, ed, he1⟩ := bind_some' he
      split at he1
      · rename_i hz
        cases he1
        obtain ⟨l2, q, dx, vs, e0, hy, e1, rfl, e2, e3, z⟩ := rp2.ins qo ed
        cases e0
        obtain ⟨k1, k2⟩ := hF d.1 (by simpa using hz.1)
        refine ⟨q, _, dx, _, rfl, e2, k1, k2, by rw [List.length_zip]; omega, ?_⟩
        exact po2 ρ2 _ σ (ext_set (List.mem_of_getElem? e1)) (rp2.setF e1 rfl e3.1 e3.2 z (qv.mono rp1 x2)) (re2.mono rp2 (ext_set (List.mem_of_getElem? e1)))
      · cases he1
    · cases he
  · exact po2.elim
theorem snd_whl (hp : PassesOwn (model X.prog X.w) X.A X.env X.xe) (hc : PT X pa (tT X.K W C a)) (hb : PSs X ps (tSs X.K W C ss)) : PS X (.While pa ps [] pos) (tS X.K W C (.whl a ss)) := by
  refine PSi (ps_while hp hc hb) fun D σ H ⟨ρ, e, h, re, rp, po⟩ => ?_
  simp only [S.den] at po
  have hb : loop .bad (whileTurn C a (fun e h => Ss.den C ss e h)) 0 (e, h) ≠ .bad := fun z => by rw [z] at po; exact po
  obtain ⟨n, en⟩ := of_loop hb
  rw [← en] at po
  refine ⟨fun m σ H => ∃ i ρ e h, REnv X.K ρ H e σ ∧ Rep X.K ρ h H ∧ PostS X.K W D ρ H (loopN .bad (whileTurn C a (fun e h => Ss.den C ss e h)) m i (e, h)), ⟨n, 0, ρ, e, h, re, rp, po⟩, fun m σ H ⟨i, ρ, e, h, re, rp, po⟩ => ?_⟩
  cases m with
  | zero => exact po.elim
  | succ m =>
    unfold loopN at po
    unfold whileTurn at po
    simp only at po
    refine ⟨ρ, e, h, re, rp, ?_⟩
    cases ht : E.tst C a e h with
    | bad => rw [ht] at po; exact po
    | exc z h1 => rw [ht] at po; exact fun ρ' H' cls d y rp' q => po ρ' H' σ cls d y rp' (re.mono rp y) q
    | ok k h1 =>
      rw [ht] at po
      intro ρ1 H1 k' x1 rp1 ek
      subst ek
      cases k with
      | false =>
        rw [if_neg Bool.false_ne_true]
        exact po ρ1 H1 σ x1 rp1 (re.mono rp x1)
      | true =>
        rw [if_pos rfl]
        simp only at po
        refine ⟨fun σ H => ∃ i ρ e h, REnv X.K ρ H e σ ∧ Rep X.K ρ h H ∧ PostS X.K W D ρ H (loopN .bad (whileTurn C a (fun e h => Ss.den C ss e h)) m i (e, h)), fun σ' H' q => ⟨m, Nat.lt_succ_self m, q⟩, ρ1, e, h1, re.mono rp x1, rp1, ?_⟩
        cases hd : Ss.den C ss e h1 with
        | nx e2 h2 =>
          rw [hd] at po
          exact fun ρ' H' σ' y rp' re' => ⟨i + 1, ρ', e2, h2, re', rp', PostS.ext po (x1.trans y)⟩
        | ct e2 h2 =>
          rw [hd] at po
          exact fun ρ' H' σ' y rp' re' => ⟨i + 1, ρ', e2, h2, re', rp', PostS.ext po (x1.trans y)⟩
        | bk e2 h2 =>
          rw [hd] at po
          exact fun ρ' H' σ' y rp' re' => po ρ' H' σ' (x1.trans y) rp' re'
        | rt v h2 =>
          rw [hd] at po
          exact fun ρ' H' w y => po ρ' H' w (x1.trans y)
        | exc z e2 h2 =>
          rw [hd] at po
          exact fun ρ' H' σ' c d y => po ρ' H' σ' c d (x1.trans y)
        | bad => rw [hd] at po; exact po
theorem snd_for {k : IK} {as : List E} {t : Tg} {iter : Expr} (hp : PassesOwn (model X.prog X.w) X.A X.env X.xe) (hc : X.calm = true) (hi : PI X tg iter (tIt X.K W C k as)) (hg : PG X tg (tTg X.K t)) (hb : PSs X ps (tSs X.K W C ss))
    (hs : ∀ x, foldedSetIterable iter X.env x = pure x) : PS X (.For tg iter ps [] pos) (tS X.K W C (.for_ t k as ss)) := by
  refine PSi (ps_for hp hc hi hg hb hs) fun D σ H ⟨ρ, e, h, re, rp, po⟩ => ?_
  simp only [S.den] at po
  refine ⟨ρ, e, h, re, rp, ?_⟩
  cases hd : Es.den C as e h with
  | bad => rw [hd] at po; exact po
  | exc y h1 => rw [hd] at po; exact fun ρ' H' cls d y rp' q => po ρ' H' σ cls d y rp' (re.mono rp y) q
  | ok vs h1 =>
    rw [hd] at po
    simp only [Res.sr_ok] at po
    cases hs : srcO k vs h1 with
    | none => rw [hs] at po; exact po.elim
    | some src =>
      rw [hs] at po
      simp only at po
      refine ⟨src, hs, fun ρ1 H1 J x1 rp1 it => ?_⟩
      have po := PostS.ext po x1
      have hb : loop .bad (forTurn src t (fun e h => Ss.den C ss e h)) 0 (e, h1) ≠ .bad := fun z => by rw [z] at po; exact po
      obtain ⟨n, en⟩ := of_loop hb
      rw [← en] at po
      refine ⟨fun i m σ H2 => ∃ ρ2 e h2, Ext ρ1 H1 ρ2 H2 ∧ REnv X.K ρ2 H2 e σ ∧ Rep X.K ρ2 h2 H2 ∧ PostS X.K W D ρ2 H2 (loopN .bad (forTurn src t (fun e h => Ss.den C ss e h)) m i (e, h2)), ⟨n, ρ1, e, h1, .refl, re.mono rp x1, rp1, po⟩, fun i m σ2 H2 ⟨ρ2, e2, h2, x2, re2, rp2, po2⟩ => ?_⟩
      cases m with
      | zero => exact po2.elim
      | succ m =>
        unfold loopN at po2
        unfold forTurn at po2
        simp only at po2
        have itk := it ρ2 h2 H2 i (rp1.kp x2) rp2
        cases hsrc : src i h2 with
        | none => rw [hsrc] at po2; exact po2.elim
        | some ov =>
          rw [hsrc] at po2
          cases ov with
          | none => exact .inl ⟨itk.1 hsrc, po2 ρ2 H2 σ2 .refl rp2 re2⟩
          | some v =>
            simp only at po2
            obtain ⟨go, yl⟩ := itk.2 v hsrc
            cases hset : t.set v e2 with
            | none => rw [hset] at po2; exact po2.elim
            | some e' =>
              rw [hset] at po2
              simp only at po2
              refine .inr ⟨go, fun σ' H' => ∃ ρ3 e3 h3, Ext ρ1 H1 ρ3 H' ∧ REnv X.K ρ3 H' e3 σ' ∧ Rep X.K ρ3 h3 H' ∧ PostS X.K W D ρ3 H' (loopN .bad (forTurn src t (fun e h => Ss.den C ss e h)) m (i + 1) (e3, h3)), fun σ' H' q => ⟨m, Nat.lt_succ_self m, q⟩, fun x H3 y3 => ?_⟩
              obtain ⟨x3, rp3, qv⟩ := yl x H3 y3
              refine ⟨ρ2, e2, h2, v, e', re2.mono rp2 x3, rp3, qv, setH_of hset, fun σ' re' => ⟨ρ2, e', h2, re', rp3, ?_⟩⟩
              cases hd : Ss.den C ss e' h2 with
              | nx e4 h4 =>
                rw [hd] at po2
                exact fun ρ' H' σ' y rp' re' => ⟨ρ', e4, h4, (x2.trans x3).trans y, re', rp', PostS.ext po2 (x3.trans y)⟩
              | ct e4 h4 =>
                rw [hd] at po2
                exact fun ρ' H' σ' y rp' re' => ⟨ρ', e4, h4, (x2.trans x3).trans y, re', rp', PostS.ext po2 (x3.trans y)⟩
              | bk e4 h4 =>
                rw [hd] at po2
                exact fun ρ' H' σ' y rp' re' => po2 ρ' H' σ' (x3.trans y) rp' re'
              | rt v h4 =>
                rw [hd] at po2
                exact fun ρ' H' w y => po2 ρ' H' w (x3.trans y)
              | exc z e4 h4 =>
                rw [hd] at po2
                exact fun ρ' H' σ' c d y => po2 ρ' H' σ' c d (x3.trans y)
              | bad => rw [hd] at po2; exact po2
end
end MP
end
section
set_option Elab.async false
set_option linter.all false
set_option maxRecDepth 100000
set_option maxHeartbeats 4000000
/-! MP, part g: from the model's syntax to the small language. -/
namespace MP
open PySem PySem.Spec PyProof.Rows L2

structure Ge where
  fns : List Str
  consts : List (Str × MV)
  free : List Str
  /-- an attribute's classes; a method's classes and defs; the tables of code objects -/
  flds : List (Str × List Str) := []
  meths : List (Str × List (Str × Nat)) := []
  tabs : List ((Str × Option Str) × Nat) := []
structure Gm where
  G : Ge
  N : List Str
  sc : Scope
  fn : Str → Bool
  own : Str × Option Str := ("", none)
/-- the place of a name -/
def ixOf : List Str → Str → Option Nat
  | [], _ => none
  | y :: r, x => if x = y then some 0 else (ixOf r x).map (· + 1)
theorem ixOf_at : ∀ {l : List Str} {x : Str} {i : Nat}, ixOf l x = some i → l[i]? = some x
  | [], _, _, h => by cases h
  | y :: r, x, i, h => by
    unfold ixOf at h
    split at h
    · rename_i e
      cases h
      rw [e]
      rfl
    · cases e : ixOf r x with
      | none => rw [e] at h; cases h
      | some j =>
        rw [e] at h
        cases h
        show (y :: r)[j + 1]? = some x
        rw [List.getElem?_cons_succ]
        exact ixOf_at e
def plainNm (x : Str) : Bool := !(x == ("" : Str)) && !(x == ("__debug__" : Str)) && (!(x == ("__classdict__" : Str)) && !(x == ("__name__" : Str)))
def visB (sc : Scope) (x : Str) : Bool := match sc.names.lookup x with
  | some .local => true
  | some .cell => true
  | some .free => true
  | _ => false
def locB (Γ : Gm) (x : Str) : Bool := match Γ.sc.names.lookup x with
  | some .local => true
  | some .cell => Γ.fn x
  | _ => false
def glB (sc : Scope) (x : Str) : Bool := match sc.names.lookup x with
  | some .globalImplicit => true
  | _ => false
def notStar : Expr → Bool
  | .Starred _ _ => false
  | _ => true
def notSlice : Expr → Bool
  | .Slice .. => false
  | _ => true
def notCall : Expr → Bool
  | .Call .. => false
  | _ => true
/-- not super() -/
def notSup : Expr → Bool
  | .Call (.Name _ _) [] [] _ => false
  | _ => true
def isSet : Expr → Bool
  | .Set .. => true
  | .List .. => true
  | _ => false
def isFnK (sc : Scope) : Bool := match sc.kind with
  | .function => true
  | _ => false
/-- lo <= x <= hi for x in .. -/
def rngG (es : List Expr) : Option (Int × Int × Expr) := match es with
  | [.GeneratorExp (.Compare (.Constant (.int lo) _ _) [.LtE, .LtE] [.Name x p2, .Constant (.int hi) j2 p3] _) [⟨.Name y _, iter, [], 0⟩] scope _] =>
    if x = y ∧ plainNm x = true ∧ isSet iter = false ∧ lastMarks [.LtE, .LtE] [.Name x p2, .Constant (.int hi) j2 p3] = false ∧ isFnK scope = true ∧ scope.isCoroutine = false ∧ (scope.names.all fun z => z.2 != .cell && z.2 != .free) = true ∧ scope.names.lookup (".0" : Str) = some .local ∧ scope.names.lookup x = some .local
    then some (lo, hi, iter) else none
  | _ => none
def isName : Expr → Str → Bool
  | .Name y _, x => decide (y = x)
  | _, _ => false
def cBop : Operator → Option BOp
  | .Add => some .add
  | .Sub => some .sub
  | .Mult => some .mul
  | .FloorDiv => some .fdiv
  | .Mod => some .mod
  | .Pow => some .pow
  | _ => none
def cCop : CmpOp → Option COp
  | .Eq => some .eq
  | .NotEq => some .ne
  | .Lt => some .lt
  | .LtE => some .le
  | .Gt => some .gt
  | .GtE => some .ge
  | .Is => some .is
  | .IsNot => some .isn
  | .In => some .inn
  | .NotIn => some .nin
theorem cBop_ok {p : Operator} {o : BOp} (h : cBop p = some o) : p = o.op := by
  cases p <;> cases h <;> rfl
theorem cCop_ok {p : CmpOp} {o : COp} (h : cCop p = some o) : p = o.op := by
  cases p <;> cases h <;> rfl
def opts {α β : Type} (f : α → Option β) : List α → Option (List β)
  | [] => some []
  | a :: r => match f a, opts f r with
    | some b, some bs => some (b :: bs)
    | _, _ => none
/-- the block's own names, with their places -/
def ownOf (N : List Str) : List (Str × NameKind) → List (Str × Nat)
  | [] => []
  | (y, k) :: r => match k, ixOf N y with
    | .local, some i => (y, i) :: ownOf N r
    | .cell, some i => (y, i) :: ownOf N r
    | _, _ => ownOf N r
def cNames (Γ : Gm) : List Expr → Option (List Nat)
  | [] => some []
  | .Name x _ :: r => if plainNm x = true ∧ locB Γ x = true then match ixOf Γ.N x, cNames Γ r with
    | some i, some is => some (i :: is)
    | _, _ => none else none
  | _ :: _ => none
def cTg (Γ : Gm) : Expr → Option Tg
  | .Name x _ => if plainNm x = true ∧ locB Γ x = true then (ixOf Γ.N x).map .nm else none
  | .Tuple es _ _ => (cNames Γ es).map .tp
  | _ => none
def cConst : Const → Option MV
  | .int i => some (.int i)
  | .bool b => some (.bl b)
  | .none => some .non
  | .str x => some (.str x)
  | _ => none
def cBi (x : Str) (n : Nat) : Option Bi :=
  if x = "len" then (if n = 1 then some .len else none) else
  if x = "min" then (if n = 2 then some .min2 else if n = 1 then some .minL else none) else
  if x = "max" then (if n = 2 then some .max2 else if n = 1 then some .maxL else none) else
  if x = "abs" then (if n = 1 then some .abs else none) else
  if x = "all" then (if n = 1 then some .allL else none) else
  if x = "any" then (if n = 1 then some .anyL else none) else
  if x = "sum" then (if n = 1 then some .sum else none) else
  if x = "sorted" then (if n = 1 then some .sorted else none) else
  if x = "int" then (if n = 1 then some .int else none) else
  if x = "list" then (if n = 1 then some .list else none) else
  if x = "tuple" then (if n = 1 then some .tuple else none) else none
def tyBi (t : Str) : Option Bi :=
  if t = "int" then some .isInt else if t = "bool" then some .isBool else if t = "list" then some .isList else
  if t = "tuple" then some .isTup else if t = "str" then some .isStr else none
def cMt (x : Str) (n : Nat) : Option Mt :=
  if x = "append" then (if n = 1 then some .append else none) else
  if x = "index" then (if n = 1 then some .index else none) else
  if x = "pop" then (if n = 0 then some .pop else if n = 1 then some .popAt else none) else none
/-- what a for walks -/
def isTupE : Expr → Bool
  | .Tuple _ _ _ => true
  | _ => false
def cIt (Γ : Gm) (c : Expr → Option E) (tg it : Expr) : Option (IK × List E) := match it with
  | .Call (.Name f _) [a] [] _ => if f = "reversed" then (if glB Γ.sc f = true ∧ (ixOf Γ.G.fns f).isNone = true ∧ Γ.G.free.contains f = true ∧ notStar a = true then (c a).map fun a => (.rev, [a]) else none) else if f = "range" then (if glB Γ.sc f = true ∧ (ixOf Γ.G.fns f).isNone = true ∧ Γ.G.free.contains f = true ∧ notStar a = true then (c a).map fun a => (.rng1, [a]) else none) else (c it).map fun a => (.val, [a])
  | .Call (.Name f _) [a, b] [] _ => if f = "range" then (if glB Γ.sc f = true ∧ (ixOf Γ.G.fns f).isNone = true ∧ Γ.G.free.contains f = true ∧ notStar a = true ∧ notStar b = true then match c a, c b with
    | some a, some b => some (.rng2, [a, b])
    | _, _ => none else none) else if f = "zip" then (if glB Γ.sc f = true ∧ (ixOf Γ.G.fns f).isNone = true ∧ Γ.G.free.contains f = true ∧ notStar a = true ∧ notStar b = true ∧ isTupE tg = true then match c a, c b with
    | some a, some b => some (.zip, [a, b])
    | _, _ => none else none) else (c it).map fun a => (.val, [a])
  | _ => (c it).map fun a => (.val, [a])
/-- c.index(a), c a tuple of the module -/
def tconG (Γ : Gm) (o : Expr) (m : Str) (es : List Expr) : Option (MV × Expr) := match o, es with
  | .Name x _, [a] => if m = "index" ∧ plainNm x = true ∧ glB Γ.sc x = true then (match Γ.G.consts.lookup x with
    | some (.tup xs) => some (.tup xs, a)
    | _ => none) else none
  | _, _ => none
/-- a pure test over x of a generator expression -/
def cQ (Γ : Gm) (isc : Scope) (x : Str) (n : Nat) (pe : Expr) : Option QE := match n with
  | 0 => none
  | n + 1 => match pe with
    | .Name y _ => if y = x then some .it else if plainNm y = true ∧ isc.names.lookup y = some .free ∧ (Γ.sc.names.lookup y = some .cell ∨ Γ.sc.names.lookup y = some .free) then (ixOf Γ.N y).map .v else none
    | .Constant (.int i) _ _ => some (.int i)
    | .Subscript a b _ => if notSlice b = true then match cQ Γ isc x n a, cQ Γ isc x n b with
      | some a, some b => some (.ix a b)
      | _, _ => none else none
    | .Compare a [o] [b] _ => if behindInMarks o b = false then match cCop o, cQ Γ isc x n a, cQ Γ isc x n b with
      | some o, some a, some b => some (.cmp o a b)
      | _, _, _ => none else none
    | .BoolOp .And [a, b] _ => match cQ Γ isc x n a, cQ Γ isc x n b with
      | some a, some b => some (.and a b)
      | _, _ => none
    | .BoolOp .Or [a, b] _ => match cQ Γ isc x n a, cQ Γ isc x n b with
      | some a, some b => some (.or a b)
      | _, _ => none
    | .UnaryOp .Not a _ => (cQ Γ isc x n a).map .not
    | _ => none
def genG (Γ : Gm) (n : Nat) (es : List Expr) : Option (QE × Expr) := match es with
  | [.GeneratorExp elt [⟨.Name y _, iter, [], 0⟩] scope _] =>
    if plainNm y = true ∧ isSet iter = false ∧ isFnK scope = true ∧ scope.isCoroutine = false ∧ (scope.names.all fun z => z.2 != .cell && (z.2 != .free || (decide (Γ.sc.names.lookup z.1 = some .cell) || decide (Γ.sc.names.lookup z.1 = some .free)))) = true ∧ scope.names.lookup (".0" : Str) = some .local ∧ scope.names.lookup y = some .local
    then (cQ Γ scope y n elt).map fun q => (q, iter) else none
  | _ => none
def cE (Γ : Gm) (n : Nat) (pe : Expr) : Option E := match n with
  | 0 => none
  | n + 1 => match pe with
    | .Constant c _ _ => (cConst c).map .lit
    | .Name x _ => if plainNm x = true then (if visB Γ.sc x = true then (ixOf Γ.N x).map .var else if glB Γ.sc x = true then (Γ.G.consts.lookup x).map .lit else none) else none
    | .BinOp a o b _ => match cBop o, cE Γ n a, cE Γ n b with
      | some o, some a, some b => some (.bin o a b)
      | _, _, _ => none
    | .UnaryOp .USub a _ => (cE Γ n a).map .neg
    | .UnaryOp .Not a _ => (cE Γ n a).map .not
    | .Compare a [o] [b] _ => if behindInMarks o b = false then match cCop o, cE Γ n a, cE Γ n b with
      | some o, some a, some b => some (.cmp o a b)
      | _, _, _ => none else none
    | .Compare a [o, o'] [b, c] _ => if lastMarks [o, o'] [b, c] = false then match cCop o, cCop o', cE Γ n a, cE Γ n b, cE Γ n c with
      | some o, some o', some a, some b, some c => some (.cmp2 o o' a b c)
      | _, _, _, _, _ => none else none
    | .BoolOp .And [a] _ => cE Γ n a
    | .BoolOp .Or [a] _ => cE Γ n a
    | .BoolOp .And (a :: b :: r) pos => match cE Γ n a, cE Γ n (.BoolOp .And (b :: r) pos) with
      | some a, some b => some (.and a b)
      | _, _ => none
    | .BoolOp .Or (a :: b :: r) pos => match cE Γ n a, cE Γ n (.BoolOp .Or (b :: r) pos) with
      | some a, some b => some (.or a b)
      | _, _ => none
    | .IfExp c a b _ => match cE Γ n c, cE Γ n a, cE Γ n b with
      | some c, some a, some b => some (.ite c a b)
      | _, _, _ => none
    | .Tuple es _ _ => if es.all notStar = true then (opts (cE Γ n) es).map .tup else none
    | .List es _ => if es.all notStar = true then (opts (cE Γ n) es).map .lst else none
    | .Subscript a (.Slice lo hi none _) _ => match cE Γ n a, (match lo with
        | none => some none
        | some l => (cE Γ n l).map some), (match hi with
        | none => some none
        | some u => (cE Γ n u).map some) with
      | some a, some l, some u => some (.sl a l u)
      | _, _, _ => none
    | .Subscript a b _ => if notSlice b = true then match cE Γ n a, cE Γ n b with
      | some a, some b => some (.ix a b)
      | _, _ => none else none
    | .Call (.Name f _) es [] _ => if plainNm f = true ∧ glB Γ.sc f = true ∧ es.all notStar = true then match ixOf Γ.G.fns f with
        | some i => (opts (cE Γ n) es).map (.call i)
        | none => if f = "all" ∧ Γ.G.free.contains f = true ∧ (rngG es).isSome = true then (match rngG es, Γ.G.tabs.lookup Γ.own with
          | some (lo, hi, it), some l => (cE Γ n it).map fun a => .allR l Γ.own lo hi a
          | _, _ => none) else if (f = "all" ∨ f = "any") ∧ Γ.G.free.contains f = true ∧ (genG Γ n es).isSome = true then (match genG Γ n es, Γ.G.tabs.lookup Γ.own with
          | some (q, it), some l => (cE Γ n it).map fun a => .genQ (decide (f = "any")) l Γ.own q a
          | _, _ => none) else if Γ.G.free.contains f = true then (match es with
          | [.Call (.Name r rp) as [] cp] => if f = "list" ∧ r = "range" then (if glB Γ.sc r = true ∧ (ixOf Γ.G.fns r).isNone = true ∧ Γ.G.free.contains r = true ∧ as.all notStar = true then (match as with
              | [a] => (cE Γ n a).map fun a => .bi .lrng [.lit (.int 0), a]
              | [a, b] => match cE Γ n a, cE Γ n b with
                | some a, some b => some (.bi .lrng [a, b])
                | _, _ => none
              | _ => none) else none)
            else if f = "sorted" ∧ r = "set" then (if glB Γ.sc r = true ∧ (ixOf Γ.G.fns r).isNone = true ∧ Γ.G.free.contains r = true ∧ as.all notStar = true then (match as with
              | [a] => (cE Γ n a).map fun a => .bi .sset [a]
              | _ => none) else none)
            else match cBi f es.length, opts (cE Γ n) es with
              | some b, some as => some (.bi b as)
              | _, _ => none
          | [a, .Name t _] => if f = "isinstance" then (if glB Γ.sc t = true ∧ (ixOf Γ.G.fns t).isNone = true ∧ Γ.G.free.contains t = true then (match tyBi t, cE Γ n a with
              | some b, some a => some (.bi b [a])
              | _, _ => none) else none)
            else match cBi f es.length, opts (cE Γ n) es with
              | some b, some as => some (.bi b as)
              | _, _ => none
          | es => match cBi f es.length, opts (cE Γ n) es with
            | some b, some as => some (.bi b as)
            | _, _ => none) else none
      else none
    | .Call (.Attribute o m ap) es [] pos => if es.all notStar = true ∧ notSup o = true ∧ (ap.endLine == pos.line) = true then (if m = "get" then (match es with
        | [a] => match cE Γ n o, cE Γ n a with
          | some o, some a => some (.dget o a)
          | _, _ => none
        | [a, b] => match cE Γ n o, cE Γ n a, cE Γ n b with
          | some o, some a, some b => some (.dget2 o a b)
          | _, _, _ => none
        | _ => none) else match tconG Γ o m es with
      | some (v, a) => (cE Γ n a).map (.tidx v)
      | none => match Γ.G.meths.lookup m with
      | some cs => if es.length < 20 then match cE Γ n o, opts (cE Γ n) es with
        | some a, some as => some (.meth cs m a as)
        | _, _ => none else none
      | none => match cMt m es.length, cE Γ n o, opts (cE Γ n) es with
      | some t, some a, some as => some (.mt t a as)
      | _, _, _ => none) else none
    | .ListComp elt [⟨tg, it, ifs, z⟩] scope _ =>
      let own := ownOf Γ.N scope.names
      let Γ' : Gm := { G := Γ.G, N := Γ.N, sc := relS scope Γ.sc, fn := fun x => scope.names.lookup x == some .cell, own := Γ.own }
      if z = 0 ∧ blkC Γ.N Γ.sc scope own = true then match cIt Γ (cE Γ n) tg it, cTg Γ' tg, cE Γ' n elt with
        | some (k, as), some t, some el => if (t.slots.all fun i => own.map (·.2) |>.contains i) = true then (match ifs with
          | [] => some (.comp (own.map (·.2)) t k as el)
          | [c] => (cE Γ' n c).map fun c => .compIf (own.map (·.2)) t k as c el
          | _ => none) else none
        | _, _, _ => none
      else none
    | .Dict [] [] _ => some .dnew
    | .Dict (k :: ks) vs _ => if (k :: ks).length ≤ 15 then (cPairs (cE Γ n) (k :: ks) vs).map .disp else none
    | .Attribute o f _ => if notSup o = true then match Γ.G.flds.lookup f, cE Γ n o with
      | some cs, some a => some (.fld cs a f)
      | _, _ => none else none
    | .DictComp kx vx [⟨tg, it, [], z⟩] scope _ =>
      let own := ownOf Γ.N scope.names
      let Γ' : Gm := { G := Γ.G, N := Γ.N, sc := relS scope Γ.sc, fn := fun x => scope.names.lookup x == some .cell, own := Γ.own }
      if z = 0 ∧ blkC Γ.N Γ.sc scope own = true then match cIt Γ (cE Γ n) tg it, cTg Γ' tg, cE Γ' n kx, cE Γ' n vx with
        | some (k, as), some t, some key, some val => if (t.slots.all fun i => own.map (·.2) |>.contains i) = true then some (.dcomp (own.map (·.2)) t k as key val) else none
        | _, _, _, _ => none
      else none
    | _ => none
/-- a comprehension of this kind -/
def isComp : Expr → Bool
  | .ListComp .. => true
  | .SetComp .. => true
  | .DictComp .. => true
  | _ => false
def isTuple : Expr → Bool
  | .Tuple .. => true
  | .List .. => true
  | _ => false
/-- name = [..] on one line -/
def swB (Γ : Gm) (tg pe : Expr) : Bool := match tg, pe with
  | .Name y py, .ListComp _ _ scope pos => (decide (Γ.sc.names.lookup y = some .local) && (py.line == pos.line)) && !(scope.names.any fun (n, k) => n == y && (k == .local || k == .cell))
  | .Name y py, .DictComp _ _ _ scope pos => (decide (Γ.sc.names.lookup y = some .local) && (py.line == pos.line)) && !(scope.names.any fun (n, k) => n == y && (k == .local || k == .cell))
  | _, _ => false
def cS (Γ : Gm) (n : Nat) (st : Stmt) : S := match n with
  | 0 => .bad
  | n + 1 => match st with
    | .Pass _ => .pass
    | .Break _ => .brk
    | .Continue _ => .cont
    | .Expr (.Constant (.str _) _ _) _ => .pass
    | .Expr e _ => if isComp e = true then .bad else match cE Γ n e with
      | some a => .expr a
      | none => .bad
    | .Return none _ => .ret (.lit .non)
    | .Return (some e) _ => match cE Γ n e with
      | some a => .ret a
      | none => .bad
    | .If c t f _ => match cE Γ n c with
      | some c => .iff c (t.map (cS Γ n)) (f.map (cS Γ n))
      | none => .bad
    | .While c b [] _ => match cE Γ n c with
      | some c => .whl c (b.map (cS Γ n))
      | none => .bad
    | .For tg it b [] _ => match cTg Γ tg, cIt Γ (cE Γ n) tg it with
      | some t, some (k, as) => .for_ t k as (b.map (cS Γ n))
      | _, _ => .bad
    | .Assign [.Subscript o i _] e _ => if notSlice i = true ∧ isComp e = false then match cE Γ n o, cE Γ n i, cE Γ n e with
      | some o, some i, some e => .setIx o i e
      | _, _, _ => .bad else .bad
    | .Assign [.Attribute o f _] e _ => if isComp e = false then match Γ.G.flds.lookup f, cE Γ n o, cE Γ n e with
      | some cs, some a, some e => .setFld cs a f e
      | _, _, _ => .bad else .bad
    | .Assign [tg] e _ => if (isTuple tg && isTuple e) = true then (match tg, e with
        | .Tuple [.Name x px, .Name y py] _ _, .Tuple [a, b] _ _ => if (decide (Γ.sc.names.lookup x = some .local) && (decide (Γ.sc.names.lookup y = some .local) && (px.line == py.line && (plainNm x && (plainNm y && (notStar a && (notStar b &&
              (!(([a, b].all (foldedForSure 8)) || ([a, b].all (constantsAlone 8))))))))))) = true then match ixOf Γ.N x, ixOf Γ.N y, cE Γ n a, cE Γ n b with
            | some i, some j, some a, some b => if i = j then .bad else .asg (.tp [i, j]) (.tup [a, b])
            | _, _, _, _ => .bad else .bad
        | _, _ => .bad) else match cTg Γ tg, cE Γ n e with
      | some t, some a => .asg t a
      | _, _ => .bad
    | .AugAssign (.Name x _) o e _ => if plainNm x = true ∧ locB Γ x = true then match ixOf Γ.N x, cBop o, cE Γ n e with
      | some i, some o, some a => .aug i o a
      | _, _, _ => .bad else .bad
    | _ => .bad
end MP
end
section
set_option Elab.async false
set_option linter.all false
set_option maxRecDepth 100000
set_option maxHeartbeats 4000000
/-! MP, part h: what the translation gives, the syntax does. -/
namespace MP
open PySem PySem.Spec PyProof.Rows L2

/-- what stands behind the i-th name: a def, a class, or nothing that may be called -/
def FnAt (P : Program) (w : World) (K : PySem.W.Frag) (mg : Str → Option Value) (base : Heap) (C : Cl) (k i : Nat) (x : Str) : Prop :=
  (∃ f fd ps, mg x = some (.ref f) ∧ PySem.W.keepIn K (.ref f) = true ∧ Binds K fd ps [] ∧ FnOk P w K mg base (L2.CX P w) k f fd ps (spI K C i)) ∨
    (∃ (c : Str) (j : Nat) (C' : Cl) (fa : Addr) (fd : FuncData) (ps : List Str) (k' : Nat), k = k' + 1 ∧ mg x = some (.ref (He.ga K c)) ∧ L2.Mk K (He.ga K c) fa ∧ Binds K fd ps [] ∧ FnOk P w K mg base (L2.CX P w) k' fa fd ps (spI K C' j) ∧
      ∀ xs h, C i xs h = .bad ∨ C i xs h = (C' j (.loc h.length :: xs) (h ++ [MO.ins c [] []])).bind fun v h1 => if v.isNon = true then .ok (.loc h.length) h1 else .bad) ∨
    ∃ f, mg x = some (.ref f) ∧ PySem.W.keepIn K (.ref f) = true ∧ ∀ xs h, C i xs h = .bad
/-- the module's facts, by names -/
structure GOk (P : Program) (w : World) (K : PySem.W.Frag) (mg : Str → Option Value) (base : Heap) (C : Cl) (G : Ge) (k : Nat) : Prop where
  fn : ∀ (i : Nat) (x : Str), x ≠ "" → ixOf G.fns x = some i → FnAt P w K mg base C k i x
  fld : ∀ (f : Str) (cs : List Str), G.flds.lookup f = some cs → ∀ c ∈ cs, L2.Cls K (He.ga K c) ∧ NoAttr K (He.ga K c) f
  mth : ∀ (m : Str) (cs : List (Str × Nat)), G.meths.lookup m = some cs → ∀ p ∈ cs, L2.Cls K (He.ga K p.1) ∧ ∃ f fd ps, Meth K (He.ga K p.1) m f ∧ Binds K fd ps [] ∧ FnOk P w K mg base (L2.CX P w) k f fd ps (spI K C p.2)
  tab : ∀ (x : Str × Option Str) (l : Nat), G.tabs.lookup x = some l → GxR.TabB base mg (codA K x) (tabA K x)
  tcs : ∀ (x : Str) (xs : List MV), G.consts.lookup x = some (.tup xs) → ∃ a o, mg x = some (.ref a) ∧ K.lookup a = some o ∧ o.cls = .type "tuple" ∧ o.dict = none
  cst : ∀ (x : Str) (v : MV), G.consts.lookup x = some v → ∃ u w, mg x = some u ∧ RelV w u ∧ ∀ ρ H, RepV K ρ H v w
  free : ∀ x : Str, G.free.contains x = true → mg x = none
structure XOk (X : Cx) (W : WX) (C : Cl) (Γ : Gm) (k : Nat) : Prop where
  N : X.N = Γ.N
  sc : X.env.scope = Γ.sc
  knd : Γ.sc.kind = .function
  fnm : ∀ x, Γ.fn x = true → X.fn x = true
  calm : X.calm = true
  nd : X.N.Nodup
  tk : Takes X W
  own : PassesOwn (model X.prog X.w) X.A X.env X.xe
  room : Room k X.A
  glb : GOk X.prog X.w X.K X.mg X.base C Γ.G k
  code : ∀ l, Γ.G.tabs.lookup Γ.own = some l → X.env.code = .ref (codA X.K Γ.own)
section
variable {X : Cx} {W : WX} {C : Cl} {Γ : Gm} {k : Nat}
theorem XOk.hu (o : XOk X W C Γ k) : X.A.units + 129 < cLine := by have := o.room.un; omega
theorem XOk.vis (o : XOk X W C Γ k) {x : Str} (h : visB Γ.sc x = true) : Vis X.env.scope x := by
  rw [o.sc]
  unfold visB at h
  unfold Vis
  split at h
  · rename_i e; exact .inl e
  · rename_i e; exact .inr (.inl e)
  · rename_i e; exact .inr (.inr e)
  · cases h
theorem XOk.loc (o : XOk X W C Γ k) {x : Str} (h : locB Γ x = true) : L2.Loc X.env.scope x ∧ (X.fn x = true ∨ X.env.scope.names.lookup x = some .local) := by
  rw [o.sc]
  unfold locB at h
  unfold L2.Loc
  split at h
  · rename_i e; exact ⟨.inl e, .inr e⟩
  · rename_i e; exact ⟨.inr e, .inl (o.fnm x h)⟩
  · cases h
theorem XOk.gl (o : XOk X W C Γ k) {x : Str} (h : glB Γ.sc x = true) : Gl X x := by
  unfold Gl
  show X.env.scope.names.lookup x = _
  rw [o.sc]
  unfold glB at h
  split at h
  · rename_i e; exact e
  · cases h
theorem XOk.at (o : XOk X W C Γ k) {x : Str} {i : Nat} (h : ixOf Γ.N x = some i) : X.N[i]? = some x := by
  rw [o.N]
  exact ixOf_at h
theorem plainNm_ok {x : Str} (h : plainNm x = true) : (x == ("__debug__" : Str)) = false ∧ (x == ("__classdict__" : Str)) = false ∧ x ≠ ("__name__" : Str) := by
  unfold plainNm at h
  simp only [Bool.and_eq_true] at h
  obtain ⟨⟨_, a⟩, b, c⟩ := h
  refine ⟨by simpa using a, by simpa using b, fun z => ?_⟩
  rw [z] at c
  simp at c
theorem plainNm_ne {x : Str} (h : plainNm x = true) : x ≠ "" := by
  unfold plainNm at h
  simp only [Bool.and_eq_true] at h
  intro z
  rw [z] at h
  simp at h
theorem starEach_one {a : Expr} {es : List Expr} {env : Env} (h : notStar a = true) : starEach (a :: es) env = (false, eval a env) :: starEach es env := by
  cases a <;> first | rfl | cases h
theorem star_plain {pos : Pos} {env : Env} : ∀ {es : List Expr}, es.all notStar = true → (backTo pos (starEach es env)).any (·.1) = false
  | [], _ => rfl
  | a :: es, h => by
    rw [List.all_cons, Bool.and_eq_true] at h
    rw [starEach_one h.1]
    have ih := star_plain (pos := pos) (env := env) h.2
    unfold backTo at ih ⊢
    rw [List.map_cons, List.any_cons]
    simpa using ih
theorem plainIx_of {b : Expr} (h : notSlice b = true) : PlainIx b := by
  cases b <;> first | (intro o i; rfl) | cases h
theorem fold_of {it : Expr} {env : Env} (h : ∀ es k p, it ≠ .Set es k p) : ∀ x, foldedSetIterable it env x = pure x := by
  intro x
  cases it <;> first | rfl | exact absurd rfl (h _ _ _)
theorem base_of {o : Expr} {m : Str} {env : Env} {t : Sem Value} (h : notSup o = true) : attributeBase o m env t = t := by
  unfold attributeBase
  split
  · cases h
  · rfl
theorem opts_pa {f : Expr → Option E} (hf : ∀ pe e, f pe = some e → PE X pe (tI X.K W C e)) : ∀ {es : List Expr} {as : List E}, es.all notStar = true → opts f es = some as → PA X es (tIs X.K W C as)
  | [], _, _, h => by cases h; exact snd_nil
  | a :: es, as, hs, h => by
    unfold opts at h
    rw [List.all_cons, Bool.and_eq_true] at hs
    cases h1 : f a with
    | none => rw [h1] at h; cases h
    | some b =>
      cases h2 : opts f es with
      | none => rw [h1, h2] at h; cases h
      | some bs =>
        rw [h1, h2] at h
        cases h
        exact snd_cons (hf _ _ h1) (opts_pa hf hs.2 h2) (starEach_one hs.1)
theorem opts_len {α β : Type} {f : α → Option β} : ∀ {es : List α} {as : List β}, opts f es = some as → as.length = es.length
  | [], _, h => by cases h; rfl
  | a :: es, as, h => by
    unfold opts at h
    cases h1 : f a with
    | none => rw [h1] at h; cases h
    | some b =>
      cases h2 : opts f es with
      | none => rw [h1, h2] at h; cases h
      | some bs =>
        rw [h1, h2] at h
        cases h
        rw [List.length_cons, List.length_cons, opts_len h2]
theorem assignEach_name {x : Str} {p : Pos} {es : List Expr} {env : Env} : assignEach (.Name x p :: es) env = (false, assign (.Name x p) env) :: assignEach es env := rfl
theorem cNames_ok (o : XOk X W C Γ k) : ∀ {es : List Expr} {is : List Nat}, cNames Γ es = some is → PGs X es (gSets is) ∧ (assignEach es X.env).length = is.length ∧ (assignEach es X.env).findIdx? (·.1) = none
  | [], _, h => by cases h; exact ⟨pgs_nil, rfl, rfl⟩
  | e :: es, is, h => by
    cases e with
    | Name x p =>
      unfold cNames at h
      split at h
      · rename_i hx
        cases h1 : ixOf Γ.N x with
        | none => rw [h1] at h; cases h
        | some i =>
          cases h2 : cNames Γ es with
          | none => rw [h1, h2] at h; cases h
          | some js =>
            rw [h1, h2] at h
            cases h
            obtain ⟨a, b, c⟩ := cNames_ok o h2
            obtain ⟨l1, l2⟩ := o.loc hx.2
            refine ⟨pgs_cons (pg_name o.nd (o.at h1) l1 l2) a rfl, ?_, ?_⟩
            · rw [assignEach_name, List.length_cons, List.length_cons, b]
            · rw [assignEach_name, List.findIdx?_cons, c]
              rfl
      · cases h
    | _ => cases h
theorem cTg_ok (o : XOk X W C Γ k) {tg : Expr} {t : Tg} (h : cTg Γ tg = some t) : PG X tg (tTg X.K t) := by
  unfold cTg at h
  split at h
  · rename_i x p
    split at h
    · rename_i hx
      cases h1 : ixOf Γ.N x with
      | none => rw [h1] at h; cases h
      | some i =>
        rw [h1] at h
        cases h
        obtain ⟨l1, l2⟩ := o.loc hx.2
        exact snd_nm o.nd (o.at h1) l1 l2
    · cases h
  · rename_i es kk p
    cases h1 : cNames Γ es with
    | none => rw [h1] at h; cases h
    | some is =>
      rw [h1] at h
      cases h
      obtain ⟨a, b, c⟩ := cNames_ok o h1
      exact snd_tp o.calm a b c
  · cases h
theorem cTgW_ok (o : XOk X W C Γ k) {tg : Expr} {t : Tg} {ws : List Nat} (hw : ∀ i ∈ t.slots, i ∈ ws) (h : cTg Γ tg = some t) : PG X tg (tTgW X.K t ws) := by
  unfold cTg at h
  split at h
  · rename_i x p
    split at h
    · rename_i hx
      cases h1 : ixOf Γ.N x with
      | none => rw [h1] at h; cases h
      | some i =>
        rw [h1] at h
        cases h
        obtain ⟨l1, l2⟩ := o.loc hx.2
        exact snd_nmW (hw i (by simp [Tg.slots])) o.nd (o.at h1) l1 l2
    · cases h
  · rename_i es kk p
    cases h1 : cNames Γ es with
    | none => rw [h1] at h; cases h
    | some is =>
      rw [h1] at h
      cases h
      obtain ⟨a, b, c⟩ := cNames_ok o h1
      exact snd_tpW hw o.calm a b c
  · cases h
/-- the block of a comprehension -/
theorem XOk.blk (o : XOk X W C Γ k) {scope : Scope} {own : List (Str × Nat)} (b : blkC Γ.N Γ.sc scope own = true) (s : Shared) (H : Hp) (Cc : Addr) (cl : List (Str × Addr)) (fp : List Addr) :
    XOk (X.blk s H scope (compEnvC scope cl Cc X.env) fp) WF C { G := Γ.G, N := Γ.N, sc := relS scope Γ.sc, fn := fun x => scope.names.lookup x == some .cell, own := Γ.own } k := by
  have bo := blkOk_by b
  refine ⟨o.N, ?_, bo.kind, fun x h => h, o.calm, o.nd, takes_none5', PassesOwn.never, o.room, o.glb, o.code⟩
  show relabel scope X.env = relS scope Γ.sc
  rw [← o.sc]
  rfl
where takes_none5' {X : Cx} : Takes X WF := fun _ _ ⟨_, _, _, _, _, _, _, _, _, _, _, _, _, _, _, _, w⟩ => w.elim
/-- an expression as a value, as a test, as the rest of an and or an or -/
structure Gd (X : Cx) (W : WX) (C : Cl) (pe : Expr) (e : E) : Prop where
  v : PE X pe (tI X.K W C e)
  t : PT X pe (tT X.K W C e)
  w : ∀ op vs pos, pe = .BoolOp op vs pos → PW X pe (tT X.K W C e)
theorem Gd.any {pe : Expr} {e : E} (h : PE X pe (tI X.K W C e)) (he : ∀ whole, isTrue pe X.env whole = (do let v ← whole; standAt pe.pos; holding [v] (truthy v))) (hb : ∀ op vs pos, pe ≠ .BoolOp op vs pos) : Gd X W C pe e :=
  ⟨h, sndT_any h he, fun op vs pos z => absurd z (hb op vs pos)⟩
theorem sndT_ite {pa pb pc : Expr} {a b c : E} {pos : Pos} (hc : PT X pc (tT X.K W C c)) (ha : PT X pa (tT X.K W C a)) (hb : PT X pb (tT X.K W C b)) : PT X (.IfExp pc pa pb pos) (tT X.K W C (.ite c a b)) := by
  refine ⟨fun pins s σ H Q I ⟨ρ, e, h, re, rp, po⟩ => ?_⟩
  rw [tst_ite] at po
  show wpAny _ _ (do if ← isTrue pc X.env (eval pc X.env) then isTrue pa X.env (eval pa X.env) else isTrue pb X.env (eval pb X.env)) _ _ _
  refine wpAny_bind (thn (hc.run pins s σ H _ I ⟨ρ, e, h, re, rp, (PostG.bind (R := RB) po)⟩) fun d s1 ⟨H1, I1, ρ1, h1, k, x1, rp1, ek, po1⟩ => ?_)
  subst ek
  cases k with
  | true => exact ha.run pins s1 σ H1 Q I1 ⟨ρ1, e, h1, re.mono rp x1, rp1, po1⟩
  | false => exact hb.run pins s1 σ H1 Q I1 ⟨ρ1, e, h1, re.mono rp x1, rp1, po1⟩
theorem cConst_ok {c : Const} {v : MV} {j : Nat} {pos : Pos} (h : cConst c = some v) : ∃ w, PE X (.Constant c j pos) (tC w) ∧ ∀ ρ H, RepV X.K ρ H v w := by
  cases c <;> cases h
  · exact ⟨_, pe_non, fun _ _ => nonRep⟩
  · exact ⟨_, pe_bl, fun _ _ => blRep⟩
  · exact ⟨_, pe_int, fun _ _ => intRep⟩
  · exact ⟨_, pe_str, fun _ _ => strRep⟩
theorem cBi_ok (o : XOk X W C Γ k) {f : Str} {n : Nat} {b : Bi} (h : cBi f n = some b) : (∃ id, CallR X (.builtin id) (rsM X.K (biO b)) ∧ bootBuiltins f = some (.builtin id)) ∨ ∃ T, CallR X (.type T) (rsM X.K (biO b)) ∧ bootBuiltins f = some (.type T) := by
  unfold cBi at h
  split at h
  · rename_i e; subst e; split at h <;> cases h; exact .inl ⟨_, cb_len, PySem.boot_len⟩
  split at h
  · rename_i e; subst e
    split at h
    · cases h; exact .inl ⟨_, cb_min2 o.calm, by decide +kernel⟩
    · split at h <;> cases h; exact .inl ⟨_, cb_minL o.calm, by decide +kernel⟩
  split at h
  · rename_i e; subst e
    split at h
    · cases h; exact .inl ⟨_, cb_max2 o.calm, by decide +kernel⟩
    · split at h <;> cases h; exact .inl ⟨_, cb_maxL o.calm, by decide +kernel⟩
  split at h
  · rename_i e; subst e; split at h <;> cases h; exact .inl ⟨_, cb_abs, by decide +kernel⟩
  split at h
  · rename_i e; subst e; split at h <;> cases h; exact .inl ⟨_, cb_allL o.calm, by decide +kernel⟩
  split at h
  · rename_i e; subst e; split at h <;> cases h; exact .inl ⟨_, cb_anyL o.calm, by decide +kernel⟩
  split at h
  · rename_i e; subst e; split at h <;> cases h; exact .inl ⟨_, cb_sum o.calm, by decide +kernel⟩
  split at h
  · rename_i e; subst e; split at h <;> cases h; exact .inl ⟨_, cb_sorted o.calm, by decide +kernel⟩
  split at h
  · rename_i e; subst e; split at h <;> cases h; exact .inr ⟨_, ct_int, by decide +kernel⟩
  split at h
  · rename_i e; subst e; split at h <;> cases h; exact .inr ⟨_, ct_list o.calm, by decide +kernel⟩
  split at h
  · rename_i e; subst e; split at h <;> cases h; exact .inr ⟨_, ct_tuple, by decide +kernel⟩
  · cases h
theorem tyBi_ok {X : Cx} {t : Str} {b : Bi} (h : tyBi t = some b) : ∃ nm : String, CallR X (.builtin "isinstance") (fun vs H Q => ∃ x, vs = [x, .ty nm] ∧ rsM X.K (biO b) [x] H Q) ∧ bootBuiltins t = some (.type nm) ∧ t ≠ "__name__" ∧ (t == ("__debug__" : Str)) = false := by
  unfold tyBi at h
  split at h
  · rename_i e; subst e; cases h; exact ⟨"int", cb_isTy (.inl ⟨rfl, rfl⟩), by decide +kernel, by decide +kernel, by decide +kernel⟩
  split at h
  · rename_i e; subst e; cases h; exact ⟨"bool", cb_isTy (.inr ⟨rfl, rfl⟩), by decide +kernel, by decide +kernel, by decide +kernel⟩
  split at h
  · rename_i e; subst e; cases h; exact ⟨"list", cb_isTn (fun _ _ => rfl) (fun t ht => by simp only [List.mem_cons, List.not_mem_nil, or_false] at ht; rcases ht with rfl | rfl | rfl | rfl | rfl | rfl <;> exact kit_ty (by decide +kernel)), by decide +kernel, by decide +kernel, by decide +kernel⟩
  split at h
  · rename_i e; subst e; cases h; exact ⟨"tuple", cb_isTn (fun _ _ => rfl) (fun t ht => by simp only [List.mem_cons, List.not_mem_nil, or_false] at ht; rcases ht with rfl | rfl | rfl | rfl | rfl | rfl <;> exact kit_ty (by decide +kernel)), by decide +kernel, by decide +kernel, by decide +kernel⟩
  split at h
  · rename_i e; subst e; cases h; exact ⟨"str", cb_isTn (fun _ _ => rfl) (fun t ht => by simp only [List.mem_cons, List.not_mem_nil, or_false] at ht; rcases ht with rfl | rfl | rfl | rfl | rfl | rfl <;> exact kit_ty (by decide +kernel)), by decide +kernel, by decide +kernel, by decide +kernel⟩
  · cases h
theorem cMt_ok {m : Str} {n : Nat} {t : Mt} (h : cMt m n = some t) : ∃ id, Slot "list" m id ∧ typeOf (.builtin id) = pure (.type "method_descriptor") ∧ MtR X id (rmM X.K (mtO t)) ∧ n ≤ 1 := by
  unfold cMt at h
  split at h
  · rename_i e; subst e
    split at h
    · rename_i en
      cases h
      exact ⟨_, PySem.F.slot_list_append, PySem.F.type_list_append, mt_appendM, by omega⟩
    · cases h
  split at h
  · rename_i e; subst e
    split at h
    · rename_i en
      cases h
      exact ⟨_, PySem.F.slot_list_index, PySem.F.type_list_index, mt_indexM, by omega⟩
    · cases h
  split at h
  · rename_i e; subst e
    split at h
    · rename_i en
      cases h
      exact ⟨_, PySem.F.slot_list_pop, PySem.F.type_list_pop, mt_popM, by omega⟩
    split at h
    · rename_i en
      cases h
      exact ⟨_, PySem.F.slot_list_pop, PySem.F.type_list_pop, mt_popAtM, by omega⟩
    · cases h
  · cases h
theorem cIt_ok {X : Cx} {W : WX} {C : Cl} {Γ : Gm} {k : Nat} (o : XOk X W C Γ k) {f : Expr → Option E} (hf : ∀ pe e, f pe = some e → PE X pe (tI X.K W C e)) {tg it : Expr} {ik : IK} {as : List E} (h : cIt Γ f tg it = some (ik, as)) : PI X tg it (tIt X.K W C ik as) := by
  have gen : (f it).map (fun a => ((.val, [a]) : IK × List E)) = some (ik, as) → PI X tg it (tIt X.K W C ik as) := fun h => by
    cases h1 : f it with
    | none => rw [h1] at h; cases h
    | some a =>
      rw [h1] at h
      cases h
      exact snd_itV (hf _ _ h1)
  unfold cIt at h
  split at h
  · rename_i x p a pos
    split at h
    · rename_i e
      subst e
      split at h
      · rename_i hx
        cases h1 : f a with
        | none => rw [h1] at h; cases h
        | some b =>
          rw [h1] at h
          cases h
          exact snd_rev (o.gl hx.1) (o.glb.free _ hx.2.2.1) (hf _ _ h1) (starEach_one hx.2.2.2)
      · cases h
    split at h
    · rename_i e
      subst e
      split at h
      · rename_i hx
        cases h1 : f a with
        | none => rw [h1] at h; cases h
        | some b =>
          rw [h1] at h
          cases h
          exact snd_rng1 (o.gl hx.1) (o.glb.free _ hx.2.2.1) (hf _ _ h1) (by rw [starEach_one hx.2.2.2]; rfl)
      · cases h
    · exact gen h
  · rename_i x p a b pos
    split at h
    · rename_i e
      subst e
      split at h
      · rename_i hx
        cases h1 : f a with
        | none => rw [h1] at h; cases h
        | some a' =>
          cases h2 : f b with
          | none => rw [h1, h2] at h; cases h
          | some b' =>
            rw [h1, h2] at h
            cases h
            exact snd_rng2 (o.gl hx.1) (o.glb.free _ hx.2.2.1) (hf _ _ h1) (hf _ _ h2) (by rw [starEach_one hx.2.2.2.1, starEach_one hx.2.2.2.2]; rfl) (by rw [starEach_one hx.2.2.2.2]; rfl)
      · cases h
    split at h
    · rename_i e
      subst e
      split at h
      · rename_i hx
        cases h1 : f a with
        | none => rw [h1] at h; cases h
        | some a' =>
          cases h2 : f b with
          | none => rw [h1, h2] at h; cases h
          | some b' =>
            rw [h1, h2] at h
            cases h
            have ht := hx.2.2.2.2.2
            cases tg <;> first | cases ht | skip
            exact snd_zip (o.gl hx.1) (o.glb.free _ hx.2.2.1) (hf _ _ h1) (hf _ _ h2) (by rw [starEach_one hx.2.2.2.1]) (by rw [starEach_one hx.2.2.2.2.1])
      · cases h
    · exact gen h
  · exact gen h
theorem genFold_no {it : Expr} {env : Env} (h : isSet it = false) : ∀ v, genFold it env v = pure v := by
  intro v
  unfold genFold
  cases it <;> first | rfl | cases h
theorem rngG_of {es : List Expr} {lo hi : Int} {it : Expr} {env : Env} (h : rngG es = some (lo, hi, it)) :
    ∃ (x : Str) (j1 j2 : Nat) (p1 p2 p3 p4 px gp : Pos) (sc : Scope), es = [.GeneratorExp (.Compare (.Constant (.int lo) j1 p1) [.LtE, .LtE] [.Name x p2, .Constant (.int hi) j2 p3] p4) [⟨.Name x px, it, [], 0⟩] sc gp] ∧
      (x == ("__debug__" : Str)) = false ∧ (∀ v, genFold it env v = pure v) ∧ lastMarks [.LtE, .LtE] [.Name x p2, .Constant (.int hi) j2 p3] = false ∧ GxR.GenS env sc x := by
  unfold rngG at h
  split at h
  · split at h
    · rename_i hz
      simp only [Option.some.injEq, Prod.mk.injEq] at h
      obtain ⟨rfl, rfl, rfl⟩ := h
      obtain ⟨rfl, a1, a2, a3, a4, a5, a6, a7, a8⟩ := hz
      simp only [List.all_eq_true, Bool.and_eq_true, bne_iff_ne, ne_eq] at a6
      refine ⟨_, _, _, _, _, _, _, _, _, _, rfl, (plainNm_ok a1).1, genFold_no a2, a3, ⟨?_, a5, fun y hy => (a6 y hy).1, a7, a8, fun y hy e => absurd e (a6 y hy).2⟩⟩
      unfold isFnK at a4
      split at a4
      · assumption
      · cases a4
    · cases h
  · cases h
theorem cQ_ok {Γ : Gm} {isc : Scope} {x : Str} : ∀ {n : Nat} {pe : Expr} {q : QE}, cQ Γ isc x n pe = some q → QOk Γ.N Γ.sc isc x pe q
  | 0, _, _, h => by cases h
  | n + 1, pe, q, h => by
    unfold cQ at h
    simp only at h
    split at h
    · split at h
      · rename_i e
        subst e
        cases h
        exact .it _
      · split at h
        · rename_i hz
          obtain ⟨i, ei, rfl⟩ := Option.map_eq_some_iff.mp h
          exact .v _ _ i (ixOf_at ei) hz.2.1 hz.2.2 (plainNm_ok hz.1).1 (plainNm_ok hz.1).2.1
        · cases h
    · cases h
      exact .int _ _ _
    · split at h
      · rename_i hs
        split at h
        · rename_i e1 e2
          cases h
          exact .ix _ _ _ _ _ (plainIx_of hs) (cQ_ok e1) (cQ_ok e2)
        · cases h
      · cases h
    · split at h
      · rename_i hm
        split at h
        · rename_i e0 e1 e2
          cases h
          rw [cCop_ok e0] at hm ⊢
          exact .cmp _ _ _ _ _ _ hm (cQ_ok e1) (cQ_ok e2)
        · cases h
      · cases h
    · split at h
      · rename_i e1 e2
        cases h
        exact .and _ _ _ _ _ (cQ_ok e1) (cQ_ok e2)
      · cases h
    · split at h
      · rename_i e1 e2
        cases h
        exact .or _ _ _ _ _ (cQ_ok e1) (cQ_ok e2)
      · cases h
    · obtain ⟨qa, ea, rfl⟩ := Option.map_eq_some_iff.mp h
      exact .not _ _ _ (cQ_ok ea)
    · cases h
theorem genG_of {X : Cx} {Γ : Gm} {n : Nat} {es : List Expr} {q : QE} {it : Expr} (hsc : X.env.scope = Γ.sc) (h : genG Γ n es = some (q, it)) :
    ∃ (x : Str) (px gp : Pos) (sc : Scope) (pe : Expr), es = [.GeneratorExp pe [⟨.Name x px, it, [], 0⟩] sc gp] ∧ (x == ("__debug__" : Str)) = false ∧ (∀ v, genFold it X.env v = pure v) ∧ QOk Γ.N Γ.sc sc x pe q ∧ (X.Ok → GxR.GenS X.env sc x) := by
  unfold genG at h
  split at h
  · split at h
    · rename_i hz
      obtain ⟨qq, eq, e⟩ := Option.map_eq_some_iff.mp h
      cases e
      obtain ⟨a1, a2, a4, a5, a6, a7, a8⟩ := hz
      simp only [List.all_eq_true, Bool.and_eq_true, bne_iff_ne, ne_eq, Bool.or_eq_true, decide_eq_true_eq] at a6
      refine ⟨_, _, _, _, _, rfl, (plainNm_ok a1).1, genFold_no a2, cQ_ok eq, fun ok => ⟨?_, a5, fun y hy => (a6 y hy).1, a7, a8, fun y hy e => ?_⟩⟩
      · unfold isFnK at a4
        split at a4
        · assumption
        · cases a4
      · rcases (a6 y hy).2 with z | z | z
        · exact absurd e z
        · exact ok.has _ (.inl (show X.env.scope.names.lookup y.1 = some .cell by rw [hsc]; exact z))
        · exact ok.has _ (.inr (show X.env.scope.names.lookup y.1 = some .free by rw [hsc]; exact z))
    · cases h
  · cases h
theorem tcon_of {Γ : Gm} {ob : Expr} {m : Str} {es : List Expr} {v : MV} {a : Expr} (h : tconG Γ ob m es = some (v, a)) :
    ∃ x p xs, ob = .Name x p ∧ es = [a] ∧ m = "index" ∧ v = .tup xs ∧ plainNm x = true ∧ glB Γ.sc x = true ∧ Γ.G.consts.lookup x = some (.tup xs) := by
  unfold tconG at h
  split at h
  · rename_i x p a2
    split at h
    · rename_i hz
      split at h
      · rename_i xs hx
        cases h
        exact ⟨x, p, xs, rfl, rfl, hz.1, rfl, hz.2.1, hz.2.2, hx⟩
      · cases h
    · cases h
  · cases h
theorem comp_parts {n : Nat} {X : Cx} {W : WX} {C : Cl} {Γ : Gm} {k : Nat} (o : XOk X W C Γ k) (ih : ∀ {X : Cx} {W : WX} {Γ : Gm}, XOk X W C Γ k → ∀ {pe : Expr} {e : E}, cE Γ n pe = some e → Gd X W C pe e)
    {elt : Expr} {gs : List Comprehension} {scope : Scope} {pos : Pos} {e : E} (h : cE Γ (n + 1) (.ListComp elt gs scope pos) = some e) :
    ∃ (tg it : Expr) (ifs : List Expr) (wi : TI) (g : TG) (tt : TT) (te : TE) (own : List (Str × Nat)), gs = [⟨tg, it, ifs, 0⟩] ∧ PI X tg it wi ∧ BlkOk X.N X.env.scope scope own ∧
      (∀ (s : Shared) (H : Hp) (Cc : Addr) (cl : List (Str × Addr)) (fp : List Addr), PG (X.blk s H scope (compEnvC scope cl Cc X.env) fp) tg g) ∧
      (∀ (s : Shared) (H : Hp) (Cc : Addr) (cl : List (Str × Addr)) (fp : List Addr), PTs (X.blk s H scope (compEnvC scope cl Cc X.env) fp) ifs tt) ∧
      (∀ (s : Shared) (H : Hp) (Cc : Addr) (cl : List (Str × Addr)) (fp : List Addr), PE (X.blk s H scope (compEnvC scope cl Cc X.env) fp) elt te) ∧
      (∀ x, foldedSetIterable it X.env x = pure x) ∧ ∀ σ H Q, tI X.K W C e σ H Q → tLc wi g tt te (own.map (·.2)) σ H Q := by
  have ihv : ∀ pe e, cE Γ n pe = some e → PE X pe (tI X.K W C e) := fun pe e h => (ih o h).v
  unfold cE at h
  split at h <;> try (rename_i hk; cases hk; done)
  case h_19 elt tg it ifs z scope p heq =>
    cases heq
    simp only at h
    split at h
    · rename_i hx
      obtain ⟨rfl, hb⟩ := hx
      split at h
      · rename_i ik as t el hit htg hel
        split at h
        · rename_i hw
          have hw' : ∀ i ∈ t.slots, i ∈ (ownOf Γ.N scope.names).map (·.2) := fun i hi => by
            have := List.all_eq_true.mp hw i hi
            simpa using this
          have bo := blkOk_by hb
          have bo : BlkOk X.N X.env.scope scope (ownOf Γ.N scope.names) := by rw [o.N, o.sc]; exact bo
          have pi : PI X tg it (tIt X.K W C ik as) := cIt_ok o ihv hit
          have hset : ∀ es kk pp, it ≠ .Set es kk pp := fun es kk pp z => by
            subst z
            have q : (cE Γ n (.Set es kk pp)).map (fun a => ((.val, [a]) : IK × List E)) = some (ik, as) := hit
            cases n with
            | zero => cases q
            | succ n => cases q
          split at h
          · cases h
            refine ⟨tg, it, [], tIt X.K W C ik as, tTgW X.K t ((ownOf Γ.N scope.names).map (·.2)), tYes, tI X.K WF C el, ownOf Γ.N scope.names, rfl, pi, bo, fun s H Cc cl fp => cTgW_ok (o.blk hb s H Cc cl fp) hw' htg, fun s H Cc cl fp => pts_nil, fun s H Cc cl fp => (ih (o.blk hb s H Cc cl fp) hel).v, fold_of hset, fun σ H Q ⟨ρ, e, h, re, rp, po⟩ => ?_⟩
            simp only [E.den] at po
            exact lc_ok (fun σ2 H2 ρ2 e2 h2 Qb re2 rp2 po2 => po2.here rp2 rfl) ⟨ρ, e, h, re, rp, po⟩
          · rename_i c
            cases h1 : cE { G := Γ.G, N := Γ.N, sc := relS scope Γ.sc, fn := fun x => scope.names.lookup x == some .cell, own := Γ.own } n c with
            | none => rw [h1] at h; cases h
            | some c' =>
              rw [h1] at h
              cases h
              refine ⟨tg, it, [c], tIt X.K W C ik as, tTgW X.K t ((ownOf Γ.N scope.names).map (·.2)), tT X.K WF C c', tI X.K WF C el, ownOf Γ.N scope.names, rfl, pi, bo, fun s H Cc cl fp => cTgW_ok (o.blk hb s H Cc cl fp) hw' htg, fun s H Cc cl fp => pts_one (ih (o.blk hb s H Cc cl fp) h1).t, fun s H Cc cl fp => (ih (o.blk hb s H Cc cl fp) hel).v, fold_of hset, fun σ H Q ⟨ρ, e, h, re, rp, po⟩ => ?_⟩
              simp only [E.den] at po
              exact lc_ok (fun σ2 H2 ρ2 e2 h2 Qb re2 rp2 po2 => ⟨ρ2, e2, h2, re2, rp2, po2⟩) ⟨ρ, e, h, re, rp, po⟩
          · cases h
        · cases h
      · cases h
    · cases h
  case h_24 => cases h
theorem dcomp_parts {n : Nat} {X : Cx} {W : WX} {C : Cl} {Γ : Gm} {k : Nat} (o : XOk X W C Γ k) (ih : ∀ {X : Cx} {W : WX} {Γ : Gm}, XOk X W C Γ k → ∀ {pe : Expr} {e : E}, cE Γ n pe = some e → Gd X W C pe e)
    {kx vx : Expr} {gs : List Comprehension} {scope : Scope} {pos : Pos} {e : E} (h : cE Γ (n + 1) (.DictComp kx vx gs scope pos) = some e) :
    ∃ (tg it : Expr) (wi : TI) (g : TG) (tk tv : TE) (own : List (Str × Nat)), gs = [⟨tg, it, [], 0⟩] ∧ PI X tg it wi ∧ BlkOk X.N X.env.scope scope own ∧
      (∀ (s : Shared) (H : Hp) (Cc : Addr) (cl : List (Str × Addr)) (fp : List Addr), PG (X.blk s H scope (compEnvC scope cl Cc X.env) fp) tg g) ∧
      (∀ (s : Shared) (H : Hp) (Cc : Addr) (cl : List (Str × Addr)) (fp : List Addr), PTs (X.blk s H scope (compEnvC scope cl Cc X.env) fp) [] tYes) ∧
      (∀ (s : Shared) (H : Hp) (Cc : Addr) (cl : List (Str × Addr)) (fp : List Addr), PE (X.blk s H scope (compEnvC scope cl Cc X.env) fp) kx tk) ∧
      (∀ (s : Shared) (H : Hp) (Cc : Addr) (cl : List (Str × Addr)) (fp : List Addr), PE (X.blk s H scope (compEnvC scope cl Cc X.env) fp) vx tv) ∧
      (∀ x, foldedSetIterable it X.env x = pure x) ∧ ∀ σ H Q, tI X.K W C e σ H Q → tDc wi g tYes tk tv (own.map (·.2)) σ H Q := by
  have ihv : ∀ pe e, cE Γ n pe = some e → PE X pe (tI X.K W C e) := fun pe e h => (ih o h).v
  unfold cE at h
  split at h <;> try (rename_i hk; cases hk; done)
  case h_23 kx vx tg it z scope p heq =>
    cases heq
    simp only at h
    split at h
    · rename_i hx
      obtain ⟨rfl, hb⟩ := hx
      split at h
      · rename_i ik as t key val hit htg hkey hval
        split at h
        · rename_i hw
          cases h
          have hw' : ∀ i ∈ t.slots, i ∈ (ownOf Γ.N scope.names).map (·.2) := fun i hi => by
            have := List.all_eq_true.mp hw i hi
            simpa using this
          have bo := blkOk_by hb
          have bo : BlkOk X.N X.env.scope scope (ownOf Γ.N scope.names) := by rw [o.N, o.sc]; exact bo
          have pi : PI X tg it (tIt X.K W C ik as) := cIt_ok o ihv hit
          have hset : ∀ es kk pp, it ≠ .Set es kk pp := fun es kk pp z => by
            subst z
            have q : (cE Γ n (.Set es kk pp)).map (fun a => ((.val, [a]) : IK × List E)) = some (ik, as) := hit
            cases n with
            | zero => cases q
            | succ n => cases q
          refine ⟨tg, it, tIt X.K W C ik as, tTgW X.K t ((ownOf Γ.N scope.names).map (·.2)), tI X.K WF C key, tI X.K WF C val, ownOf Γ.N scope.names, rfl, pi, bo, fun s H Cc cl fp => cTgW_ok (o.blk hb s H Cc cl fp) hw' htg, fun s H Cc cl fp => pts_nil, fun s H Cc cl fp => (ih (o.blk hb s H Cc cl fp) hkey).v, fun s H Cc cl fp => (ih (o.blk hb s H Cc cl fp) hval).v, fold_of hset, fun σ H Q ⟨ρ, e, h, re, rp, po⟩ => ?_⟩
          simp only [E.den] at po
          exact dc_ok ⟨ρ, e, h, re, rp, po⟩
        · cases h
      · cases h
    · cases h
  case h_24 => cases h
theorem cE_ok : ∀ (n : Nat) {X : Cx} {W : WX} {C : Cl} {Γ : Gm} {k : Nat} (o : XOk X W C Γ k) {pe : Expr} {e : E}, cE Γ n pe = some e → Gd X W C pe e
  | 0, _, _, _, _, _, _, _, _, h => by cases h
  | n + 1, X, W, C, Γ, k, o, pe, e, h => by
    have ih := fun {pe : Expr} {e : E} (h : cE Γ n pe = some e) => cE_ok n o h
    have ihv : ∀ pe e, cE Γ n pe = some e → PE X pe (tI X.K W C e) := fun pe e h => (ih h).v
    unfold cE at h
    split at h
    case h_1 c j p =>
      cases h1 : cConst c with
      | none => rw [h1] at h; cases h
      | some v =>
        rw [h1] at h
        cases h
        obtain ⟨w, a, b⟩ := cConst_ok (X := X) (j := j) (pos := p) h1
        exact .any (snd_lit a b) (fun _ => rfl) (fun _ _ _ z => nomatch z)
    case h_2 x p =>
      split at h
      · rename_i hx
        obtain ⟨p1, p2, p3⟩ := plainNm_ok hx
        split at h
        · rename_i hv
          cases h1 : ixOf Γ.N x with
          | none => rw [h1] at h; cases h
          | some i =>
            rw [h1] at h
            cases h
            exact .any (snd_var (o.at h1) (o.vis hv) p1 p2) (fun _ => rfl) (fun _ _ _ z => nomatch z)
        · split at h
          · rename_i hg
            cases h1 : Γ.G.consts.lookup x with
            | none => rw [h1] at h; cases h
            | some v =>
              rw [h1] at h
              cases h
              obtain ⟨u, w, a, b, c⟩ := o.glb.cst x v h1
              exact .any (snd_lit (pe_glob (o.gl hg) a b p1) c) (fun _ => rfl) (fun _ _ _ z => nomatch z)
          · cases h
      · cases h
    case h_3 a op b p =>
      cases h1 : cBop op with
      | none => rw [h1] at h; cases h
      | some op' =>
        cases h2 : cE Γ n a with
        | none => rw [h1, h2] at h; cases h
        | some a' =>
          cases h3 : cE Γ n b with
          | none => rw [h1, h2, h3] at h; cases h
          | some b' =>
            rw [h1, h2, h3] at h
            cases h
            rw [cBop_ok h1]
            exact .any (snd_bin op' (ihv _ _ h2) (ihv _ _ h3)) (fun _ => rfl) (fun _ _ _ z => nomatch z)
    case h_4 a p =>
      cases h2 : cE Γ n a with
      | none => rw [h2] at h; cases h
      | some a' =>
        rw [h2] at h
        cases h
        exact .any (snd_neg (ihv _ _ h2)) (fun _ => rfl) (fun _ _ _ z => nomatch z)
    case h_5 a p =>
      cases h2 : cE Γ n a with
      | none => rw [h2] at h; cases h
      | some a' =>
        rw [h2] at h
        cases h
        exact ⟨snd_not (ihv _ _ h2), sndT_not (ih h2).t, fun _ _ _ z => nomatch z⟩
    case h_6 a op b p =>
      split at h
      · rename_i hm
        cases h1 : cCop op with
        | none => rw [h1] at h; cases h
        | some op' =>
          cases h2 : cE Γ n a with
          | none => rw [h1, h2] at h; cases h
          | some a' =>
            cases h3 : cE Γ n b with
            | none => rw [h1, h2, h3] at h; cases h
            | some b' =>
              rw [h1, h2, h3] at h
              cases h
              rw [cCop_ok h1] at hm ⊢
              exact ⟨snd_cmp o.hu op' hm (ihv _ _ h2) (ihv _ _ h3), sndT_cmp o.hu op' hm (ihv _ _ h2) (ihv _ _ h3), fun _ _ _ z => nomatch z⟩
      · cases h
    case h_7 a op op2 b c p =>
      split at h
      · rename_i hm
        cases h1 : cCop op with
        | none => rw [h1] at h; cases h
        | some op' =>
          cases h1' : cCop op2 with
          | none => rw [h1, h1'] at h; cases h
          | some op2' =>
            cases h2 : cE Γ n a with
            | none => rw [h1, h1', h2] at h; cases h
            | some a' =>
              cases h3 : cE Γ n b with
              | none => rw [h1, h1', h2, h3] at h; cases h
              | some b' =>
                cases h4 : cE Γ n c with
                | none => rw [h1, h1', h2, h3, h4] at h; cases h
                | some c' =>
                  rw [h1, h1', h2, h3, h4] at h
                  cases h
                  rw [cCop_ok h1, cCop_ok h1'] at hm ⊢
                  exact ⟨snd_cmp2 o.hu op' op2' hm (ihv _ _ h2) (ihv _ _ h3) (ihv _ _ h4), sndT_cmp2 o.hu op' op2' hm (ihv _ _ h2) (ihv _ _ h3) (ihv _ _ h4), fun _ _ _ z => nomatch z⟩
      · cases h
    case h_8 a p =>
      have g := ih h
      exact ⟨pe_one g.v, (pw_and1 g.t).pt, fun op vs pos z => pw_and1 g.t⟩
    case h_9 a p =>
      have g := ih h
      exact ⟨pe_one g.v, (pw_or1 g.t).pt, fun op vs pos z => pw_or1 g.t⟩
    case h_10 a b r p =>
      cases h2 : cE Γ n a with
      | none => rw [h2] at h; cases h
      | some a' =>
        cases h3 : cE Γ n (.BoolOp .And (b :: r) p) with
        | none => rw [h2, h3] at h; cases h
        | some b' =>
          rw [h2, h3] at h
          cases h
          have g1 := ih h2
          have g2 := ih h3
          have pw := sndW_and (pos := p) g1.t (g2.w _ _ _ rfl)
          exact ⟨snd_and g1.v g2.v, pw.pt, fun _ _ _ _ => pw⟩
    case h_11 a b r p =>
      cases h2 : cE Γ n a with
      | none => rw [h2] at h; cases h
      | some a' =>
        cases h3 : cE Γ n (.BoolOp .Or (b :: r) p) with
        | none => rw [h2, h3] at h; cases h
        | some b' =>
          rw [h2, h3] at h
          cases h
          have g1 := ih h2
          have g2 := ih h3
          have pw := sndW_or (pos := p) g1.t (g2.w _ _ _ rfl)
          exact ⟨snd_or g1.v g2.v, pw.pt, fun _ _ _ _ => pw⟩
    case h_12 c a b p =>
      cases h1 : cE Γ n c with
      | none => rw [h1] at h; cases h
      | some c' =>
        cases h2 : cE Γ n a with
        | none => rw [h1, h2] at h; cases h
        | some a' =>
          cases h3 : cE Γ n b with
          | none => rw [h1, h2, h3] at h; cases h
          | some b' =>
            rw [h1, h2, h3] at h
            cases h
            exact ⟨snd_ite (ih h1).t (ihv _ _ h2) (ihv _ _ h3), sndT_ite (ih h1).t (ih h2).t (ih h3).t, fun _ _ _ z => nomatch z⟩
    case h_13 es kk p =>
      split at h
      · rename_i hs
        cases h1 : opts (cE Γ n) es with
        | none => rw [h1] at h; cases h
        | some as =>
          rw [h1] at h
          cases h
          exact .any (snd_tup (opts_pa ihv hs h1)) (fun _ => rfl) (fun _ _ _ z => nomatch z)
      · cases h
    case h_14 es p =>
      split at h
      · rename_i hs
        cases h1 : opts (cE Γ n) es with
        | none => rw [h1] at h; cases h
        | some as =>
          rw [h1] at h
          cases h
          exact .any (snd_lst (opts_pa ihv hs h1)) (fun _ => rfl) (fun _ _ _ z => nomatch z)
      · cases h
    case h_15 a lo hi p2 p =>
      cases h1 : cE Γ n a with
      | none => rw [h1] at h; cases h
      | some a' =>
        rw [h1] at h
        have part : ∀ {x : Option Expr} {y : Option E}, (match x with
            | none => some none
            | some l => (cE Γ n l).map some) = some y → PO X x (tO X.K W C y) := fun {x y} hx => by
          cases x with
          | none => cases hx; exact snd_none
          | some l =>
            cases h2 : cE Γ n l with
            | none => simp [h2] at hx
            | some l' =>
              simp [h2] at hx
              subst hx
              exact snd_some (ihv _ _ h2)
        split at h
        · rename_i e1 e2 e3
          cases e1
          cases h
          exact .any (snd_sl (ihv _ _ h1) (part e2) (part e3)) (fun _ => rfl) (fun _ _ _ z => nomatch z)
        · cases h
    case h_16 a b p _ =>
      split at h
      · rename_i hs
        cases h2 : cE Γ n a with
        | none => rw [h2] at h; cases h
        | some a' =>
          cases h3 : cE Γ n b with
          | none => rw [h2, h3] at h; cases h
          | some b' =>
            rw [h2, h3] at h
            cases h
            exact .any (snd_ix (by have := o.hu; omega) (plainIx_of hs) (ihv _ _ h2) (ihv _ _ h3)) (fun _ => rfl) (fun _ _ _ z => nomatch z)
      · cases h
    case h_17 f p es pos =>
      split at h
      · rename_i hx
        obtain ⟨hp, hg, hs⟩ := hx
        obtain ⟨p1, p2, p3⟩ := plainNm_ok hp
        have gen : ∀ b, cBi f es.length = some b → ∀ as, opts (cE Γ n) es = some as → Γ.G.free.contains f = true → Gd X W C (.Call (.Name f p) es [] pos) (.bi b as) := fun b hb as ha hf => by
          have hne : es ≠ [] := fun z => by
            subst z
            unfold cBi at hb
            simp at hb
          cases es with
          | nil => exact absurd rfl hne
          | cons x xs =>
            have hs' := hs
            rw [List.all_cons, Bool.and_eq_true] at hs'
            rcases cBi_ok o hb with ⟨id, hc, hv⟩ | ⟨T, hc, hv⟩
            · exact .any (snd_bi hc (o.gl hg) (o.glb.free _ hf) hv (opts_pa ihv hs ha) p3 p1 (starEach_one hs'.1) (star_plain hs'.2)) (fun _ => rfl) (fun _ _ _ z => nomatch z)
            · exact .any (snd_ty hc (o.gl hg) (o.glb.free _ hf) hv (opts_pa ihv hs ha) p3 p1 (starEach_one hs'.1) (star_plain hs'.2)) (fun _ => rfl) (fun _ _ _ z => nomatch z)
        split at h
        · rename_i i hi
          cases h1 : opts (cE Γ n) es with
          | none => rw [h1] at h; cases h
          | some as =>
            rw [h1] at h
            cases h
            rcases o.glb.fn i f (plainNm_ne hp) hi with ⟨fa, fd, ps, a1, a2, a3, a4⟩ | ⟨c, j, C', fa, fd, ps, k', ek, a1, a2, a3, a4, a5⟩ | ⟨fa, a1, a2, a3⟩
            · cases es with
              | nil =>
                cases h1
                exact .any (snd_call0 a4 o.room (o.gl hg) a1 a2 a3 o.tk p1) (fun _ => rfl) (fun _ _ _ z => nomatch z)
              | cons x xs =>
                have hs' := hs
                rw [List.all_cons, Bool.and_eq_true] at hs'
                exact .any (snd_call a4 o.room (o.gl hg) a1 a2 a3 o.tk (opts_pa ihv hs h1) p1 (starEach_one hs'.1) (star_plain hs'.2)) (fun _ => rfl) (fun _ _ _ z => nomatch z)
            · have hr := o.room
              rw [ek] at hr
              cases es with
              | nil =>
                cases h1
                exact .any (snd_make0 a5 a2 a4 hr (o.gl hg) a1 a3 o.tk p1) (fun _ => rfl) (fun _ _ _ z => nomatch z)
              | cons x xs =>
                have hs' := hs
                rw [List.all_cons, Bool.and_eq_true] at hs'
                exact .any (snd_make a5 a2 a4 hr (o.gl hg) a1 a3 o.tk (opts_pa ihv hs h1) p1 (starEach_one hs'.1) (star_plain hs'.2)) (fun _ => rfl) (fun _ _ _ z => nomatch z)
            · cases es with
              | nil =>
                cases h1
                exact .any (snd_callX0 a3) (fun _ => rfl) (fun _ _ _ z => nomatch z)
              | cons x xs =>
                have hs' := hs
                rw [List.all_cons, Bool.and_eq_true] at hs'
                exact .any (snd_callX a3 (o.gl hg) a1 a2 (opts_pa ihv hs h1) p1 (starEach_one hs'.1) (star_plain hs'.2)) (fun _ => rfl) (fun _ _ _ z => nomatch z)
        · split at h
          · rename_i hz
            obtain ⟨rfl, hf, hz⟩ := hz
            split at h
            · rename_i lo hi it l hr ht
              cases h1 : cE Γ n it with
              | none => rw [h1] at h; cases h
              | some a' =>
                rw [h1] at h
                cases h
                obtain ⟨x, j1, j2, q1, q2, q3, q4, qx, gp, sc, rfl, c1, c2, c3, S⟩ := rngG_of (env := X.env) hr
                exact .any (snd_allR o.room (o.gl hg) (o.glb.free _ hf) (o.glb.tab _ _ ht) (o.code _ ht) S c2 c1 c3 (ihv _ _ h1)) (fun _ => rfl) (fun _ _ _ z => nomatch z)
            · cases h
          rename_i hz0
          clear hz0
          split at h
          · rename_i hz
            obtain ⟨hn, hf, hz⟩ := hz
            split at h
            · rename_i q it l hr ht
              cases h1 : cE Γ n it with
              | none => rw [h1] at h; cases h
              | some a' =>
                rw [h1] at h
                cases h
                obtain ⟨x, qx, gp, sc, pe, rfl, c1, c2, hq, S⟩ := genG_of o.sc hr
                have hnm : f = Str.ofString (if decide (f = "any") = true then "any" else "all") := by
                  rcases hn with rfl | rfl <;> rfl
                exact .any (snd_genQ o.room (by have := o.room.un; omega) hnm (o.gl hg) (o.glb.free _ hf) (o.glb.tab _ _ ht) (o.code _ ht) S c2 c1 (by rw [o.N, o.sc]; exact hq) (ihv _ _ h1)) (fun _ => rfl) (fun _ _ _ z => nomatch z)
            · cases h
          rename_i hz0
          clear hz0
          split at h
          · rename_i hf
            split at h
            · rename_i r rp as cp
              split at h
              · rename_i er
                obtain ⟨rfl, rfl⟩ := er
                split at h
                · rename_i hr
                  obtain ⟨r1, r2, r3, r4⟩ := hr
                  split at h
                  · rename_i a
                    cases h1 : cE Γ n a with
                    | none => rw [h1] at h; cases h
                    | some a' =>
                      rw [h1] at h
                      cases h
                      rw [List.all_cons, Bool.and_eq_true] at r4
                      exact .any (snd_lrng1 o.calm (o.gl hg) (o.glb.free _ hf) (o.gl r1) (o.glb.free _ r3) (ihv _ _ h1) (starEach_one r4.1)) (fun _ => rfl) (fun _ _ _ z => nomatch z)
                  · rename_i a b
                    cases h1 : cE Γ n a with
                    | none => rw [h1] at h; cases h
                    | some a' =>
                      cases h2 : cE Γ n b with
                      | none => rw [h1, h2] at h; cases h
                      | some b' =>
                        rw [h1, h2] at h
                        cases h
                        rw [List.all_cons, Bool.and_eq_true, List.all_cons, Bool.and_eq_true] at r4
                        exact .any (snd_lrng2 o.calm (o.gl hg) (o.glb.free _ hf) (o.gl r1) (o.glb.free _ r3) (ihv _ _ h1) (ihv _ _ h2) (starEach_one r4.1) (starEach_one r4.2.1)) (fun _ => rfl) (fun _ _ _ z => nomatch z)
                  · cases h
                · cases h
              rename_i hz1
              clear hz1
              split at h
              · rename_i er
                obtain ⟨rfl, rfl⟩ := er
                split at h
                · rename_i hr
                  obtain ⟨r1, r2, r3, r4⟩ := hr
                  split at h
                  · rename_i a
                    cases h1 : cE Γ n a with
                    | none => rw [h1] at h; cases h
                    | some a' =>
                      rw [h1] at h
                      cases h
                      rw [List.all_cons, Bool.and_eq_true] at r4
                      exact .any (snd_sset o.calm (o.gl hg) (o.glb.free _ hf) (o.gl r1) (o.glb.free _ r3) (ihv _ _ h1) (starEach_one r4.1)) (fun _ => rfl) (fun _ _ _ z => nomatch z)
                  · cases h
                · cases h
              · split at h
                · rename_i b as' hb ha
                  cases h
                  exact gen b hb as' ha hf
                · cases h
            · rename_i a t tp
              split at h
              · rename_i ef
                subst ef
                split at h
                · rename_i ht
                  rw [List.all_cons, Bool.and_eq_true] at hs
                  have hs1 : starEach [Expr.Name t tp] X.env = [(false, eval (.Name t tp) X.env)] := rfl
                  have hs2 : starEach [a, Expr.Name t tp] X.env = [(false, eval a X.env), (false, eval (.Name t tp) X.env)] := by rw [starEach_one hs.1]; rfl
                  split at h
                  · rename_i b a' hb h1
                    cases h
                    obtain ⟨nm, q1, q2, q3, q4⟩ := tyBi_ok (X := X) hb
                    exact .any (snd_isTy q1 (o.gl hg) (o.glb.free _ hf) (by decide +kernel) (ihv _ _ h1) (pe_bltn (u := .type nm) (o.gl ht.1) (o.glb.free _ ht.2.2) q2 rfl q3 q4) p3 p1 hs2 hs1) (fun _ => rfl) (fun _ _ _ z => nomatch z)
                  · cases h
                · cases h
              · split at h
                · rename_i b as hb ha
                  cases h
                  exact gen b hb as ha hf
                · cases h
            · split at h
              · rename_i b as hb ha
                cases h
                exact gen b hb as ha hf
              · cases h
          · cases h
      · cases h
    case h_18 ob m ap es pos =>
      split at h
      · rename_i hx
        obtain ⟨hs, ho, hl⟩ := hx
        have base : attributeBase ob m X.env (eval ob X.env) = eval ob X.env := base_of ho
        have hu : X.A.units + 1 < cLine := by have := o.hu; omega
        split at h
        · rename_i em
          subst em
          split at h
          · rename_i a
            rw [List.all_cons, Bool.and_eq_true] at hs
            cases h1 : cE Γ n ob with
            | none => rw [h1] at h; cases h
            | some o' =>
              cases h2 : cE Γ n a with
              | none => rw [h1, h2] at h; cases h
              | some a' =>
                rw [h1, h2] at h
                cases h
                have tr : starEach [a] X.env = [(false, eval a X.env)] := by rw [starEach_one hs.1]; rfl
                exact .any (snd_dget hu (ihv _ _ h1) (ihv _ _ h2) ⟨base, by rw [tr]; rfl, hl, by rw [tr]; rfl⟩) (fun _ => rfl) (fun _ _ _ z => nomatch z)
          · rename_i a b
            rw [List.all_cons, List.all_cons, Bool.and_eq_true, Bool.and_eq_true] at hs
            cases h1 : cE Γ n ob with
            | none => rw [h1] at h; cases h
            | some o' =>
              cases h2 : cE Γ n a with
              | none => rw [h1, h2] at h; cases h
              | some a' =>
                cases h3 : cE Γ n b with
                | none => rw [h1, h2, h3] at h; cases h
                | some b' =>
                  rw [h1, h2, h3] at h
                  cases h
                  have tr : starEach [a, b] X.env = [(false, eval a X.env), (false, eval b X.env)] := by rw [starEach_one hs.1, starEach_one hs.2.1]; rfl
                  exact .any (snd_dget2 hu (ihv _ _ h1) (ihv _ _ h2) (ihv _ _ h3) ⟨base, by rw [tr]; rfl, hl, by rw [tr]; rfl⟩) (fun _ => rfl) (fun _ _ _ z => nomatch z)
          · cases h
        split at h
        · rename_i v a hc
          obtain ⟨x, px, xs, rfl, rfl, rfl, rfl, c1, c2, c3⟩ := tcon_of hc
          rw [List.all_cons, Bool.and_eq_true] at hs
          cases h2 : cE Γ n a with
          | none => rw [h2] at h; cases h
          | some a' =>
            rw [h2] at h
            cases h
            obtain ⟨p1, p2, p3⟩ := plainNm_ok c1
            obtain ⟨u, w, b1, b2, b3⟩ := o.glb.cst x _ c3
            obtain ⟨ta, ob, d1, d2⟩ := o.glb.tcs x _ c3
            rw [b1] at d1
            cases d1
            have ew : w = .ref ta := by
              have h4 := b3 [] (fun _ => none)
              unfold RepV at h4
              obtain ⟨a4, _, rfl, _⟩ := h4
              have : Value.ref ta = Value.ref a4 := b2
              cases this
              rfl
            subst ew
            exact .any (snd_tidx (pe_glob (o.gl c2) b1 b2 p1) b3 ⟨ob, d2⟩ (ihv _ _ h2) base hl (by rw [starEach_one hs.1]; rfl)) (fun _ => rfl) (fun _ _ _ z => nomatch z)
        split at h
        · rename_i cs hcs
          split at h
          · rename_i h20
            split at h
            · rename_i a as ha has
              cases h
              have hM : ∀ p ∈ cs, MthOk X C k m p := fun p hp => ⟨(o.glb.mth m cs hcs p hp).1, (o.glb.mth m cs hcs p hp).2⟩
              cases es with
              | nil =>
                cases has
                exact .any (snd_meth0 hM o.room o.tk (ihv _ _ ha) base hl) (fun _ => rfl) (fun _ _ _ z => nomatch z)
              | cons x xs =>
                have hs' := hs
                rw [List.all_cons, Bool.and_eq_true] at hs'
                refine .any (snd_meth hM o.room o.tk (ihv _ _ ha) (opts_pa ihv hs has) base ?_ hl (starEach_one hs'.1) (star_plain hs'.2)) (fun _ => rfl) (fun _ _ _ z => nomatch z)
                have sp := star_plain (pos := pos) (env := X.env) hs
                unfold methodCallForm
                rw [show (backToKw pos (keywordEach [] X.env)) = [] from rfl]
                simp only [List.any_eq_false, List.all_nil, Bool.true_and, List.isEmpty_nil, if_true, Bool.and_eq_true, List.all_eq_true, decide_eq_true_eq] at sp ⊢
                exact ⟨⟨fun z hz => by simpa using sp z hz, trivial⟩, by omega⟩
            · cases h
          · cases h
        split at h
        · rename_i t a as ht ha has
          cases h
          obtain ⟨id, a1, a2, a3, a4⟩ := cMt_ok (X := X) ht
          cases es with
          | nil =>
            cases has
            exact .any (snd_mt0 a1 a2 a3 (ihv _ _ ha) base hl) (fun _ => rfl) (fun _ _ _ z => nomatch z)
          | cons x xs =>
            cases xs with
            | nil =>
              rw [List.all_cons, Bool.and_eq_true] at hs
              unfold opts at has
              cases h1 : cE Γ n x with
              | none => rw [h1] at has; cases has
              | some x' =>
                rw [h1] at has
                cases has
                exact .any (snd_mt1 a1 a2 a3 (ihv _ _ ha) base hl (ihv _ _ h1) (by rw [starEach_one hs.1]; rfl)) (fun _ => rfl) (fun _ _ _ z => nomatch z)
            | cons _ _ => simp at a4
        · cases h
      · cases h
    case h_19 elt tg it ifs z scope p =>
      obtain ⟨tg', it', ifs', wi, g, tt, te, own, eg, q1, q2, q3, q4, q5, q6, q7⟩ := comp_parts (n := n) (X := X) (W := W) (C := C) (Γ := Γ) (pos := p) o (fun o => cE_ok n o) (elt := elt) (gs := [⟨tg, it, ifs, z⟩]) (scope := scope) (e := e) (by unfold cE; exact h)
      cases eg
      exact .any (PEi (pe_lc o.calm o.nd q1 q2 q3 q4 q5 q6) q7) (fun _ => rfl) (fun _ _ _ z => nomatch z)
    case h_20 p =>
      cases h
      exact .any snd_dnew (fun _ => rfl) (fun _ _ _ z => nomatch z)
    case h_21 kk ks vs p =>
      split at h
      · rename_i h15
        obtain ⟨as, h1, rfl⟩ := Option.map_eq_some_iff.mp h
        exact .any (snd_disp ihv h1 (by simp) h15) (fun _ => rfl) (fun _ _ _ z => nomatch z)
      · cases h
    case h_22 ob f p =>
      split at h
      · rename_i ho
        split at h
        · rename_i cs a h1 h2
          cases h
          exact .any (snd_fld (o.glb.fld f cs h1) (ihv _ _ h2) (base_of ho)) (fun _ => rfl) (fun _ _ _ z => nomatch z)
        · cases h
      · cases h
    case h_23 kx vx tg it z scope p =>
      obtain ⟨tg', it', wi, g, tk, tv, own, eg, q1, q2, q3, q4, q5, q6, q7, q8⟩ := dcomp_parts (n := n) (X := X) (W := W) (C := C) (Γ := Γ) (pos := p) o (fun o => cE_ok n o) (kx := kx) (vx := vx) (gs := [⟨tg, it, [], z⟩]) (scope := scope) (e := e) (by unfold cE; exact h)
      cases eg
      exact .any (PEi (pe_dc o.calm o.nd q1 q2 q3 q4 q5 q6 q7) q8) (fun _ => rfl) (fun _ _ _ z => nomatch z)
    case h_24 => cases h
end
end MP
end
section
set_option Elab.async false
set_option linter.all false
set_option maxRecDepth 100000
set_option maxHeartbeats 4000000
/-! MP, part i: statements, defs. -/
namespace MP
open PySem PySem.Spec PyProof.Rows L2

section
variable {X : Cx} {W : WX} {C : Cl} {Γ : Gm} {k : Nat}
theorem sw_none {pe : Expr} {tg : Option Expr} {l : Nat} {env : Env} (h : isComp pe = false) : swapsWith pe tg l env = pure false := by
  cases pe <;> first | rfl | cases h
theorem comp_E {n : Nat} {pe : Expr} {e : E} (h : cE Γ n pe = some e) (hc : isComp pe = true) : (∃ elt gs scope pos, pe = .ListComp elt gs scope pos) ∨ ∃ kx vx gs scope pos, pe = .DictComp kx vx gs scope pos := by
  cases pe with
  | ListComp elt gs scope pos => exact .inl ⟨elt, gs, scope, pos, rfl⟩
  | SetComp _ _ _ _ => cases n <;> cases h
  | DictComp kx vx gs scope pos => exact .inr ⟨kx, vx, gs, scope, pos, rfl⟩
  | _ => cases hc
theorem sw_comp (o : XOk X W C Γ k) {elt : Expr} {gs : List Comprehension} {scope : Scope} {pos : Pos} {tg : Expr} {l : Nat} : swapsWith (.ListComp elt gs scope pos) (some tg) l X.env = pure (swB Γ tg (.ListComp elt gs scope pos)) := by
  cases tg with
  | Name y py =>
    have hb : X.env.blockKind = .function := by
      unfold Env.blockKind
      rw [o.sc, o.knd]
      rfl
    have hk : X.env.kindOf y = Γ.sc.names.lookup y := by rw [← o.sc]; rfl
    unfold swapsWith swB
    simp only [hb, hk, Expr.pos]
    have e : ∀ z : Option NameKind, (z == some NameKind.local) = decide (z = some .local) := fun z => by
      cases z with
      | none => rfl
      | some z => cases z <;> rfl
    rw [e]
    simp
  | _ => rfl
theorem sw_compD (o : XOk X W C Γ k) {kx vx : Expr} {gs : List Comprehension} {scope : Scope} {pos : Pos} {tg : Expr} {l : Nat} : swapsWith (.DictComp kx vx gs scope pos) (some tg) l X.env = pure (swB Γ tg (.DictComp kx vx gs scope pos)) := by
  cases tg with
  | Name y py =>
    have hb : X.env.blockKind = .function := by
      unfold Env.blockKind
      rw [o.sc, o.knd]
      rfl
    have hk : X.env.kindOf y = Γ.sc.names.lookup y := by rw [← o.sc]; rfl
    unfold swapsWith swB
    simp only [hb, hk, Expr.pos]
    have e : ∀ z : Option NameKind, (z == some NameKind.local) = decide (z = some .local) := fun z => by
      cases z with
      | none => rfl
      | some z => cases z <;> rfl
    rw [e]
    simp
  | _ => rfl
/-- name = {..} by a comprehension on one line, the name a local -/
theorem ps_setDc {X : Cx} {i : Nat} {y : Str} {py : Pos} {kx vx tg iter : Expr} {ifs : List Expr} {scope : Scope} {own : List (Str × Nat)} {pos spos : Pos} {wi : TI} {g : TG} {tt : TT} {tk tv : TE} (hc : X.calm = true) (hN : X.N.Nodup) (hy : X.N[i]? = some y) (hyl : X.env.scope.names.lookup y = some .local)
    (hsw : swapsWith (.DictComp kx vx [⟨tg, iter, ifs, 0⟩] scope pos) (some (.Name y py)) spos.line X.env = pure true) (hi : PI X tg iter wi) (ok : BlkOk X.N X.env.scope scope own)
    (hg : ∀ (s : Shared) (H : Hp) (C : Addr) (cl : List (Str × Addr)) (fp : List Addr), PG (X.blk s H scope (compEnvC scope cl C X.env) fp) tg g) (ht : ∀ (s : Shared) (H : Hp) (C : Addr) (cl : List (Str × Addr)) (fp : List Addr), PTs (X.blk s H scope (compEnvC scope cl C X.env) fp) ifs tt)
    (hk : ∀ (s : Shared) (H : Hp) (C : Addr) (cl : List (Str × Addr)) (fp : List Addr), PE (X.blk s H scope (compEnvC scope cl C X.env) fp) kx tk) (he : ∀ (s : Shared) (H : Hp) (C : Addr) (cl : List (Str × Addr)) (fp : List Addr), PE (X.blk s H scope (compEnvC scope cl C X.env) fp) vx tv) (hs : ∀ x, foldedSetIterable iter X.env x = pure x) :
    PS X (.Assign [.Name y py] (.DictComp kx vx [⟨tg, iter, ifs, 0⟩] scope pos) spos) (tAsg (tDc wi g tt tk tv (own.map (·.2))) (gName i)) := by
  refine ⟨fun pins s σ H D I h => ?_⟩
  rw [exec_Assign_Name_used _ _ _ _ hsw]
  refine wpAny_bind (wpAny_standAt (wpAny_bind ?_))
  show wpAny _ X.A (do let _ ← comprehension (.DictComp kx vx [⟨tg, iter, ifs, 0⟩] scope pos) scope X.env (firstIterPos [⟨tg, iter, ifs, 0⟩] pos) newDict false (eval iter X.env) (some (assign (.Name y py) X.env))) _ _ s
  have h : tDc wi g tt tk tv (own.map (·.2)) σ H (fun x H1 => gName i x σ H1 D.nx) := h
  refine wpAny_bind (thn (dc_core (Qf := fun _ s' => SP X pins D .next s') hc hN I hi ok hg ht hk he hs h fun L C s' m H' I' q hn f => ?_) fun _ s' hq => wpAny_pure (wpAny_pure hq))
  show wpAny _ _ (assign (.Name y py) X.env (.ref L)) _ _ _
  refine wpAny_assign_Name (store_ok2 (v := V.ref L) I' hN hy (.inl hyl) rfl (fun s2 I2 ⟨a, sb, ha⟩ => ?_) (.inr hyl))
  obtain ⟨f0, f1, f2, f3, f4, f5⟩ := f
  have haC : C ≠ a := by
    rcases ha with z | z
    · rw [z]; exact f1
    · exact fun e => f4 y a z e.symm
  refine ⟨m, hn.sameBut sb haC, fun h3 sb3 => ?_⟩
  exact ⟨_, H', I2.turned (t' := s2.toks) (fun b o hb e => (sb3.2 b hb).trans e) f0 f1 f3 f4 f5, q⟩
theorem swst_none {tg pe : Expr} {env : Env} (h : (isTuple tg && isTuple pe) = false) : swappedStores [tg] pe env = pure none := by
  cases tg <;> first
    | rfl
    | (cases pe <;> first | rfl | cases h)
theorem ae_one {tg : Expr} {env : Env} {t : Tg} (h : cTg Γ tg = some t) : (assignEach [tg] env).map (·.2) = [assign tg env] := by
  cases tg with
  | Name _ _ => rfl
  | Tuple _ _ _ => rfl
  | _ => cases h
theorem sw_par {x y : Str} {px py pt pt2 : Pos} {kt k2 : Nat} {a b : Expr} (o : XOk X W C Γ k) (hx : X.env.scope.names.lookup x = some .local) (hy : X.env.scope.names.lookup y = some .local) (hxy : x ≠ y) (hl : (px.line == py.line) = true) (ha : notStar a = true) (hb : notStar b = true)
    (hf : (([a, b].all (foldedForSure 8)) || ([a, b].all (constantsAlone 8))) = false) : swappedStores [.Tuple [.Name x px, .Name y py] kt pt] (.Tuple [a, b] k2 pt2) X.env = pure (some [x, y]) := by
  have hbk : X.env.blockKind = .function := by
    unfold Env.blockKind
    rw [o.sc, o.knd]
    rfl
  have k1 : X.env.kindOf x = some .local := hx
  have k2 : X.env.kindOf y = some .local := hy
  have hlp : px.line = py.line := by simpa using hl
  rw [Bool.or_eq_false_iff] at hf
  unfold swappedStores
  have hyx : (y == x) = false := by simpa using fun z => hxy z.symm
  simp [hbk, k1, k2, hlp, hxy, hf.1, hf.2, Expr.pos, List.eraseDups_cons, bind, pure, hyx]
  constructor
  · cases a <;> first | rfl | cases ha
  · cases b <;> first | rfl | cases hb
theorem map_ok {f : Stmt → S} (hf : ∀ st, PS X st (tS X.K W C (f st))) : ∀ sts : List Stmt, PSs X sts (tSs X.K W C (sts.map f))
  | [] => snd_snil
  | st :: r => snd_scons (hf st) (map_ok hf r)
theorem cS_ok : ∀ (n : Nat) {X : Cx} {W : WX} {C : Cl} {Γ : Gm} {k : Nat} (o : XOk X W C Γ k) (st : Stmt), PS X st (tS X.K W C (cS Γ n st))
  | 0, _, _, _, _, _, _, _ => snd_bad
  | n + 1, X, W, C, Γ, k, o, st => by
    have ih : ∀ sts : List Stmt, PSs X sts (tSs X.K W C (sts.map (cS Γ n))) := map_ok fun st => cS_ok n o st
    have ihe : ∀ pe e, cE Γ n pe = some e → PE X pe (tI X.K W C e) := fun pe e h => (cE_ok n o h).v
    unfold cS
    split
    · exact snd_pass
    · exact snd_brk
    · exact snd_cont
    · exact snd_doc
    · rename_i e p _
      split
      · exact snd_bad
      · rename_i hc
        split
        · rename_i a ha
          exact snd_expr (ihe _ _ ha) (sw_none (by simpa using hc))
        · exact snd_bad
    · exact snd_retN
    · split
      · rename_i a ha
        exact snd_ret (ihe _ _ ha)
      · exact snd_bad
    · split
      · rename_i c hc
        exact snd_iff (cE_ok n o hc).t (ih _) (ih _)
      · exact snd_bad
    · split
      · rename_i c hc
        exact snd_whl o.own (cE_ok n o hc).t (ih _)
      · exact snd_bad
    · rename_i tg it b p
      split
      · rename_i t ik as ht hi
        refine snd_for o.own o.calm (cIt_ok o ihe hi) (cTg_ok o ht) (ih _) (fold_of fun es kk pp z => ?_)
        subst z
        have q : (cE Γ n (.Set es kk pp)).map (fun a => ((.val, [a]) : IK × List E)) = some (ik, as) := hi
        cases n with
        | zero => cases q
        | succ n => cases q
      · exact snd_bad
    · rename_i ob i p e pos
      split
      · rename_i hx
        split
        · rename_i o' i' e' h1 h2 h3
          have hsl : ∀ v, assign (.Subscript ob i p) X.env v = (do
              let ov ← holding [v] (eval ob X.env)
              let iv ← holding [v, ov] (eval i X.env)
              standAt p
              holding [v, ov, iv] (setItem ov iv v)
              release [v, ov, iv] []) := by
            intro v
            cases i <;> first | rfl | cases hx.1
          refine snd_setIx (by have := o.hu; omega) (ihe _ _ h3) (ihe _ _ h1) (ihe _ _ h2) hsl ?_ rfl
          unfold swapsWithSole
          exact sw_none hx.2
        · exact snd_bad
      · exact snd_bad
    · rename_i ob f p e pos
      split
      · rename_i hc
        split
        · rename_i cs o' e' h1 h2 h3
          exact snd_setFld (o.glb.fld f cs h1) (ihe _ _ h2) (ihe _ _ h3) (sw_none (by simpa using hc))
        · exact snd_bad
      · exact snd_bad
    · rename_i tg e pos _ _
      split
      · rename_i htt
        split
        · rename_i x px y py kt pt a b k2 pt2 _ _
          split
          · rename_i hx
            simp only [Bool.and_eq_true, Bool.not_eq_true', decide_eq_true_eq] at hx
            obtain ⟨hx1, hy1, hl, hpx, hpy, hna, hnb, hf⟩ := hx
            split
            · rename_i i j a' b' h1 h2 h3 h4
              split
              · exact snd_bad
              · rename_i hij
                have hxy : x ≠ y := fun z => hij (by rw [z, h2] at h1; exact (Option.some.inj h1).symm)
                have hx' : X.env.scope.names.lookup x = some .local := by rw [o.sc]; exact hx1
                have hy' : X.env.scope.names.lookup y = some .local := by rw [o.sc]; exact hy1
                exact snd_par o.calm o.nd (o.at h1) (o.at h2) hij hx' hy' (ihe _ _ h3) (ihe _ _ h4) (by rw [starEach_one hna, starEach_one hnb]; rfl) (by rw [starEach_one hnb]; rfl) (sw_par o hx' hy' hxy hl hna hnb hf)
            · exact snd_bad
          · exact snd_bad
        · exact snd_bad
      · rename_i htt
        have htt : (isTuple tg && isTuple e) = false := by simpa using htt
        split
        · rename_i t a ht ha
          cases hc : isComp e with
          | false =>
            refine snd_asg (ihe _ _ ha) (cTg_ok o ht) ?_ (swst_none htt) (ae_one ht)
            unfold swapsWithSole
            exact sw_none hc
          | true =>
            rcases comp_E ha hc with ⟨elt, gs, scope, ep, rfl⟩ | ⟨kx, vx, gs, scope, ep, rfl⟩
            · cases hsw : swB Γ tg (.ListComp elt gs scope ep) with
              | false =>
                refine snd_asg (ihe _ _ ha) (cTg_ok o ht) ?_ (swst_none htt) (ae_one ht)
                simp only [swapsWithSole]
                rw [sw_comp o, hsw]
              | true =>
                cases tg with
                | Name y py =>
                  cases n with
                  | zero => cases ha
                  | succ n =>
                    obtain ⟨tg', it', ifs', wi, g, tt, te, own, rfl, q1, q2, q3, q4, q5, q6, q7⟩ := comp_parts o (fun o => cE_ok n o) ha
                    unfold cTg at ht
                    simp only at ht
                    split at ht
                    · rename_i hy
                      cases h1 : ixOf Γ.N y with
                      | none => rw [h1] at ht; cases ht
                      | some i =>
                        rw [h1] at ht
                        cases ht
                        have hsw' := hsw
                        unfold swB at hsw'
                        simp only [Bool.and_eq_true, decide_eq_true_eq] at hsw'
                        have hyl : X.env.scope.names.lookup y = some .local := by rw [o.sc]; exact hsw'.1.1
                        refine PSi (ps_setLc o.calm o.nd (o.at h1) hyl (by rw [sw_comp o, hsw]) q1 q2 q3 q4 q5 q6) fun D σ H hq => ?_
                        obtain ⟨ρ, e, h, re, rp, po⟩ := hq
                        simp only [S.den] at po
                        refine q7 _ _ _ ⟨ρ, e, h, re, rp, (PostS.sr (R := RepV X.K) re rp po).imp fun x H1 ⟨ρ1, h1, mx, x1, rp1, qx, re1, po1⟩ => ?_⟩
                        exact po1 ρ1 H1 _ .refl rp1 (re1.set i qx)
                    · cases ht
                | _ => cases hsw
            · cases hsw : swB Γ tg (.DictComp kx vx gs scope ep) with
              | false =>
                refine snd_asg (ihe _ _ ha) (cTg_ok o ht) ?_ (swst_none htt) (ae_one ht)
                simp only [swapsWithSole]
                rw [sw_compD o, hsw]
              | true =>
                cases tg with
                | Name y py =>
                  cases n with
                  | zero => cases ha
                  | succ n =>
                    obtain ⟨tg', it', wi, g, tk, tv, own, rfl, q1, q2, q3, q4, q5, q6, q7, q8⟩ := dcomp_parts o (fun o => cE_ok n o) ha
                    unfold cTg at ht
                    simp only at ht
                    split at ht
                    · rename_i hy
                      cases h1 : ixOf Γ.N y with
                      | none => rw [h1] at ht; cases ht
                      | some i =>
                        rw [h1] at ht
                        cases ht
                        have hsw' := hsw
                        unfold swB at hsw'
                        simp only [Bool.and_eq_true, decide_eq_true_eq] at hsw'
                        have hyl : X.env.scope.names.lookup y = some .local := by rw [o.sc]; exact hsw'.1.1
                        refine PSi (ps_setDc o.calm o.nd (o.at h1) hyl (by rw [sw_compD o, hsw]) q1 q2 q3 q4 q5 q6 q7) fun D σ H hq => ?_
                        obtain ⟨ρ, e, h, re, rp, po⟩ := hq
                        simp only [S.den] at po
                        refine q8 _ _ _ ⟨ρ, e, h, re, rp, (PostS.sr (R := RepV X.K) re rp po).imp fun x H1 ⟨ρ1, h1, mx, x1, rp1, qx, re1, po1⟩ => ?_⟩
                        exact po1 ρ1 H1 _ .refl rp1 (re1.set i qx)
                    · cases ht
                | _ => cases hsw
        · exact snd_bad
    · rename_i x p op e pos
      split
      · rename_i hx
        split
        · rename_i i op' a h1 h2 h3
          obtain ⟨l1, l2⟩ := o.loc hx.2
          rw [cBop_ok h2]
          exact snd_aug o.nd (o.at h1) l1 l2 (ihe _ _ h3)
        · exact snd_bad
      · exact snd_bad
    · exact snd_bad
end

/-! ### defs -/
/-- what the top says of a def -/
structure DSrc where
  params : Arguments
  body : List Stmt
  scope : Scope
def srcOf : Stmt → Option (Str × DSrc)
  | .FunctionDef x a b _ _ _ sc _ _ _ => some (x, ⟨a, b, sc⟩)
  | _ => none
/-- plain parameters -/
def psOf (a : Arguments) : Option (List Str) := match a with
  | ⟨[], as, none, [], [], none, []⟩ => some (as.map (·.arg))
  | _ => none
def scopeB (N P : List Str) (sc : Scope) : Bool :=
  (match sc.kind with
    | .function => true
    | _ => false) && (!sc.isCoroutine && (!sc.isGenerator && (decide N.Nodup && (decide (N.take P.length = P) && ((P.all fun x => match sc.names.lookup x with
    | some .local => true
    | some .cell => true
    | _ => false) && (sc.names.all fun y => match y.2 with
    | .free => false
    | _ => true))))))
theorem scopeB_ok {N P : List Str} {sc : Scope} (h : scopeB N P sc = true) : FnScope N P sc := by
  unfold scopeB at h
  simp only [Bool.and_eq_true, Bool.not_eq_true', decide_eq_true_eq, List.all_eq_true] at h
  obtain ⟨h1, h2, h3, h4, h5, h6, h7⟩ := h
  refine ⟨?_, h2, h3, h4, h5, fun x hx => ?_, fun y hy e => ?_⟩
  · split at h1
    · assumption
    · cases h1
  · have := h6 x hx
    split at this
    · left; assumption
    · right; assumption
    · cases this
  · have := h7 y hy
    rw [e] at this
    cases this
/-- a def of the text is the one of the small language -/
def fnB (G : Ge) (st : Stmt) (f : Fn) : Prop := match srcOf st with
  | some (x, s) => x = Str.ofString f.name ∧ psOf s.params = some (f.ps.map Str.ofString) ∧ scopeB ((f.ps ++ f.loc).map Str.ofString) (f.ps.map Str.ofString) s.scope = true ∧
    s.body.map (cS { G := G, N := (f.ps ++ f.loc).map Str.ofString, sc := s.scope, fn := fun _ => true, own := f.own } 60) = f.body
  | none => False
section
variable {P : Program} {w : World} {K : PySem.W.Frag} {mg : Str → Option Value} {base : Heap}
theorem spI_len {T : List Fn} {d i : Nat} {f : Fn} (hf : T[i]? = some f) {vs : List V} {H : Hp} {Q : VK} {Ex : XK} (h : spI K (callD T d) i vs H Q Ex) : vs.length = f.ps.length := by
  obtain ⟨ρ, h, xs, rp, qs, po⟩ := h
  cases d with
  | zero => exact po.elim
  | succ d =>
    unfold callD at po
    rw [hf] at po
    simp only at po
    split at po
    · rename_i e
      rw [qs.length, e]
    · exact po.elim
theorem renv_start {ρ : List Addr} {H : Hp} {xs : List MV} {vs : List V} (qs : RepVs K ρ H xs vs) (N : List Str) (n : Nat) (hn : n = N.length) : REnv K ρ H (xs.map some ++ List.replicate (n - xs.length) none) (L2.start N vs) := by
  unfold L2.start
  refine ⟨by simp [qs.length, hn], fun i v e => ?_⟩
  by_cases hi : i < xs.length
  · rw [List.getElem?_append_left (by simpa using hi), List.getElem?_map] at e
    cases e2 : xs[i]? with
    | none => rw [e2] at e; cases e
    | some x =>
      rw [e2] at e
      cases e
      obtain ⟨u, eu, qu⟩ := qs.get e2
      refine ⟨u, ?_, qu⟩
      rw [List.getElem?_append_left (by simp [qs.length]; exact hi), List.getElem?_map, eu]
      rfl
  · rw [List.getElem?_append_right (by simpa using hi), List.getElem?_replicate] at e
    split at e <;> cases e
/-- a def's rule, its code object told -/
theorem fund_ok {CX : CXT} {N ps : List Str} {k : Nat} {sp : Sp} {x q : Str} {params : Arguments} {body : List Stmt} {scope : Scope} {fa : Addr} {fd : FuncData} (F : FunD K x q params body scope [] [] fa fd) (S : FnScope N ps scope)
    (len : ∀ vs H Q E, sp vs H Q E → vs.length = ps.length)
    (go : ∀ (cdv : Value) (A : Around) (outer : List Env) (s : Shared) (H : Hp) (vs : List V) (Q : VK) (E : XK), (∃ oc od osl, K.lookup fa = some ⟨oc, od, .func fd, osl⟩ ∧ fd.code = cdv ∧ PySem.W.codeIn K cdv q = true) → Room k (A.deeper (envOfC q scope s.heap.objs.size fa cdv)) → sp vs H Q E →
      ∃ t, PSs (cxOf CX P w K mg base N q scope fa cdv A outer s H E) body t ∧ t { nx := fun _ H2 => Q .non H2, rt := Q } (start N vs) H) : FnOk P w K mg base CX (k + 1) fa fd ps sp := by
  obtain ⟨oc, od, dV, kV, doc, pm, an, cdv, ct, osl, e1, lk, hcd, _, _⟩ := F.ex
  subst e1
  exact fn_of lk hcd S len fun A outer s H vs Q E r q => go cdv A outer s H vs Q E ⟨_, _, _, lk, rfl, hcd⟩ r q
theorem codA_of {own : Str × Option Str} {fa : Addr} {fd : FuncData} {cdv : Value} {q : Str} (h : ∃ oc od osl, K.lookup fa = some ⟨oc, od, .func fd, osl⟩ ∧ fd.code = cdv ∧ PySem.W.codeIn K cdv q = true) (hfa : He.fAd K own = fa) (hc : codA K own ≠ 0) : cdv = .ref (codA K own) := by
  obtain ⟨oc, od, osl, e1, e2, e3⟩ := h
  unfold codA at hc ⊢
  rw [hfa, e1] at hc ⊢
  simp only at hc ⊢
  rw [e2] at hc ⊢
  cases cdv <;> first | rfl | exact absurd rfl hc
theorem def_ok {G : Ge} {T : List Fn} {d i : Nat} {f : Fn} {st : Stmt} {src : DSrc} {x q : Str} {fa : Addr} {fd : FuncData} (hs : srcOf st = some (x, src)) (hf : T[i]? = some f) (hb : fnB G st f) (hmk : f.mkr = none) (hfa : He.fAd K f.own = fa)
    (F : FunD K x q src.params src.body src.scope [] [] fa fd) (glb : GOk P w K mg base (callD T d) G d) (htb : ∀ l, G.tabs.lookup f.own = some l → codA K f.own ≠ 0) :
    FnOk P w K mg base (L2.CX P w) (d + 1) fa fd (f.ps.map Str.ofString) (spI K (callD T (d + 1)) i) := by
  unfold fnB at hb
  rw [hs] at hb
  obtain ⟨_, hps, hsc, hbd⟩ := hb
  have S := scopeB_ok hsc
  refine fund_ok F S (fun vs H Q Ex h => by rw [spI_len hf h, List.length_map]) (fun cdv A outer s H vs Q Ex hcd hr h => ?_)
  let Γ : Gm := { G := G, N := (f.ps ++ f.loc).map Str.ofString, sc := src.scope, fn := fun _ => true, own := f.own }
  let X : Cx := cxOf (L2.CX P w) P w K mg base Γ.N q src.scope fa cdv A outer s H Ex
  have tk : Takes X (fun cls d _ H' => Ex cls d H') := takes_of (E₁ := fun e' s'' => L2.CX P w outer H s Ex e' s'') rfl rfl rfl rfl
  have own : PassesOwn (model X.prog X.w) X.A X.env X.xe := passes_of (K := fun e s'' => L2.CX P w outer H s Ex e s'') (E₁ := fun e' s'' => L2.CX P w outer H s Ex e' s'') rfl
  have o : XOk X (fun cls d _ H' => Ex cls d H') (callD T d) Γ d := ⟨rfl, rfl, S.kind, fun _ _ => rfl, rfl, S.nd, tk, own, hr, glb, fun l hl => codA_of hcd hfa (htb l hl)⟩
  refine ⟨tSs K (fun cls d _ H' => Ex cls d H') (callD T d) f.body, ?_, ?_⟩
  · rw [← hbd]
    exact map_ok (X := X) (fun st => cS_ok 60 o st) src.body
  · obtain ⟨ρ, h, xs, rp, qs, po⟩ := h
    unfold callD at po
    rw [hf] at po
    simp only [hmk] at po
    split at po
    · rename_i e
      refine ⟨ρ, f.start xs, h, ?_, rp, ?_⟩
      · exact renv_start qs _ _ (by simp)
      · cases hd : Ss.den (callD T d) f.body (f.start xs) h with
        | nx e' h' => rw [hd] at po; exact fun ρ' H' σ' y rp' _ => po ρ' H' .non y rp' nonRep
        | rt v h' => rw [hd] at po; exact po
        | bk e' h' => rw [hd] at po; exact False.elim po
        | ct e' h' => rw [hd] at po; exact False.elim po
        | exc z e' h' => rw [hd] at po; exact fun ρ' H' σ' cls dd y rp' _ q => po ρ' H' cls dd y rp' q
        | bad => rw [hd] at po; exact po
    · exact po.elim
end
end MP
end
section
set_option Elab.async false
set_option linter.all false
set_option maxRecDepth 100000
set_option maxHeartbeats 4000000
/-! MP, part jx: the law's call where tables of code objects are tracked. -/
namespace MP
open PySem PySem.Spec PyProof.Rows L2
def tabObj0 : Obj := { cls := .none, data := .fields #[] }
/-- what is tracked at the law's begin: the script (unless the part holds it), the tables -/
def startH (K : PySem.W.Frag) (a : Addr) (ls : Obj) (ws : List V) (T : List Addr) : Hp := fun b => if b = a ∧ K.lookup a = none then some (.frz ls (.lst ws)) else if b ∈ T then some (.tbl #[]) else none
theorem law_endT {P : Program} {w : World} {K : PySem.W.Frag} {mg mb : Str → Option Value} {CX : CXT} {k : Nat} {fa a : Addr} {cs : List (Addr × Addr)} {fd : FuncData} {x : Str} {sp : Sp} {t : Shared} {vs : List Value} {ns : List Int}
    (kin : K.In t.heap) (gl : t.heap.Ns mainGlobals mg) (bl : t.heap.Ns builtinsNs mb) (bb : ∀ x : Str, x ≠ "__name__" → mb x = bootBuiltins x) (lim : t.heap.NoLimit) (gens : t.gens = #[])
    (tabs : ∀ p ∈ cs, t.heap.get? p.2 = some tabObj0 ∧ K.lookup p.2 = none ∧ PySem.W.CodeHd t.heap p.1 p.2)
    (bmod : ∃ (bm : Addr) (ob : Obj), mg "__builtins__" = some (.ref bm) ∧ bm ≠ builtinsNs ∧ t.heap.get? bm = some ob ∧ ob.cls = .type "module" ∧ ob.dict = some builtinsNs ∧ ob.data = .plain)
    (ha : t.heap.get? a = some { cls := .type "list", data := .seq vs.toArray }) (hi : IntsAre vs ns) (hl : ns.length ≤ sizeLine) (room : Room k callerA)
    (F : ∀ base : Heap, K.In base → base.Ns mainGlobals mg → (∀ p ∈ cs, GxR.TabB base mg p.1 p.2) → FnOk P w K mg base CX k fa fd [x] sp) (bind : ∀ (s : Shared) (u : Value), BindsTo s fd ⟨[u], []⟩ [(x, u)])
    (told : ∀ H : Hp, (∀ p ∈ cs, H p.2 = some (.tbl #[])) → SqC K H a (ns.map V.int) → sp [.ref a] H (fun v _ => v = .bl true) fun _ _ _ => False)
    (calm : ∀ H e s2, CX [] H t (fun _ _ _ => False) e s2 → False) :
    codeAny (model P w) callerA (.call (.ref fa) ⟨[.ref a], []⟩) (fun r s2 => r = .ok (.ret (.bool true)) ∧ OldK t.heap s2.heap ∧ s2.os = t.os ∧ AllBare s2.gens) t := by
  have rv := vals_ints hi
  have lenV := hi.length
  let ls : Obj := { cls := .type "list", data := .seq vs.toArray }
  let T := cs.map (·.2)
  let H := startH K a ls (ns.map V.int) T
  have inT : ∀ b, b ∈ T → t.heap.get? b = some tabObj0 ∧ K.lookup b = none := fun b hb => by
    obtain ⟨p, hp, e⟩ := List.mem_map.mp hb
    subst e
    exact ⟨(tabs p hp).1, (tabs p hp).2.1⟩
  have aT : a ∉ T := fun z => by
    have q := (inT a z).1
    rw [ha] at q
    cases q
  have Ha : K.lookup a = none → H a = some (.frz ls (.lst (ns.map V.int))) := fun z => if_pos ⟨rfl, z⟩
  have HT : ∀ b, b ∈ T → H b = some (.tbl #[]) := fun b hb => by
    have nb : ¬(b = a ∧ K.lookup a = none) := fun z => by
      rw [z.1] at hb
      exact aT hb
    exact (if_neg nb).trans (if_pos hb)
  have Hn : ∀ b u, H b = some u → (b = a ∧ K.lookup a = none ∧ u = .frz ls (.lst (ns.map V.int))) ∨ (b ∈ T ∧ u = .tbl #[]) := fun b u e => by
    have e2 : (if b = a ∧ K.lookup a = none then some (HO.frz ls (.lst (ns.map V.int))) else if b ∈ T then some (.tbl #[]) else none) = some u := e
    split at e2
    · rename_i z
      cases e2
      exact .inl ⟨z.1, z.2, rfl⟩
    · split at e2
      · rename_i z
        cases e2
        exact .inr ⟨z, rfl⟩
      · cases e2
  have hok : HOk P w H t.heap := fun b u e => by
    rcases Hn b u e with ⟨rfl, _, rfl⟩ | ⟨hb, rfl⟩
    · exact ⟨ha, by rw [List.length_map]; exact hl, vs, _, rv, ha⟩
    · exact (inT b hb).1
  have free : ∀ {b : Addr} {o : Obj}, t.heap.get? b = some o → (∀ us n, o.data ≠ .seq us n) → o.data ≠ .fields #[] → H b = none := fun {b o} e h1 h2 => by
    cases q : H b with
    | none => rfl
    | some u =>
      rcases Hn b u q with ⟨rfl, _⟩ | ⟨hb, _⟩
      · rw [ha] at e
        cases e
        exact absurd rfl (h1 _ _)
      · rw [(inT b hb).1] at e
        cases e
        exact absurd rfl h2
  have nsB : ∀ {b : Addr} {m : Str → Option Value}, t.heap.Ns b m → (hidT t.heap H).Ns b m := fun {b m} ⟨o, es, ep, e, d, r⟩ => by
    refine ⟨o, es, ep, hidT_get e (free e (fun us n z => ?_) fun z => ?_), d, r⟩
    · rw [d] at z
      cases z
    · rw [d] at z
      cases z
  have kinB : K.In (hidT t.heap H) := fun b o e => hidT_get (kin b o e) (by
    cases q : H b with
    | none => rfl
    | some u =>
      rcases Hn b u q with ⟨rfl, z, _⟩ | ⟨hb, _⟩
      · rw [z] at e
        cases e
      · rw [(inT b hb).2] at e
        cases e)
  have modB : L2.Mod K mg (hidT t.heap H) := ⟨kinB, nsB gl, ⟨mb, nsB bl, bb⟩, let ⟨mc, h1, h2⟩ := lim; ⟨mc, nsB h1, h2⟩⟩
  have TB : ∀ p ∈ cs, GxR.TabB (hidT t.heap H) mg p.1 p.2 := fun p hp => by
    obtain ⟨ht, _, o, us, file, tf, flags, tg, inF, text, tt, e1, r1, r2, r3, r⟩ := tabs p hp
    refine ⟨⟨o, us, file, tf, flags, tg, inF, text, tt, hidT_get e1 (free e1 (fun us n z => ?_) fun z => ?_), r1, r2, r3, r⟩, ?_, fun z => ?_⟩
    · rw [r2] at z
      cases z
    · rw [r2] at z
      cases z
      simp at r3
    · obtain ⟨bm, ob, b1, b2, b3, b4, b5, b6⟩ := bmod
      refine ⟨bm, ob, b1, b2, fun q => ?_, fun q => ?_, hidT_get b3 (free b3 (fun us n z => ?_) fun z => ?_), b4, b5, b6⟩
      · obtain ⟨o2, es, ep, e, hd, _⟩ := gl
        rw [q, e] at b3
        cases b3
        rw [hd] at b6
        cases b6
      · rw [q, ht] at b3
        cases b3
        cases b6
      · rw [b6] at z
        cases z
      · rw [b6] at z
        cases z
    · obtain ⟨o2, es, ep, e, hd, _⟩ := gl
      rw [z, ht] at e
      cases e
      cases hd
  have e0 : Env0 P w K mg (hidT t.heap H) callerA [] t H := ⟨rfl, modB, fun b o e => of_hidT e, Nat.le_of_eq (hidT_size _ _), trivial, fun b hb => absurd (show b ∈ ([] : List Addr) from hb) (by simp), hok, .of_eq gens⟩
  have sq : SqC K H a (ns.map V.int) := by
    cases q : K.lookup a with
    | none => exact .inl ⟨_, Ha q⟩
    | some o =>
      have e := kin a o q
      rw [ha] at e
      cases e
      exact .inr ⟨_, vs.toArray, _, q, rfl, rfl, rfl, by rw [List.size_toArray, lenV]; exact hl, by simpa using rv⟩
  refine codeAny_mono ((F _ kinB (nsB gl) TB).run callerA [] t H ⟨[.ref a], []⟩ [.ref a] [.ref a] _ _ room e0 (bind t (.ref a)) (.cons rfl .nil) (told H (fun p hp => HT _ (List.mem_map.mpr ⟨p, hp, rfl⟩)) sq)) fun r s2 h => ?_
  cases r with
  | error e => exact (calm H e s2 h).elim
  | ok fl =>
    cases fl with
    | next => exact False.elim h
    | brk => exact False.elim h
    | cont => exact False.elim h
    | ret u =>
      obtain ⟨v, H2, os, bare, un, hok2, rel, q⟩ := h
      obtain rfl : v = .bl true := q
      obtain rfl : u = Value.bool true := rel
      have key : ∀ b o, b ∉ T → t.heap.get? b = some o → s2.heap.get? b = some o := fun b o nb e => by
        cases q : H b with
        | none => exact un.keep b o e q (fun z => nomatch (show b ∈ ([] : List Addr) from z)) (by simp)
        | some u =>
          rcases Hn b u q with ⟨rfl, _, rfl⟩ | ⟨hb, _⟩
          · have z2 := un.frzs b ls _ q
            obtain ⟨e2, _⟩ := hok2 b _ z2
            rw [ha] at e
            cases e
            exact e2
          · exact absurd hb nb
      have grown : ∀ b, b ∈ T → ∃ more : Array Value, s2.heap.get? b = some { cls := .none, data := .fields more } := fun b hb => by
        obtain ⟨more, z⟩ := un.tbls b #[] (HT b hb)
        exact ⟨_, hok2 b _ z⟩
      refine ⟨rfl, ⟨fun b o e => ?_, fun b o e => ?_⟩, os, bare⟩
      · by_cases hb : b ∈ T
        · obtain ⟨more, hm⟩ := grown b hb
          obtain ⟨p, hp, ep⟩ := List.mem_map.mp hb
          subst ep
          rw [(tabs p hp).1] at e
          cases e
          exact .inr (.inl ⟨((tabs p hp).2.2.tab (tabs p hp).1).isCodeTable, rfl, #[], more, rfl, by rw [Array.empty_append]; exact hm⟩)
        · exact .inl (key b o hb e)
      · by_cases hb : b ∈ T
        · obtain ⟨more, hm⟩ := grown b hb
          exact ⟨_, hm⟩
        · exact ⟨o, key b o hb e⟩
end MP
end
section
set_option Elab.async false
set_option linter.all false
set_option maxRecDepth 100000
set_option maxHeartbeats 4000000
/-! MP, part j: the whole program: the table of defs, the facts of the top, the law. -/
namespace MP
open PySem PySem.Spec PyProof.Rows L2

/-! ### plain parameters bind -/
theorem zip_lookup : ∀ {ps : List Str} {us : List Value} {n : Str}, us.length = ps.length → n ∈ ps → ((ps.zip us).lookup n).isNone = false
  | p :: ps, u :: us, n, hl, h => by
    rw [List.zip_cons_cons, List.lookup_cons]
    by_cases e : n = p
    · subst e; simp
    · have : (n == p) = false := by simpa using e
      rw [this]
      rcases List.mem_cons.mp h with z | z
      · exact absurd z e
      · exact zip_lookup (by simpa using hl) z
  | [], us, n, hl, h => by cases h
  | p :: ps, [], n, hl, h => by simp at hl
theorem fmc {α β : Type} {f g : α → Option β} : ∀ {l : List α}, (∀ n ∈ l, f n = g n) → l.filterMap f = l.filterMap g
  | [], _ => rfl
  | a :: l, h => by
    rw [List.filterMap_cons, List.filterMap_cons, h a List.mem_cons_self, fmc fun n hn => h n (List.mem_cons_of_mem _ hn)]
theorem zip_fm : ∀ {ps : List Str} {us : List Value}, us.length = ps.length → ps.Nodup → (ps.filterMap fun n => ((ps.zip us).lookup n).map (n, ·)) = ps.zip us
  | [], _, _, _ => rfl
  | p :: ps, [], hl, _ => by simp at hl
  | p :: ps, u :: us, hl, nd => by
    rw [List.filterMap_cons]
    simp only [List.zip_cons_cons, List.lookup_cons, BEq.rfl, Option.map_some]
    congr 1
    refine Eq.trans (fmc fun n hn => ?_) (zip_fm (us := us) (by simpa using hl) (List.nodup_cons.mp nd).2)
    have h := (List.nodup_cons.mp nd).1
    have : (n == p) = false := by
      have : n ≠ p := fun z => h (by rw [← z]; exact hn)
      simpa using this
    rw [this]
theorem bind_plain {x q : Str} {params : Arguments} {body : List Stmt} {sc : Scope} {kV doc pm cdv ct : Value} {an : Option Addr} {ps : List Str} {us : List Value} (hp : psOf params = some ps) (nd : ps.Nodup) (hl : us.length = ps.length) :
    bindArgs (PySem.W.fnOf x q params body sc .none kV doc pm an cdv ct) ⟨us, []⟩ = pure (ps.zip us) := by
  unfold psOf at hp
  split at hp
  · rename_i as
    cases hp
    have h1 : ((as.map (·.arg)).filter fun n => (((as.map (·.arg)).zip us).lookup n).isNone) = [] := by
      rw [List.filter_eq_nil_iff]
      intro a ha
      rw [zip_lookup hl ha]
      simp
    have h2 := zip_fm hl nd
    have hl' : us.length = as.length := by simpa using hl
    have e1 : seqItems? Value.none = Sem.pure none := rfl
    have e2 : ∀ {α β : Type} (x : α) (f : α → Sem β), (Sem.pure x).bind f = f x := fun _ _ => rfl
    have h3 : List.take as.length (List.map (fun x => x.arg) as) = List.map (fun x => x.arg) as := List.take_of_length_le (by simp)
    unfold bindArgs
    simp [PySem.W.fnOf, hl', bind, pure, e1, e2]
    rw [if_neg]
    · rw [List.filterMap_map] at h2
      rw [h2]
    · simp [h3, h1]
  · cases hp

/-! ### constants of the top -/
mutual
def cvB (K : PySem.W.Frag) : MV → Value → Bool
  | .non, .none => true
  | .bl b, .bool c => b == c
  | .int i, .int j _ => decide (i = j)
  | .str x, .str y _ => decide (x = y)
  | .tup xs, .ref a => match K.lookup a with
    | some ⟨.type c, _, .seq its _, _⟩ => decide (c = "tuple") && (decide (its.size ≤ sizeLine) && cvsB K xs its.toList)
    | _ => false
  | .rol xs, .ref a => match K.lookup a with
    | some ⟨.type c, none, .seq its _, _⟩ => decide (c = "list") && (decide (its.size ≤ sizeLine) && cvsB K xs its.toList)
    | _ => false
  | _, _ => false
def cvsB (K : PySem.W.Frag) : List MV → List Value → Bool
  | [], [] => true
  | x :: xs, u :: us => cvB K x u && cvsB K xs us
  | _, _ => false
end
mutual
theorem cvB_ok {K : PySem.W.Frag} : ∀ {m : MV} {u : Value}, cvB K m u = true → ∃ w, RelV w u ∧ ∀ ρ H, RepV K ρ H m w
  | .non, u, h => by
    cases u <;> first | (unfold cvB at h; cases h; done) | exact ⟨.non, rfl, fun _ _ => nonRep⟩
  | .bl b, u, h => by
    cases u <;> first | (unfold cvB at h; cases h; done) | skip
    rename_i c
    unfold cvB at h
    have : b = c := by simpa using h
    subst this
    exact ⟨.bl b, rfl, fun _ _ => blRep⟩
  | .int i, u, h => by
    cases u <;> first | (unfold cvB at h; cases h; done) | skip
    rename_i j t
    unfold cvB at h
    have : i = j := by simpa using h
    subst this
    exact ⟨.int i, ⟨t, rfl⟩, fun _ _ => intRep⟩
  | .str x, u, h => by
    cases u <;> first | (unfold cvB at h; cases h; done) | skip
    rename_i y t
    unfold cvB at h
    have : x = y := by simpa using h
    subst this
    exact ⟨.str x, ⟨t, rfl⟩, fun _ _ => strRep⟩
  | .tup xs, u, h => by
    cases u <;> first | (unfold cvB at h; cases h; done) | skip
    rename_i a
    unfold cvB at h
    split at h
    · rename_i c dd its n sl hl
      simp only [Bool.and_eq_true, decide_eq_true_eq] at h
      obtain ⟨h1, h2, h3⟩ := h
      subst h1
      obtain ⟨ws, r, q⟩ := cvsB_ok h3
      refine ⟨.ref a, rfl, fun ρ H => ?_⟩
      unfold RepV
      exact ⟨a, ws, rfl, .inr ⟨_, its, n, hl, rfl, rfl, h2, r⟩, q ρ H⟩
    · cases h
  | .rol xs, u, h => by
    cases u <;> first | (unfold cvB at h; cases h; done) | skip
    rename_i a
    unfold cvB at h
    split at h
    · rename_i c its n sl hl
      simp only [Bool.and_eq_true, decide_eq_true_eq] at h
      obtain ⟨h1, h2, h3⟩ := h
      subst h1
      obtain ⟨ws, r, q⟩ := cvsB_ok h3
      refine ⟨.ref a, rfl, fun ρ H => ?_⟩
      unfold RepV
      exact ⟨a, ws, rfl, .inr ⟨_, its, n, hl, rfl, rfl, rfl, h2, r⟩, q ρ H⟩
    · cases h
  | .loc _, u, h => by unfold cvB at h; cases h
  | .ty _, u, h => by unfold cvB at h; cases h
  | .cls _, u, h => by unfold cvB at h; cases h
theorem cvsB_ok {K : PySem.W.Frag} : ∀ {ms : List MV} {us : List Value}, cvsB K ms us = true → ∃ ws, Vals ws us ∧ ∀ ρ H, RepVs K ρ H ms ws
  | [], [], _ => ⟨[], .nil, fun _ _ => .nil⟩
  | [], _ :: _, h => by unfold cvsB at h; cases h
  | _ :: _, [], h => by unfold cvsB at h; cases h
  | m :: ms, u :: us, h => by
    unfold cvsB at h
    rw [Bool.and_eq_true] at h
    obtain ⟨w, r, q⟩ := cvB_ok h.1
    obtain ⟨ws, rs, qs⟩ := cvsB_ok h.2
    exact ⟨w :: ws, .cons r rs, fun ρ H => .cons (q ρ H) (qs ρ H)⟩
end

/-! ### a program -/
def srcGet : Stmt → DSrc
  | .FunctionDef _ a b _ _ _ sc _ _ _ => ⟨a, b, sc⟩
  | _ => ⟨⟨[], [], none, [], [], none, []⟩, [], ⟨.function, [], false, false, []⟩⟩
def nameGet : Stmt → Option Str
  | .FunctionDef x _ _ _ _ _ _ _ _ _ => some x
  | _ => none
theorem fnB_of {G : Ge} {st : Stmt} {f : Fn} (h1 : nameGet st = some (Str.ofString f.name)) (h2 : psOf (srcGet st).params = some (f.ps.map Str.ofString)) (h3 : scopeB ((f.ps ++ f.loc).map Str.ofString) (f.ps.map Str.ofString) (srcGet st).scope = true)
    (h4 : (srcGet st).body.map (cS { G := G, N := (f.ps ++ f.loc).map Str.ofString, sc := (srcGet st).scope, fn := fun _ => true, own := f.own } 60) = f.body) : fnB G st f := by
  cases st with
  | FunctionDef x a b c d e sc g i j =>
    have h1 : x = Str.ofString f.name := Option.some.inj h1
    exact ⟨h1, h2, h3, h4⟩
  | _ => cases h1
/-- where a def stands: at the top; in a class of the top; a class itself -/
inductive Pl where
  | top (i : Nat) | mth (i j : Nat) | cls
  deriving DecidableEq
structure Prg where
  defs : List (Pl × Fn)
  consts : List (Str × MV)
  free : List Str
  flds : List (Str × List Str) := []
  meths : List (Str × List (Str × Nat)) := []
  tabs : List (Str × Option Str) := []
def Prg.T (p : Prg) : List Fn := p.defs.map (·.2)
/-- the global name of a def, of a class; none of a method -/
def gnm (d : Pl × Fn) : Str := match d.2.cls with
  | none => Str.ofString d.2.name
  | some _ => ""
def Prg.G (p : Prg) : Ge := { fns := p.defs.map gnm, consts := p.consts, free := p.free, flds := p.flds, meths := p.meths, tabs := p.tabs.zipIdx }
def topAt (P : Program) (i : Nat) : Stmt := P.main.body.getD i (.Pass ⟨0, 0, 0, 0⟩)
def clsBody : Stmt → List Stmt
  | .ClassDef _ _ _ b _ _ _ _ _ _ _ => b
  | _ => []
def stAt (P : Program) : Pl → Stmt
  | .top i => topAt P i
  | .mth i j => (clsBody (topAt P i)).getD j (.Pass ⟨0, 0, 0, 0⟩)
  | .cls => .Pass ⟨0, 0, 0, 0⟩
/-- a def of the table is the text's; a class has its __init__ there -/
def Prg.One (p : Prg) (P : Program) (d : Pl × Fn) : Prop := match d.2.mkr with
  | none => d.1 ≠ .cls ∧ fnB p.G (stAt P d.1) d.2
  | some (c, j) => d.1 = .cls ∧ d.2.cls = none ∧ Str.ofString d.2.name = c ∧ ∃ dj, p.defs[j]? = some dj ∧ dj.2.mkr = none ∧ dj.2.own = (c, some (Str.ofString "__init__")) ∧ dj.2.ps.length = d.2.ps.length + 1
def methB (p : Prg) (m : Str) (q : Str × Nat) : Bool := match p.defs[q.2]? with
  | some dq => dq.2.mkr.isNone && decide (dq.2.own = (q.1, some m))
  | none => false
structure Prg.Is (p : Prg) (P : Program) : Prop where
  one : ∀ d ∈ p.defs, p.One P d
  mth : (p.meths.all fun m => m.2.all (methB p m.1)) = true
def defD (P : Program) (d : Pl × Fn) : He.DefD := match srcOf (stAt P d.1) with
  | some (x, s) => ⟨d.2.own, x, d.2.qual, s.params, s.body, s.scope, [], []⟩
  | none => ⟨("", none), "", "", ⟨[], [], none, [], [], none, []⟩, [], ⟨.function, [], false, false, []⟩, [], []⟩
def Prg.fa (p : Prg) : List He.Fa := ((p.defs.filter fun d => d.2.cls.isNone).map fun d => He.Fa.glo (Str.ofString d.2.name)) ++ p.free.map He.Fa.free ++
  p.flds.flatMap (fun f => f.2.flatMap fun c => [He.Fa.cls c, He.Fa.noat c f.1]) ++ p.meths.flatMap (fun m => m.2.flatMap fun q => [He.Fa.cls q.1, He.Fa.meth q.1 m.1]) ++
  p.defs.filterMap fun d => d.2.mkr.map fun q => He.Fa.mkr q.1
def Prg.fn (p : Prg) (P : Program) : List He.DefD := (p.defs.filter fun d => d.2.mkr.isNone).map (defD P)
def cstB (K : PySem.W.Frag) (c : Str × MV) : Bool := match PySem.W.nsIn K mainGlobals c.1 with
  | some (some u) => cvB K c.2 u && (match c.2, u with
    | .tup _, .ref a => (match K.lookup a with
      | some ⟨.type t, none, _, _⟩ => decide (t = "tuple")
      | _ => false)
    | .tup _, _ => false
    | _, _ => true)
  | _ => false
def noneV : Value → Bool
  | .none => true
  | _ => false
/-- the table of the def x stands and is empty; its code object is as it should be -/
def tabB (g : Addr → Option Obj) (K : PySem.W.Frag) (x : Str × Option Str) : Bool := (K.lookup (tabA K x)).isNone && (decide (codA K x ≠ 0) && (decide (codA K x ≠ tabA K x) && ((match g (tabA K x) with
  | some ⟨c, none, .fields vs, sl⟩ => noneV c && (vs.size == 0 && sl.size == 0)
  | _ => false) && (match K.lookup (codA K x) with
  | some ⟨.type t, _, .fields vs, _⟩ => decide (t = "code") && ((match vs[11]? with
    | some (Value.ref P) => decide (P = tabA K x)
    | _ => false) && ((match vs.getD 18 .none with
    | .str _ _ => true
    | _ => false) && ((match vs.getD 7 .none with
    | .int _ _ => true
    | _ => false) && ((match vs.getD 9 .none with
    | .bool _ => true
    | _ => false) && (match vs.getD 10 .none with
    | .int _ _ => true
    | _ => false)))))
  | _ => false))))
theorem tabB_ok {K : PySem.W.Frag} {h : Heap} {x : Str × Option Str} (X : K.In h) (b : tabB h.get? K x = true) : h.get? (tabA K x) = some tabObj0 ∧ K.lookup (tabA K x) = none ∧ PySem.W.CodeHd h (codA K x) (tabA K x) ∧ codA K x ≠ 0 := by
  unfold tabB at b
  simp only [Bool.and_eq_true, decide_eq_true_eq, Option.isNone_iff_eq_none] at b
  obtain ⟨b1, b2, b3, b4, b5⟩ := b
  refine ⟨?_, b1, ?_, b2⟩
  · split at b4
    · rename_i c vs sl e
      simp only [Bool.and_eq_true, beq_iff_eq] at b4
      obtain ⟨c1, c2, c3⟩ := b4
      have e1 : c = .none := by cases c <;> first | rfl | cases c1
      have e2 : vs = #[] := Array.eq_empty_of_size_eq_zero c2
      have e3 : sl = #[] := Array.eq_empty_of_size_eq_zero c3
      rw [e, e1, e2, e3]
      rfl
    · cases b4
  · split at b5
    · rename_i t dd vs sl e
      simp only [Bool.and_eq_true, decide_eq_true_eq] at b5
      obtain ⟨rfl, d1, d2, d3, d4, d5⟩ := b5
      split at d1
      · rename_i P eP
        have d1 : P = tabA K x := of_decide_eq_true d1
        subst d1
        split at d2
        · rename_i z18 t18 e18
          split at d3
          · rename_i z7 t7 e7
            split at d4
            · rename_i z9 e9
              split at d5
              · rename_i z10 t10 e10
                refine ⟨_, vs, _, _, _, _, _, _, _, X _ _ e, rfl, rfl, eP, ?_, e18, e7, e9, e10, b3⟩
                rw [Array.getD_eq_getD_getElem?, eP]
                rfl
              · cases d5
            · cases d4
          · cases d3
        · cases d2
      · cases d1
    · cases b5
/-- what is read off behind the top -/
def obsM (p : Prg) (P : Program) (K : PySem.W.Frag) : He.AlD × Bool := (He.obsD p.fa (p.fn P) K, p.consts.all (cstB K))
def isTab (g : Addr → Option Obj) (a : Addr) : Bool := match g a with
  | some ⟨c, none, .fields _, _⟩ => noneV c
  | _ => false
def partM (n : Nat) (g : Addr → Option Obj) : PySem.W.Frag := He.frG g ((He.asD g n).filter fun a => !isTab g a)
def obsMG (n : Nat) (p : Prg) (P : Program) (g : Addr → Option Obj) : (He.AlD × Bool) × Bool := (obsM p P (partM n g), decide (p.tabs.map (tabA (partM n g))).Nodup && p.tabs.all (tabB g (partM n g)))
def SaysM (p : Prg) (P : Program) (K : PySem.W.Frag) : Prop := obsM p P K = (He.valD (p.fn P), true)
def TabsM (p : Prg) (K : PySem.W.Frag) (h : Heap) : Prop := (p.tabs.map (tabA K)).Nodup ∧ ∀ x ∈ p.tabs, h.get? (tabA K x) = some tabObj0 ∧ K.lookup (tabA K x) = none ∧ PySem.W.CodeHd h (codA K x) (tabA K x) ∧ codA K x ≠ 0
theorem of_tabs {n : Nat} {p : Prg} {P : Program} {h : Heap} {v : He.AlD × Bool} (e : obsMG n p P h.get? = (v, true)) : TabsM p (partM n h.get?) h := by
  have e2 := congrArg (fun z : (He.AlD × Bool) × Bool => z.2) e
  have e3 : (decide (p.tabs.map (tabA (partM n h.get?))).Nodup && p.tabs.all (tabB h.get? (partM n h.get?))) = true := e2
  rw [Bool.and_eq_true, decide_eq_true_eq] at e3
  exact ⟨e3.1, fun x hx => tabB_ok He.frG_in (List.all_eq_true.mp e3.2 x hx)⟩
def hookM (n : Nat) (p : Prg) (P : Program) : PySem.W.Hook where
  α := (He.AlD × Bool) × Bool
  obs := fun s => obsMG n p P s.heap.get?
  val := fun _ => ((He.valD (p.fn P), true), true)
  says := fun _ h => ∃ K : PySem.W.Frag, K.In h ∧ SaysM p P K ∧ TabsM p K h
  of := fun _ s e => ⟨_, He.frG_in, congrArg (fun z : (He.AlD × Bool) × Bool => z.1) e, of_tabs e⟩
  keeps := fun _ _ _ ⟨K, hK, c, t⟩ k => ⟨K, PySem.W.Frag.In.keeps hK k, c, t.1, fun x hx => ⟨k _ _ (t.2 x hx).1, (t.2 x hx).2.1, (t.2 x hx).2.2.1.keeps k, (t.2 x hx).2.2.2⟩⟩
theorem obsMG_eq {n : Nat} {p : Prg} {P : Program} {g : Addr → Option Obj} {s : Shared} (h : ∀ a, g a = s.heap.get? a) : obsMG n p P g = (hookM n p P).obs s := by
  have e : g = s.heap.get? := funext h
  subst e
  rfl
section
variable {P : Program} {w : World} {K : PySem.W.Frag} {mg : Str → Option Value} {base h : Heap} {p : Prg}
theorem ixOf_lt : ∀ {l : List Str} {x : Str} {i : Nat}, ixOf l x = some i → i < l.length := fun h => (List.getElem?_eq_some_iff.mp (ixOf_at h)).1
theorem mem_lookup' {α : Type} : ∀ {l : List (Str × α)} {x : Str} {v : α}, l.lookup x = some v → (x, v) ∈ l := mem_look
theorem zipIdx_look {α : Type} [BEq α] [LawfulBEq α] : ∀ {l : List α} {x : α} {k i : Nat}, (l.zipIdx k).lookup x = some i → x ∈ l ∧ k ≤ i ∧ l[i - k]? = some x
  | [], _, _, _, h => by cases h
  | y :: l, x, k, i, h => by
    rw [List.zipIdx_cons, List.lookup_cons] at h
    cases e : x == y with
    | true =>
      rw [e] at h
      cases h
      have : x = y := by simpa using e
      subst this
      exact ⟨List.mem_cons_self, Nat.le_refl _, by simp⟩
    | false =>
      rw [e] at h
      obtain ⟨a, b, c⟩ := zipIdx_look h
      refine ⟨List.mem_cons_of_mem _ a, by omega, ?_⟩
      rw [show i - k = (i - (k + 1)) + 1 by omega]
      simpa using c
theorem says_fact (c : SaysM p P K) {f : He.Fa} (m : f ∈ p.fa) : f.ok K = true := by
  obtain ⟨i, hi⟩ := List.getElem?_of_mem m
  exact He.SaysD.fact (fa := p.fa) (fn := p.fn P) (congrArg (fun z : He.AlD × Bool => z.1) c) i hi
theorem says_glo (c : SaysM p P K) {d : Pl × Fn} (hd : d ∈ p.defs) (hc : d.2.cls = none) : (He.Fa.glo (Str.ofString d.2.name)).ok K = true := by
  refine says_fact c ?_
  unfold Prg.fa
  simp only [List.append_assoc]
  exact List.mem_append_left _ (List.mem_map.mpr ⟨d, List.mem_filter.mpr ⟨hd, by rw [hc]; rfl⟩, rfl⟩)
theorem says_free (c : SaysM p P K) {x : Str} (hx : x ∈ p.free) : (He.Fa.free x).ok K = true := by
  refine says_fact c ?_
  unfold Prg.fa
  simp only [List.append_assoc]
  exact List.mem_append_right _ (List.mem_append_left _ (List.mem_map.mpr ⟨x, hx, rfl⟩))
theorem says_fld (c : SaysM p P K) {f x : Str} {cs : List Str} (hf : (f, cs) ∈ p.flds) (hx : x ∈ cs) : (He.Fa.cls x).ok K = true ∧ (He.Fa.noat x f).ok K = true := by
  have key : ∀ z ∈ [He.Fa.cls x, He.Fa.noat x f], z ∈ p.fa := fun z hz => by
    unfold Prg.fa
    simp only [List.append_assoc]
    exact List.mem_append_right _ (List.mem_append_right _ (List.mem_append_left _ (List.mem_flatMap.mpr ⟨_, hf, List.mem_flatMap.mpr ⟨x, hx, hz⟩⟩)))
  exact ⟨says_fact c (key _ (by simp)), says_fact c (key _ (by simp))⟩
theorem says_mth (c : SaysM p P K) {m : Str} {q : Str × Nat} {cs : List (Str × Nat)} (hf : (m, cs) ∈ p.meths) (hq : q ∈ cs) : (He.Fa.cls q.1).ok K = true ∧ (He.Fa.meth q.1 m).ok K = true := by
  have key : ∀ z ∈ [He.Fa.cls q.1, He.Fa.meth q.1 m], z ∈ p.fa := fun z hz => by
    unfold Prg.fa
    simp only [List.append_assoc]
    exact List.mem_append_right _ (List.mem_append_right _ (List.mem_append_right _ (List.mem_append_left _ (List.mem_flatMap.mpr ⟨_, hf, List.mem_flatMap.mpr ⟨q, hq, hz⟩⟩))))
  exact ⟨says_fact c (key _ (by simp)), says_fact c (key _ (by simp))⟩
theorem says_mkr (c : SaysM p P K) {d : Pl × Fn} {q : Str × Nat} (hd : d ∈ p.defs) (hm : d.2.mkr = some q) : (He.Fa.mkr q.1).ok K = true := by
  refine says_fact c ?_
  unfold Prg.fa
  simp only [List.append_assoc]
  exact List.mem_append_right _ (List.mem_append_right _ (List.mem_append_right _ (List.mem_append_right _ (List.mem_filterMap.mpr ⟨d, hd, by rw [hm]; rfl⟩))))
theorem says_def (c : SaysM p P K) (hI : p.Is P) {d : Pl × Fn} (hd : d ∈ p.defs) (hm : d.2.mkr = none) : fnB p.G (stAt P d.1) d.2 ∧ ∃ src fd, srcOf (stAt P d.1) = some (Str.ofString d.2.name, src) ∧
    FunD K (Str.ofString d.2.name) d.2.qual src.params src.body src.scope [] [] (He.fAd K d.2.own) fd := by
  have ho := hI.one d hd
  unfold Prg.One at ho
  rw [hm] at ho
  obtain ⟨_, hb⟩ := ho
  refine ⟨hb, ?_⟩
  unfold fnB at hb
  split at hb
  · rename_i x s hs
    obtain ⟨rfl, _⟩ := hb
    have hmem : defD P d ∈ p.fn P := List.mem_map.mpr ⟨d, List.mem_filter.mpr ⟨hd, by rw [hm]; rfl⟩, rfl⟩
    have e : defD P d = ⟨d.2.own, Str.ofString d.2.name, d.2.qual, s.params, s.body, s.scope, [], []⟩ := by
      unfold defD
      rw [hs]
    obtain ⟨i, hi⟩ := List.getElem?_of_mem hmem
    rw [e] at hi
    obtain ⟨fd, F⟩ := He.SaysD.def_ (fa := p.fa) (fn := p.fn P) (congrArg (fun z : He.AlD × Bool => z.1) c) i hi
    exact ⟨s, fd, hs, F⟩
  · exact hb.elim
/-- a def that is no class -/
def DefOk (P : Program) (w : World) (K : PySem.W.Frag) (mg : Str → Option Value) (base : Heap) (p : Prg) (d : Nat) : Prop :=
  ∀ (i : Nat) (dd : Pl × Fn), p.defs[i]? = some dd → dd.2.mkr = none → ∃ fd ps, PySem.W.keepIn K (.ref (He.fAd K dd.2.own)) = true ∧ Binds K fd ps [] ∧ FnOk P w K mg base (L2.CX P w) d (He.fAd K dd.2.own) fd ps (spI K (callD p.T d) i)
theorem T_at {i : Nat} {dd : Pl × Fn} (hd : p.defs[i]? = some dd) : p.T[i]? = some dd.2 := by
  unfold Prg.T
  rw [List.getElem?_map, hd]
  rfl
theorem binds_of {dd : Pl × Fn} {src : DSrc} {fd : FuncData} {fa : Addr} (hb : fnB p.G (stAt P dd.1) dd.2) (hs : srcOf (stAt P dd.1) = some (Str.ofString dd.2.name, src)) (F : FunD K (Str.ofString dd.2.name) dd.2.qual src.params src.body src.scope [] [] fa fd) :
    Binds K fd (dd.2.ps.map Str.ofString) [] := by
  unfold fnB at hb
  rw [hs] at hb
  obtain ⟨_, hps, hsc, _⟩ := hb
  have S := scopeB_ok hsc
  have nd : (dd.2.ps.map Str.ofString).Nodup := by
    rw [← S.pre]
    exact S.nd.sublist (List.take_sublist _ _)
  exact F.bindsN fun kV doc pm an cdv ct us hl => bind_plain hps nd hl
theorem all_ok (X : K.In h) (G : h.Ns mainGlobals mg) (hI : p.Is P) (c : SaysM p P K) (tb : ∀ x ∈ p.tabs, GxR.TabB base mg (codA K x) (tabA K x) ∧ codA K x ≠ 0) : ∀ d : Nat, DefOk P w K mg base p d ∧ GOk P w K mg base (callD p.T d) p.G d := by
  have cst : ∀ (x : Str) (v : MV), p.G.consts.lookup x = some v → ∃ u w, mg x = some u ∧ RelV w u ∧ (∀ ρ H, RepV K ρ H v w) ∧ ∀ xs, v = .tup xs → ∃ a o, u = .ref a ∧ K.lookup a = some o ∧ o.cls = .type "tuple" ∧ o.dict = none := fun x v hx => by
    have h1 : p.consts.all (cstB K) = true := congrArg (fun z : He.AlD × Bool => z.2) c
    have h2 := List.all_eq_true.mp h1 _ (mem_look hx)
    unfold cstB at h2
    split at h2
    · rename_i u hu
      rw [Bool.and_eq_true] at h2
      obtain ⟨w, r, q⟩ := cvB_ok h2.1
      refine ⟨u, w, PySem.W.mg_of X G hu, r, q, fun xs exs => ?_⟩
      have h3 := h2.2
      simp only [exs] at h3
      cases u <;> first | (cases h3; done) | skip
      rename_i a
      simp only at h3
      split at h3
      · rename_i t dt sl e
        have : t = "tuple" := of_decide_eq_true h3
        subst this
        exact ⟨a, _, rfl, e, rfl, rfl⟩
      · cases h3
    · cases h2
  have free : ∀ x : Str, p.G.free.contains x = true → mg x = none := fun x hx => He.free_ok X G (says_free c (by simpa [Prg.G] using hx))
  have fld : ∀ (f : Str) (cs : List Str), p.G.flds.lookup f = some cs → ∀ x ∈ cs, L2.Cls K (He.ga K x) ∧ NoAttr K (He.ga K x) f := fun f cs hf x hx =>
    ⟨He.cls_ok (says_fld c (mem_look hf) hx).1, He.noat_ok (says_fld c (mem_look hf) hx).2⟩
  have tab : ∀ (x : Str × Option Str) (l : Nat), p.G.tabs.lookup x = some l → GxR.TabB base mg (codA K x) (tabA K x) ∧ codA K x ≠ 0 := fun x l hx => tb x (zipIdx_look hx).1
  have mk : ∀ d, DefOk P w K mg base p d → (∀ (i : Nat) (dd : Pl × Fn) (q : Str × Nat), p.defs[i]? = some dd → dd.2.mkr = some q → FnAt P w K mg base (callD p.T d) d i (gnm dd)) → GOk P w K mg base (callD p.T d) p.G d := fun d D M => by
    refine ⟨fun i x hne hi => ?_, fld, fun m cs hm q hq => ?_, fun x l hx => (tab x l hx).1, fun x xs hx => ?_, fun x v hx => ?_, free⟩
    · have hx := ixOf_at hi
      unfold Prg.G at hx
      simp only at hx
      rw [List.getElem?_map] at hx
      obtain ⟨dd, hd, rfl⟩ := Option.map_eq_some_iff.mp hx
      cases hm : dd.2.mkr with
      | some q => exact M i dd q hd hm
      | none =>
        obtain ⟨fd, ps, k1, k2, k3⟩ := D i dd hd hm
        have hc : dd.2.cls = none := by
          cases hc : dd.2.cls with
          | none => rfl
          | some s =>
            unfold gnm at hne
            rw [hc] at hne
            exact absurd rfl hne
        have eo : He.fAd K dd.2.own = He.ga K (Str.ofString dd.2.name) := by
          unfold Fn.own
          rw [hc]
          rfl
        have eg : gnm dd = Str.ofString dd.2.name := by
          unfold gnm
          rw [hc]
        rw [eg]
        refine .inl ⟨_, fd, ps, ?_, k1, k2, k3⟩
        rw [eo]
        exact He.glo_ok X G (says_glo c (List.mem_of_getElem? hd) hc)
    · have h1 := List.all_eq_true.mp (List.all_eq_true.mp hI.mth _ (mem_look hm)) q hq
      unfold methB at h1
      split at h1
      · rename_i dq hdq
        simp only [Bool.and_eq_true, decide_eq_true_eq, Option.isNone_iff_eq_none] at h1
        obtain ⟨fd, ps, k1, k2, k3⟩ := D q.2 dq hdq h1.1
        have s := says_mth c (mem_look hm) hq
        have eo : He.fAd K dq.2.own = He.ma K (He.ga K q.1) m := by
          rw [h1.2]
          rfl
        rw [eo] at k3
        exact ⟨He.cls_ok s.1, _, fd, ps, He.meth_ok s.2, k2, k3⟩
      · cases h1
    · obtain ⟨u, w, e1, _, _, e2⟩ := cst x _ hx
      obtain ⟨a, o, rfl, e3⟩ := e2 xs rfl
      exact ⟨a, o, e1, e3⟩
    · obtain ⟨u, w, e1, e2, e3, _⟩ := cst x _ hx
      exact ⟨u, w, e1, e2, e3⟩
  have clsF : ∀ (i : Nat) (dd : Pl × Fn) (q : Str × Nat), p.defs[i]? = some dd → dd.2.mkr = some q → gnm dd = q.1 ∧ mg q.1 = some (.ref (He.ga K q.1)) ∧ L2.Mk K (He.ga K q.1) (He.ma K (He.ga K q.1) "__init__") ∧
      ∃ dj, p.defs[q.2]? = some dj ∧ dj.2.mkr = none ∧ He.fAd K dj.2.own = He.ma K (He.ga K q.1) "__init__" ∧ dj.2.ps.length = dd.2.ps.length + 1 := fun i dd q hd hm => by
    have ho := hI.one dd (List.mem_of_getElem? hd)
    unfold Prg.One at ho
    rw [hm] at ho
    obtain ⟨_, h2, h3, dj, h4, h5, h6, h7⟩ := ho
    have eg : gnm dd = q.1 := by
      unfold gnm
      rw [h2]
      exact h3
    have g := He.glo_ok X G (says_glo c (List.mem_of_getElem? hd) h2)
    rw [h3] at g
    exact ⟨eg, g, He.mkr_ok (says_mkr c (List.mem_of_getElem? hd) hm), dj, h4, h5, by rw [h6]; rfl, h7⟩
  intro d
  induction d with
  | zero =>
    have D : DefOk P w K mg base p 0 := fun i dd hd hm => by
      obtain ⟨hb, src, fd, hs, F⟩ := says_def c hI (List.mem_of_getElem? hd) hm
      refine ⟨fd, _, F.kp, binds_of hb hs F, ⟨fun vs H Q E hsp => ?_, fun A outer s H args us vs Q E _ _ _ _ hsp => ?_⟩⟩
      · obtain ⟨_, _, _, _, _, po⟩ := hsp
        exact po.elim
      · obtain ⟨_, _, _, _, _, po⟩ := hsp
        exact po.elim
    refine ⟨D, mk 0 D fun i dd q hd hm => ?_⟩
    obtain ⟨eg, g, M, _⟩ := clsF i dd q hd hm
    rw [eg]
    exact .inr (.inr ⟨_, g, M.kp, fun xs h => rfl⟩)
  | succ d ih =>
    have D : DefOk P w K mg base p (d + 1) := fun i dd hd hm => by
      obtain ⟨hb, src, fd, hs, F⟩ := says_def c hI (List.mem_of_getElem? hd) hm
      exact ⟨fd, _, F.kp, binds_of hb hs F, def_ok hs (T_at hd) hb hm rfl F ih.2 fun l hl => (tab _ l hl).2⟩
    refine ⟨D, mk (d + 1) D fun i dd q hd hm => ?_⟩
    obtain ⟨eg, g, M, dj, h4, h5, h6, h7⟩ := clsF i dd q hd hm
    obtain ⟨fd, ps, k1, k2, k3⟩ := ih.1 q.2 dj h4 h5
    rw [eg]
    rw [h6] at k3
    refine .inr (.inl ⟨q.1, q.2, callD p.T d, _, fd, ps, d, rfl, g, M, k2, k3, fun xs h => ?_⟩)
    have e1 : callD p.T (d + 1) i xs h = if xs.length = dd.2.ps.length then (callD p.T d q.2 (.loc h.length :: xs) (h ++ [MO.ins q.1 [] []])).bind fun v h1 => if v.isNon = true then .ok (.loc h.length) h1 else .bad else .bad := by
      rw [callD, T_at hd]
      simp only [hm]
    rw [e1]
    split
    · exact .inr rfl
    · exact .inl rfl
end
/-! ### the law -/
/-- the depth of calls that is let -/
abbrev DEEP : Nat := 230
/-- the objects at the law's begin: the tables -/
def Prg.h0 (p : Prg) : MH := p.tabs.map MO.tbl
theorem law_ok {l : PySem.W.OpenLaw} {q : Program} {loose : List Str} {XP : (Str → Option Value) → Heap → Prop} {d : DefRec} {p : Prg} {n i : Nat} {dd : Pl × Fn} {a : String} (hn : l.most = some 63) (hdf : d.params.defaults = []) (hI : p.Is l.prog)
    (hd : p.defs[i]? = some dd) (hm : dd.2.mkr = none) (hc : dd.2.cls = none) (hx : d.name = Str.ofString dd.2.name) (ha : dd.2.ps = [a])
    (run : ∀ ns : List Int, ns.length ≤ 63 → ∃ h', callD p.T DEEP i [.rol (ns.map .int)] p.h0 = .ok (.bl true) h') :
    PySem.W.WalkO q loose XP (hookM n p l.prog).says l.row.toRowW d [] (fun f vs => PySem.call f vs) := by
  refine Att.attach_call hn hdf fun w s₀ s₁ mg mb fa o pm cd doc ad vs ns G Y ho hdo hcd hmg hobj hints hlen hg => ?_
  obtain ⟨K, KX, c, tnd, TM⟩ := Y
  have hr : Room DEEP callerA := ⟨rfl, by decide, by decide⟩
  obtain ⟨hb, src, fd2, hsr, F2⟩ := says_def c hI (List.mem_of_getElem? hd) hm
  have eo : He.fAd K dd.2.own = He.ga K (Str.ofString dd.2.name) := by
    unfold Fn.own
    rw [hc]
    rfl
  have eg : He.ga K (Str.ofString dd.2.name) = fa := by
    have h1 := He.glo_ok KX G.T.g (says_glo c (List.mem_of_getElem? hd) hc)
    rw [← hx, hmg] at h1
    cases h1
    rw [← hx]
  have hps : psOf src.params = some [Str.ofString a] := by
    have hb2 := hb
    unfold fnB at hb2
    rw [hsr] at hb2
    obtain ⟨_, hps, _⟩ := hb2
    rw [ha] at hps
    exact hps
  have F' : ∀ base : Heap, K.In base → base.Ns mainGlobals mg → (∀ z ∈ p.tabs.map fun x => (codA K x, tabA K x), GxR.TabB base mg z.1 z.2) → FnOk l.prog w K mg base (L2.CX l.prog w) DEEP fa fd2 [Str.ofString a] (spI K (callD p.T DEEP) i) := fun base hK hG hT => by
    have tb : ∀ x ∈ p.tabs, GxR.TabB base mg (codA K x) (tabA K x) ∧ codA K x ≠ 0 := fun x hx => ⟨hT _ (List.mem_map.mpr ⟨x, hx, rfl⟩), (TM x hx).2.2.2⟩
    have A := all_ok (w := w) hK hG hI c tb 229
    have z := def_ok (w := w) (mg := mg) (base := base) hsr (T_at hd) hb hm (K := K) rfl F2 A.2 (fun l2 hl => (tb _ (zipIdx_look hl).1).2)
    rw [ha, eo, eg] at z
    exact z
  have hbind : ∀ (s : Shared) (u : Value), BindsTo s fd2 ⟨[u], []⟩ [(Str.ofString a, u)] := fun s u =>
    FunD.bindsA (ps := [Str.ofString a]) F2 (fun kV doc pm an cdv ct us hl => bind_plain hps (by simp) hl) s [u] rfl
  refine law_endT (x := Str.ofString a) KX G.T.g G.T.b G.T.builtins G.T.nolimit hg (cs := p.tabs.map fun x => (codA K x, tabA K x)) (fun z hz => ?_) G.T.bmain hobj hints (Nat.le_trans hlen (by decide)) hr F' hbind (fun H hT hS => ?_) fun H e s' z => ?_
  · obtain ⟨x, hx, rfl⟩ := List.mem_map.mp hz
    exact ⟨(TM x hx).1, (TM x hx).2.1, (TM x hx).2.2.1⟩
  · obtain ⟨h', e⟩ := run ns hlen
    refine ⟨p.tabs.map (tabA K), p.h0, [.rol (ns.map .int)], ⟨by simp [Prg.h0], tnd, fun l o ho => ?_⟩, .one ?_, ?_⟩
    · unfold Prg.h0 at ho
      rw [List.getElem?_map] at ho
      obtain ⟨x, ex, rfl⟩ := Option.map_eq_some_iff.mp ho
      exact ⟨tabA K x, by rw [List.getElem?_map, ex]; rfl, rfl, #[], hT _ (List.mem_map.mpr ⟨x, List.mem_of_getElem? ex, rfl⟩), True.intro⟩
    · unfold RepV
      exact ⟨ad, ns.map V.int, rfl, hS, repVs_ints⟩
    · rw [e]
      intro ρ' H' w _ _ q
      exact repBl q
  · obtain ⟨_, _, _, _, _, _, _, _, _, _, _, _, y⟩ := z
    exact y
end MP
end
section
set_option Elab.async false
set_option linter.all false
set_option maxRecDepth 100000
set_option maxHeartbeats 4000000
/-! MP, part k: how the small language runs: rules for simp, loops by invariants. -/
namespace MP
open PySem

/-! ### the meaning, form by form -/
def envGet : En → Nat → Option MV
  | some v :: _, 0 => some v
  | none :: _, 0 => none
  | _ :: r, n + 1 => envGet r n
  | [], _ => none
@[simp] theorem envGet_0 {v : MV} {r : En} : envGet (some v :: r) 0 = some v := rfl
@[simp] theorem envGet_s {x : Option MV} {r : En} {n : Nat} : envGet (x :: r) (n + 1) = envGet r n := by
  cases x <;> rfl
theorem envGet_eq : ∀ {e : En} {i : Nat}, envGet e i = match e[i]? with
    | some (some v) => some v
    | _ => none
  | [], _ => rfl
  | some v :: r, 0 => rfl
  | none :: r, 0 => rfl
  | x :: r, n + 1 => by rw [envGet_s, envGet_eq (e := r)]; rfl
section
variable {C : Cl} {e : En} {h : MH} {a b c : E} {es : List E}
@[simp] theorem den_var {i : Nat} : E.den C (.var i) e h = oR h (envGet e i) := by
  rw [envGet_eq]
  simp only [E.den]
  cases e[i]? with
  | none => rfl
  | some x => cases x <;> rfl
@[simp] theorem den_lit {v : MV} : E.den C (.lit v) e h = .ok v h := by simp only [E.den]
@[simp] theorem den_bin {o : BOp} : E.den C (.bin o a b) e h = (E.den C a e h).bind fun x h1 => (E.den C b e h1).bind fun y h2 => oP (binO o x y h2) := by simp only [E.den]
@[simp] theorem den_neg : E.den C (.neg a) e h = (E.den C a e h).bind fun x h1 => match x with
    | .int i => .ok (.int (-i)) h1
    | _ => .bad := by simp only [E.den] <;> rfl
@[simp] theorem den_not : E.den C (.not a) e h = (E.den C a e h).bind fun x h1 => (oR h1 (truO x h1)).bind fun k h2 => .ok (.bl (!k)) h2 := by simp only [E.den]
@[simp] theorem den_cmp {o : COp} : E.den C (.cmp o a b) e h = (E.den C a e h).bind fun x h1 => (E.den C b e h1).bind fun y h2 => (oR h2 (cmpO o x y h2)).bind fun k h3 => .ok (.bl k) h3 := by simp only [E.den]
@[simp] theorem den_cmp2 {o o' : COp} : E.den C (.cmp2 o o' a b c) e h = (E.den C a e h).bind fun x h1 => (E.den C b e h1).bind fun y h2 => (oR h2 (cmpO o x y h2)).bind fun k h3 =>
      if k = true then (E.den C c e h3).bind fun z h4 => (oR h4 (cmpO o' y z h4)).bind fun k h5 => .ok (.bl k) h5 else .ok (.bl false) h3 := by simp only [E.den]
@[simp] theorem den_and : E.den C (.and a b) e h = (E.den C a e h).bind fun x h1 => (oR h1 (truO x h1)).bind fun k h2 => if k = true then E.den C b e h2 else .ok x h2 := by simp only [E.den]
@[simp] theorem den_or : E.den C (.or a b) e h = (E.den C a e h).bind fun x h1 => (oR h1 (truO x h1)).bind fun k h2 => if k = true then .ok x h2 else E.den C b e h2 := by simp only [E.den]
@[simp] theorem den_ite : E.den C (.ite c a b) e h = (E.den C c e h).bind fun x h1 => (oR h1 (truO x h1)).bind fun k h2 => if k = true then E.den C a e h2 else E.den C b e h2 := by simp only [E.den]
@[simp] theorem den_tup : E.den C (.tup es) e h = (Es.den C es e h).bind fun vs h1 => if vs.length ≤ sizeLine then .ok (.tup vs) h1 else .bad := by simp only [E.den]
@[simp] theorem den_lst : E.den C (.lst es) e h = (Es.den C es e h).bind fun vs h1 => if vs.length ≤ sizeLine then .ok (.loc h1.length) (h1 ++ [.lst vs]) else .bad := by simp only [E.den]
@[simp] theorem den_ix : E.den C (.ix a b) e h = (E.den C a e h).bind fun x h1 => (E.den C b e h1).bind fun y h2 => oR h2 (ixO x y h2) := by simp only [E.den]
@[simp] theorem den_sl {lo hi : Option E} : E.den C (.sl a lo hi) e h = (E.den C a e h).bind fun x h1 => (Eo.den C lo e h1).bind fun l h2 => (Eo.den C hi e h2).bind fun u h3 => oP (slO x l u h3) := by simp only [E.den]
@[simp] theorem den_call {f : Nat} : E.den C (.call f es) e h = (Es.den C es e h).bind fun vs h1 => C f vs h1 := by simp only [E.den]
@[simp] theorem den_dnew : E.den C .dnew e h = .ok (.loc h.length) (h ++ [.dct [] []]) := by simp only [E.den]
@[simp] theorem den_dget : E.den C (.dget a b) e h = (E.den C a e h).bind fun x h1 => if (dctO x h1).isSome = true then (E.den C b e h1).bind fun y h2 => oR h2 ((dctO x h2).bind fun d => (dGetO d y).map fun o => o.getD .non) else .bad := by simp only [E.den]
@[simp] theorem den_dget2 {c : E} : E.den C (.dget2 a b c) e h = (E.den C a e h).bind fun x h1 => if (dctO x h1).isSome = true then (E.den C b e h1).bind fun y h2 => (E.den C c e h2).bind fun z h3 => oR h3 ((dctO x h3).bind fun d => (dGetO d y).map fun o => o.getD z) else .bad := by simp only [E.den]
@[simp] theorem den_bi {b : Bi} : E.den C (.bi b es) e h = (Es.den C es e h).bind fun vs h1 => oP (biO b vs h1) := by simp only [E.den]
@[simp] theorem den_mt {m : Mt} : E.den C (.mt m a es) e h = (E.den C a e h).bind fun x h1 => if recvO m x h1 = true then (Es.den C es e h1).bind fun vs h2 => oP (mtO m x vs h2) else .bad := by simp only [E.den]
@[simp] theorem den_comp {ws : List Nat} {t : Tg} {k : IK} : E.den C (.comp ws t k es a) e h = (Es.den C es e h).bind fun vs h1 => match srcO k vs h1 with
    | none => .bad
    | some src => loop .bad (compTurn src t (wipeM e ws) (fun _ h => .ok true h) (fun e h => E.den C a e h)) 0 ([], h1) := by simp only [E.den] <;> rfl
@[simp] theorem den_compIf {ws : List Nat} {t : Tg} {k : IK} : E.den C (.compIf ws t k es c a) e h = (Es.den C es e h).bind fun vs h1 => match srcO k vs h1 with
    | none => .bad
    | some src => loop .bad (compTurn src t (wipeM e ws) (fun e h => E.tst C c e h) (fun e h => E.den C a e h)) 0 ([], h1) := by simp only [E.den] <;> rfl
@[simp] theorem deno_none : Eo.den C none e h = .ok none h := by simp only [Eo.den]
@[simp] theorem deno_some : Eo.den C (some a) e h = (E.den C a e h).bind fun x h1 => match x with
    | .int i => .ok (some i) h1
    | _ => .bad := by simp only [Eo.den] <;> rfl
@[simp] theorem dens_nil : Es.den C [] e h = .ok [] h := by simp only [Es.den]
@[simp] theorem dens_cons : Es.den C (a :: es) e h = (E.den C a e h).bind fun v h1 => (Es.den C es e h1).bind fun vs h2 => .ok (v :: vs) h2 := by simp only [Es.den]
theorem tst_eq : E.tst C a e h = (E.den C a e h).bind fun x h1 => oR h1 (truO x h1) := rfl
variable {ss tt ff : List S} {s : S} {t : Tg}
@[simp] theorem run_nil : Ss.den C [] e h = .nx e h := by simp only [Ss.den]
@[simp] theorem run_cons : Ss.den C (s :: ss) e h = (S.den C s e h).seq fun e h => Ss.den C ss e h := by simp only [Ss.den]
@[simp] theorem run_expr : S.den C (.expr a) e h = (E.den C a e h).sr e fun _ h1 => .nx e h1 := by simp only [S.den]
@[simp] theorem setH_nm {i : Nat} {v : MV} : (Tg.nm i).setH v h e = some (e.set i (some v)) := rfl
@[simp] theorem setH_tp {is : List Nat} {xs : List MV} : (Tg.tp is).setH (.tup xs) h e = tgSets is xs e := rfl
@[simp] theorem run_asg : S.den C (.asg t a) e h = (E.den C a e h).sr e fun v h1 => match t.setH v h1 e with
    | some e' => .nx e' h1
    | none => .bad := by simp only [S.den] <;> rfl
@[simp] theorem run_aug {i : Nat} {o : BOp} : S.den C (.aug i o a) e h = (oR h (envGet e i)).sr e fun x _ => (E.den C a e h).sr e fun y h1 => (oP (augO o x y h1)).sr e fun z h2 => .nx (e.set i (some z)) h2 := by
  rw [envGet_eq]
  simp only [S.den]
  cases e[i]? with
  | none => rfl
  | some x => cases x <;> rfl
@[simp] theorem run_setIx : S.den C (.setIx a b c) e h = (E.den C c e h).sr e fun v h1 => (E.den C a e h1).sr e fun x h2 => (E.den C b e h2).sr e fun y h3 => match setIxO x y v h3 with
    | some h4 => .nx e h4
    | none => .bad := by simp only [S.den] <;> rfl
@[simp] theorem run_ret : S.den C (.ret a) e h = (E.den C a e h).sr e fun v h1 => .rt v h1 := by simp only [S.den]
@[simp] theorem run_iff : S.den C (.iff c tt ff) e h = (E.tst C c e h).sr e fun k h1 => if k = true then Ss.den C tt e h1 else Ss.den C ff e h1 := by simp only [S.den]
@[simp] theorem run_for {k : IK} : S.den C (.for_ t k es ss) e h = (Es.den C es e h).sr e fun vs h1 => match srcO k vs h1 with
    | none => .bad
    | some src => loop .bad (forTurn src t (fun e h => Ss.den C ss e h)) 0 (e, h1) := by simp only [S.den] <;> rfl
theorem den_fld {cs : List Str} {f : Str} : E.den C (.fld cs a f) e h = (E.den C a e h).bind fun x h1 => oR h1 (fldO cs x f h1) := by simp only [E.den]
theorem den_meth {cs : List (Str × Nat)} {m : Str} : E.den C (.meth cs m a es) e h = (E.den C a e h).bind fun x h1 => match (insO x h1).bind fun o => if (nIx o.2.1 m).isNone = true then cs.lookup o.1 else none with
    | some f => (Es.den C es e h1).bind fun vs h2 => C f (x :: vs) h2
    | none => .bad := by simp only [E.den] <;> rfl
theorem den_tidx {v : MV} : E.den C (.tidx v a) e h = (E.den C a e h).bind fun y h1 => oR h1 (tidxO v y) := by simp only [E.den]
theorem den_dcomp {ws : List Nat} {t : Tg} {k : IK} {key val : E} : E.den C (.dcomp ws t k es key val) e h = (Es.den C es e h).bind fun vs h1 => match srcO k vs h1 with
    | none => .bad
    | some src => loop .bad (dcTurn src t (wipeM e ws) (fun e h => (E.den C key e h).bind fun y h1 => (oR h1 (keyO y)).bind fun k h2 => (E.den C val e h2).bind fun z h3 => .ok (k, z) h3)) 0 ([], [], h1) := by simp only [E.den] <;> rfl
theorem den_genQ {an : Bool} {l : Nat} {x : Str × Option Str} {q : QE} : E.den C (.genQ an l x q a) e h = (E.den C a e h).bind fun v h1 => (oR h1 (genO an l x q e v h1)).bind fun k h2 => .ok (.bl k) h2 := by simp only [E.den]
theorem den_allR {l : Nat} {x : Str × Option Str} {lo hi : Int} : E.den C (.allR l x lo hi a) e h = (E.den C a e h).bind fun v h1 => (oR h1 (allRO l x lo hi v h1)).bind fun k h2 => .ok (.bl k) h2 := by simp only [E.den]
theorem den_disp : E.den C (.disp es) e h = (Es.den C es e h).bind fun vs h1 => oP (dispO vs h1) := by simp only [E.den]
theorem run_setFld {cs : List Str} {f : Str} {b : E} : S.den C (.setFld cs b f a) e h = (E.den C a e h).sr e fun v h1 => (E.den C b e h1).sr e fun x h2 => match setFldO cs x f v h2 with
    | some h3 => .nx e h3
    | none => .bad := by simp only [S.den] <;> rfl
@[simp] theorem run_whl : S.den C (.whl c ss) e h = loop .bad (whileTurn C c (fun e h => Ss.den C ss e h)) 0 (e, h) := by simp only [S.den]
@[simp] theorem run_brk : S.den C .brk e h = .bk e h := by simp only [S.den]
@[simp] theorem run_cont : S.den C .cont e h = .ct e h := by simp only [S.den]
@[simp] theorem run_pass : S.den C .pass e h = .nx e h := by simp only [S.den]
theorem call_eq {T : List Fn} {d f : Nat} {vs : List MV} {fn : Fn} (hf : T[f]? = some fn) (hl : vs.length = fn.ps.length) (hm : fn.mkr = none := by rfl) : callD T (d + 1) f vs h = (Ss.den (callD T d) fn.body (fn.start vs) h).res := by
  rw [callD, hf]
  simp only [hl, if_true, hm]
end

/-! ### operations at known kinds -/
section
variable {h : MH} {i j : Int}
@[simp] theorem add_ii : binO .add (.int i) (.int j) h = some (.int (i + j), h) := rfl
@[simp] theorem sub_ii : binO .sub (.int i) (.int j) h = some (.int (i - j), h) := rfl
theorem mul_r (h1 : -18446744073709551616 < j) (h2 : j < 18446744073709551616) : binO .mul (.int i) (.int j) h = some (.int (i * j), h) := by
  have e : augO.CMulB i j = true := by
    unfold augO.CMulB
    simp only [Bool.or_eq_true, Bool.and_eq_true, decide_eq_true_eq]
    right
    omega
  simp only [binO, e, if_true]
theorem mul_l (h1 : -18446744073709551616 < i) (h2 : i < 18446744073709551616) : binO .mul (.int i) (.int j) h = some (.int (i * j), h) := by
  have e : augO.CMulB i j = true := by
    unfold augO.CMulB
    simp only [Bool.or_eq_true, Bool.and_eq_true, decide_eq_true_eq]
    left
    omega
  simp only [binO, e, if_true]
theorem fdiv_ii (h1 : 0 < j) (h2 : j < 1073741824) : binO .fdiv (.int i) (.int j) h = some (.int (i / j), h) := by
  have e : j ≠ 0 ∧ j.natAbs < 1073741824 := by omega
  simp only [binO]
  rw [if_pos e, Int.fdiv_eq_ediv_of_nonneg i (by omega)]
theorem mod_ii (h1 : 0 < j) : binO .mod (.int i) (.int j) h = some (.int (i % j), h) := by
  have e : j ≠ 0 := by omega
  simp only [binO]
  rw [if_pos e, Int.fmod_eq_emod_of_nonneg i (by omega)]
@[simp] theorem pow_10_18 : binO .pow (.int 10) (.int 18) h = some (.int 1000000000000000000, h) := by
  simp only [binO]
  rw [if_pos (by decide)]
  rfl
@[simp] theorem aadd_ii : augO .add (.int i) (.int j) h = some (.int (i + j), h) := rfl
@[simp] theorem asub_ii : augO .sub (.int i) (.int j) h = some (.int (i - j), h) := rfl
theorem amul_r (h1 : -18446744073709551616 < j) (h2 : j < 18446744073709551616) : augO .mul (.int i) (.int j) h = some (.int (i * j), h) := by
  have e : augO.CMulB i j = true := by
    unfold augO.CMulB
    simp only [Bool.or_eq_true, Bool.and_eq_true, decide_eq_true_eq]
    right
    omega
  simp only [augO, e, if_true]
@[simp] theorem eqO_ii : eqO (.int i) (.int j) h = some (decide (i = j)) := by
  unfold eqO
  rw [dat_of (.int i), dat_of (.int j)]
  show (if shp (.int i) = true ∧ shp (.int j) = true then _ else _) = _
  rw [if_pos ⟨rfl, rfl⟩]
  simp only [PyData.eqv]
  by_cases e : i = j <;> simp [e]
theorem shaped_str {x : Str} (hx : PyData.canLay0 (.str x) = true) : shp (.str x) = true := by
  unfold shp
  rw [hx]
  simp [PyData.depth]
theorem eqO_ss {x y : Str} (hx : PyData.canLay0 (.str x) = true) (hy : PyData.canLay0 (.str y) = true) : eqO (.str x) (.str y) h = some (x == y) := by
  unfold eqO
  rw [dat_of (.str x), dat_of (.str y)]
  show (if shp (.str x) = true ∧ shp (.str y) = true then _ else _) = _
  rw [if_pos ⟨shaped_str hx, shaped_str hy⟩]
  simp only [PyData.eqv]
@[simp] theorem cmp_eq {x y : MV} : cmpO .eq x y h = eqO x y h := rfl
@[simp] theorem cmp_ne {x y : MV} : cmpO .ne x y h = (eqO x y h).map (!·) := rfl
@[simp] theorem cmp_inn {x y : MV} : cmpO .inn x y h = inO x y h := rfl
@[simp] theorem cmp_nin {x y : MV} : cmpO .nin x y h = (inO x y h).map (!·) := rfl
@[simp] theorem cmp_lt : cmpO .lt (.int i) (.int j) h = some (decide (i < j)) := rfl
@[simp] theorem cmp_le : cmpO .le (.int i) (.int j) h = some (decide (i ≤ j)) := rfl
@[simp] theorem cmp_gt : cmpO .gt (.int i) (.int j) h = some (decide (j < i)) := rfl
@[simp] theorem cmp_ge : cmpO .ge (.int i) (.int j) h = some (decide (j ≤ i)) := rfl
@[simp] theorem cmp_is {x : MV} : cmpO .is x .non h = some x.isNon := rfl
@[simp] theorem cmp_isn {x : MV} : cmpO .isn x .non h = some (!x.isNon) := rfl
@[simp] theorem tru_bl {b : Bool} : truO (.bl b) h = some b := rfl
@[simp] theorem tru_non : truO .non h = some false := rfl
@[simp] theorem tru_int : truO (.int i) h = some (i != 0) := rfl
@[simp] theorem tru_tup {xs : List MV} : truO (.tup xs) h = some (!xs.isEmpty) := rfl
@[simp] theorem tru_rol {xs : List MV} : truO (.rol xs) h = some (!xs.isEmpty) := rfl
theorem tru_loc {l : Nat} {xs : List MV} (e : h[l]? = some (.lst xs)) : truO (.loc l) h = some (!xs.isEmpty) := by
  simp [truO, truL, e]
@[simp] theorem inO_tup {x : MV} {ys : List MV} : inO x (.tup ys) h = if flatM x = true ∧ ys.all flatM = true then some (ys.any fun z => PyData.eqv (flatD z) (flatD x)) else none := by
  show (inL x (.tup ys) h).or none = _
  rw [Option.or_none]
  rfl
/-! built-in functions -/
@[simp] theorem bi_min2 : biO .min2 [.int i, .int j] h = some (.int (if j < i then j else i), h) := rfl
@[simp] theorem bi_max2 : biO .max2 [.int i, .int j] h = some (.int (if j > i then j else i), h) := rfl
@[simp] theorem bi_abs : biO .abs [.int i] h = some (.int (if i < 0 then -i else i), h) := rfl
@[simp] theorem bi_int : biO .int [.int i] h = some (.int i, h) := rfl
@[simp] theorem bi_intb {b : Bool} : biO .int [.bl b] h = some (.int (if b then 1 else 0), h) := rfl
@[simp] theorem bi_isInt_i : biO .isInt [.int i] h = some (.bl true, h) := rfl
@[simp] theorem bi_isBool_i : biO .isBool [.int i] h = some (.bl false, h) := rfl
@[simp] theorem bi_len_tup {xs : List MV} : biO .len [.tup xs] h = some (.int xs.length, h) := rfl
@[simp] theorem bi_len_rol {xs : List MV} : biO .len [.rol xs] h = some (.int xs.length, h) := rfl
theorem bi_len_loc {l : Nat} {xs : List MV} (e : h[l]? = some (.lst xs)) : biO .len [.loc l] h = some (.int xs.length, h) := by
  simp [biO, biL, itemsO, e]
theorem bi_list {x : MV} {xs : List MV} (e : itemsO x h = some xs) : biO .list [x] h = some (.loc h.length, h ++ [.lst xs]) := by
  simp [biO, biL, e]
theorem bi_tuple_loc {l : Nat} {xs : List MV} (e : h[l]? = some (.lst xs)) : biO .tuple [.loc l] h = some (.tup xs, h) := by
  simp [biO, biL, itemsO, e]
@[simp] theorem items_tup {xs : List MV} : itemsO (.tup xs) h = some xs := rfl
@[simp] theorem items_rol {xs : List MV} : itemsO (.rol xs) h = some xs := rfl
theorem items_loc {l : Nat} {xs : List MV} (e : h[l]? = some (.lst xs)) : itemsO (.loc l) h = some xs := by
  simp only [itemsO, e]
/-! subscripts -/
theorem atI_nn {α : Type} {xs : List α} {n : Nat} {x : α} (e : xs[n]? = some x) : L2.atI xs (n : Int) = some x := L2.atI_nat e
theorem ix_seq {x : MV} {xs : List MV} {n : Nat} {v : MV} (e : itemsO x h = some xs) (hx : ∀ z, x ≠ .str z) (hj : j = (n : Int)) (ev : xs[n]? = some v) : ixO x (.int j) h = some v := by
  subst hj
  cases x with
  | str z => exact absurd rfl (hx z)
  | _ => simp [ixO, ixL, e, atI_nn ev]
theorem ix_loc {l n : Nat} {xs : List MV} {v : MV} (e : h[l]? = some (.lst xs)) (hj : j = (n : Int)) (ev : xs[n]? = some v) : ixO (.loc l) (.int j) h = some v :=
  ix_seq (items_loc e) (fun _ z => nomatch z) hj ev
theorem ix_tup {n : Nat} {xs : List MV} {v : MV} (hj : j = (n : Int)) (ev : xs[n]? = some v) : ixO (.tup xs) (.int j) h = some v :=
  ix_seq rfl (fun _ z => nomatch z) hj ev
theorem ix_rol {n : Nat} {xs : List MV} {v : MV} (hj : j = (n : Int)) (ev : xs[n]? = some v) : ixO (.rol xs) (.int j) h = some v :=
  ix_seq rfl (fun _ z => nomatch z) hj ev
theorem append_loc {l : Nat} {xs : List MV} {v : MV} (e : h[l]? = some (.lst xs)) (hz : xs.length < sizeLine) : mtO .append (.loc l) [v] h = some (.non, h.set l (.lst (xs ++ [v]))) := by
  simp only [mtO, e]
  rw [if_pos hz]
theorem recv_loc {m : Mt} {l : Nat} {xs : List MV} (e : h[l]? = some (.lst xs)) : recvO m (.loc l) h = true := by
  simp only [recvO, e]
end

/-! ### for, by its items -/
/-- a for over items that stand still -/
def forL (t : Tg) (b : En → MH → SR) : List MV → En → MH → SR
  | [], e, h => .nx e h
  | v :: vs, e, h => match t.set v e with
    | none => .bad
    | some e' => match b e' h with
      | .nx e2 h2 => forL t b vs e2 h2
      | .ct e2 h2 => forL t b vs e2 h2
      | .bk e2 h2 => .nx e2 h2
      | r => r
theorem for_items {src : Src} {t : Tg} {b : En → MH → SR} (xs : List MV) (hs : ∀ i h, src i h = some xs[i]?) : ∀ (n i : Nat) (e : En) (h : MH), xs.length - i = n → loop .bad (forTurn src t b) i (e, h) = forL t b (xs.drop i) e h := by
  intro n
  induction n with
  | zero =>
    intro i e h hn
    have hd : xs.drop i = [] := List.drop_eq_nil_of_le (by omega)
    have hx : xs[i]? = none := List.getElem?_eq_none (by omega)
    rw [loop_eq, hd]
    simp only [forTurn, hs, hx, forL]
  | succ n ih =>
    intro i e h hn
    have hi : i < xs.length := by omega
    have hx : xs[i]? = some xs[i] := List.getElem?_eq_getElem hi
    rw [loop_eq, List.drop_eq_getElem_cons hi]
    simp only [forTurn, hs, hx, forL]
    cases ht : t.set xs[i] e with
    | none => rfl
    | some e' =>
      simp only
      cases hb : b e' h with
      | nx e2 h2 => exact ih (i + 1) e2 h2 (by omega)
      | ct e2 h2 => exact ih (i + 1) e2 h2 (by omega)
      | bk e2 h2 => rfl
      | rt v h2 => rfl
      | exc x e2 h2 => rfl
      | bad => rfl
theorem for_list {t : Tg} {b : En → MH → SR} {e : En} {h : MH} (xs : List MV) : loop .bad (forTurn (fun i _ => some xs[i]?) t b) 0 (e, h) = forL t b xs e h :=
  for_items xs (fun _ _ => rfl) _ 0 e h rfl
theorem for_rng {t : Tg} {b : En → MH → SR} {e : En} {h : MH} (lo : Int) (n : Nat) : loop .bad (forTurn (fun i _ => some (if i < n then some (.int (lo + i)) else none)) t b) 0 (e, h) = forL t b ((List.range n).map fun (k : Nat) => MV.int (lo + k)) e h := by
  refine for_items ((List.range n).map fun (k : Nat) => MV.int (lo + k)) (fun i h => ?_) _ 0 e h rfl
  rw [List.getElem?_map]
  by_cases hi : i < n
  · rw [if_pos hi, List.getElem?_range hi]
    rfl
  · rw [if_neg hi, List.getElem?_eq_none (by simpa using Nat.le_of_not_lt hi)]
    rfl
/-- a for by an invariant: it goes through all its items -/
theorem forL_inv {t : Tg} {b : En → MH → SR} (I : Nat → En → MH → Prop) : ∀ (xs : List MV) (i : Nat) (e : En) (h : MH), I i e h →
    (∀ k v e h, xs[k]? = some v → I (i + k) e h → ∃ e' e2 h2, t.set v e = some e' ∧ (b e' h = .nx e2 h2 ∨ b e' h = .ct e2 h2) ∧ I (i + k + 1) e2 h2) →
    ∃ e2 h2, forL t b xs e h = .nx e2 h2 ∧ I (i + xs.length) e2 h2
  | [], i, e, h, q, _ => ⟨e, h, rfl, q⟩
  | x :: xs, i, e, h, q, st => by
    obtain ⟨e', e2, h2, h3, h4, h5⟩ := st 0 x e h rfl q
    have ih := forL_inv I xs (i + 1) e2 h2 h5 fun k v e h hk hi => by
      have := st (k + 1) v e h (by simpa using hk) (by rw [show i + (k + 1) = i + 1 + k by omega]; exact hi)
      rw [show i + (k + 1) + 1 = i + 1 + k + 1 by omega] at this
      exact this
    obtain ⟨e3, h6, h7, h8⟩ := ih
    refine ⟨e3, h6, ?_, by rw [List.length_cons, show i + (xs.length + 1) = i + 1 + xs.length by omega]; exact h8⟩
    unfold forL
    rw [h3]
    rcases h4 with h4 | h4 <;> simp only [h4] <;> exact h7
/-! ### comprehensions, by their items -/
theorem comp_items {src : Src} {t : Tg} {e : En} {tst : En → MH → Res Bool} {elt : En → MH → Res MV} {h : MH} (xs : List MV) (f : MV → Option MV) (hs : ∀ i, src i h = some xs[i]?) (hz : xs.length < sizeLine)
    (ht : ∀ x ∈ xs, ∃ e', t.set x e = some e' ∧ ((∃ y, f x = some y ∧ tst e' h = .ok true h ∧ elt e' h = .ok y h) ∨ (f x = none ∧ tst e' h = .ok false h))) :
    loop .bad (compTurn src t e tst elt) 0 ([], h) = .ok (.loc h.length) (h ++ [.lst (xs.filterMap f)]) := by
  have go : ∀ (n i : Nat) (acc : List MV), xs.length - i = n → acc.length ≤ i → loop .bad (compTurn src t e tst elt) i (acc, h) = .ok (.loc h.length) (h ++ [.lst (acc ++ (xs.drop i).filterMap f)]) := by
    intro n
    induction n with
    | zero =>
      intro i acc hn ha
      have hd : xs.drop i = [] := List.drop_eq_nil_of_le (by omega)
      have hx : xs[i]? = none := List.getElem?_eq_none (by omega)
      rw [loop_eq, hd]
      simp only [compTurn, hs, hx, List.filterMap_nil, List.append_nil]
    | succ n ih =>
      intro i acc hn ha
      have hi : i < xs.length := by omega
      have hx : xs[i]? = some xs[i] := List.getElem?_eq_getElem hi
      obtain ⟨e', h1, h2⟩ := ht xs[i] (List.getElem_mem hi)
      rw [loop_eq, List.drop_eq_getElem_cons hi, List.filterMap_cons]
      rcases h2 with ⟨y, hy, h3, h4⟩ | ⟨hy, h3⟩
      · simp only [compTurn, hs, hx, h1, h3, h4, hy]
        rw [if_pos (by omega)]
        simp only
        rw [ih (i + 1) (acc ++ [y]) (by omega) (by rw [List.length_append, List.length_singleton]; omega), List.append_assoc]
        rfl
      · simp only [compTurn, hs, hx, h1, h3, hy]
        rw [ih (i + 1) acc (by omega) (by omega)]
  have := go _ 0 [] rfl (Nat.zero_le _)
  simpa using this
/-- no test -/
theorem comp_map {src : Src} {t : Tg} {e : En} {elt : En → MH → Res MV} {h : MH} (xs : List MV) (f : MV → MV) (hs : ∀ i, src i h = some xs[i]?) (hz : xs.length < sizeLine)
    (ht : ∀ x ∈ xs, ∃ e', t.set x e = some e' ∧ elt e' h = .ok (f x) h) :
    loop .bad (compTurn src t e (fun _ h => .ok true h) elt) 0 ([], h) = .ok (.loc h.length) (h ++ [.lst (xs.map f)]) := by
  rw [comp_items xs (fun x => some (f x)) hs hz fun x hx => let ⟨e', a, b⟩ := ht x hx; ⟨e', a, .inl ⟨f x, rfl, rfl, b⟩⟩]
  simp

/-- a range's items -/
def rngL (lo : Int) (n : Nat) : List MV := (List.range n).map fun (k : Nat) => .int (lo + k)
@[simp] theorem rngL_length {lo : Int} {n : Nat} : (rngL lo n).length = n := by simp [rngL]
theorem mem_rngL {lo : Int} {n : Nat} {v : MV} (h : v ∈ rngL lo n) : ∃ k : Nat, k < n ∧ v = .int (lo + k) := by
  unfold rngL at h
  obtain ⟨k, hk, e⟩ := List.mem_map.mp h
  exact ⟨k, List.mem_range.mp hk, e.symm⟩
theorem rngL_at {lo : Int} {n k : Nat} {v : MV} (h : (rngL lo n)[k]? = some v) : k < n ∧ v = .int (lo + k) := by
  unfold rngL at h
  rw [List.getElem?_map] at h
  by_cases hk : k < n
  · rw [List.getElem?_range hk] at h
    exact ⟨hk, (Option.some.inj h).symm⟩
  · rw [List.getElem?_eq_none (by simpa using Nat.le_of_not_lt hk)] at h
    cases h
theorem rngL_src {lo : Int} {n i : Nat} : (if i < n then some (MV.int (lo + i)) else none) = (rngL lo n)[i]? := by
  unfold rngL
  rw [List.getElem?_map]
  by_cases hi : i < n
  · rw [if_pos hi, List.getElem?_range hi]
    rfl
  · rw [if_neg hi, List.getElem?_eq_none (by simpa using Nat.le_of_not_lt hi)]
    rfl
theorem src_rng1 {h : MH} {j : Int} (h1 : -4611686018427387904 ≤ j) (h2 : j < 4611686018427387904) : srcO .rng1 [.int j] h = some fun i _ => some (rngL 0 j.toNat)[i]? := by
  have e : rngOk j = true := by
    unfold rngOk
    simp only [Bool.and_eq_true, decide_eq_true_eq]
    omega
  simp only [srcO, e, if_true, rngL_src]
theorem src_rng2 {h : MH} {a b : Int} (h1 : -4611686018427387904 ≤ a) (h2 : a < 4611686018427387904) (h3 : -4611686018427387904 ≤ b) (h4 : b < 4611686018427387904) :
    srcO .rng2 [.int a, .int b] h = some fun i _ => some (rngL a (b - a).toNat)[i]? := by
  have e : rngOk a = true := by
    unfold rngOk
    simp only [Bool.and_eq_true, decide_eq_true_eq]
    omega
  have e2 : rngOk b = true := by
    unfold rngOk
    simp only [Bool.and_eq_true, decide_eq_true_eq]
    omega
  simp only [srcO, e, e2, Bool.and_true, if_true, rngL_src]
@[simp] theorem src_tup {h : MH} {xs : List MV} : srcO .val [.tup xs] h = some fun i _ => some xs[i]? := rfl
@[simp] theorem src_rol {h : MH} {xs : List MV} : srcO .val [.rol xs] h = some fun i _ => some xs[i]? := rfl
theorem comp_rng {t : Tg} {e : En} {elt : En → MH → Res MV} {h : MH} (lo : Int) (n : Nat) (f : Nat → MV) (hz : n < 16777216)
    (ht : ∀ k < n, ∃ e', t.set (.int (lo + (k : Nat))) e = some e' ∧ elt e' h = .ok (f k) h) :
    loop .bad (compTurn (fun i _ => some (rngL lo n)[i]?) t e (fun _ h => .ok true h) elt) 0 ([], h) = .ok (.loc h.length) (h ++ [.lst ((List.range n).map f)]) := by
  rw [comp_items (rngL lo n) (fun x => match x with
    | .int v => some (f (v - lo).toNat)
    | _ => none) (fun i => rfl) (by rw [rngL_length]; exact hz) fun x hx => ?_]
  · congr 4
    unfold rngL
    rw [List.filterMap_map]
    have : (fun x => match x with
      | MV.int v => some (f (v - lo).toNat)
      | _ => none) ∘ (fun (k : Nat) => MV.int (lo + k)) = fun k => some (f k) := by
      funext k
      show some (f (lo + k - lo).toNat) = _
      rw [show (lo + k - lo).toNat = k by omega]
    rw [this]
    simp
  · obtain ⟨k, hk, rfl⟩ := mem_rngL hx
    obtain ⟨e', a, b⟩ := ht k hk
    refine ⟨e', a, .inl ⟨f k, ?_, rfl, b⟩⟩
    show some (f (lo + k - lo).toNat) = _
    rw [show (lo + k - lo).toNat = k by omega]
theorem rngL_succ {lo : Int} {n : Nat} : rngL lo (n + 1) = .int lo :: rngL (lo + 1) n := by
  unfold rngL
  rw [List.range_succ_eq_map, List.map_cons, List.map_map]
  congr 1
  · simp
  · apply List.map_congr_left
    intro k _
    show MV.int (lo + ((k + 1 : Nat) : Int)) = _
    congr 1
    omega
@[simp] theorem rngL_zero {lo : Int} : rngL lo 0 = [] := rfl
/-- one turn -/
theorem forL_cons {t : Tg} {b : En → MH → SR} {v : MV} {vs : List MV} {e e' e2 : En} {h h2 : MH} (h1 : t.set v e = some e') (h3 : b e' h = .nx e2 h2) : forL t b (v :: vs) e h = forL t b vs e2 h2 := by
  rw [forL, h1]
  simp only [h3]
@[simp] theorem forL_nil {t : Tg} {b : En → MH → SR} {e : En} {h : MH} : forL t b [] e h = .nx e h := rfl
@[simp] theorem tset_nm {i : Nat} {v : MV} {e : En} : (Tg.nm i).set v e = some (e.set i (some v)) := rfl
@[simp] theorem tset_tp {is : List Nat} {xs : List MV} {e : En} : (Tg.tp is).set (.tup xs) e = tgSets is xs e := rfl

/-! ### objects in the heap: everything by h[l]? -/
def isL : Option MO → Bool
  | some (.lst _) => true
  | _ => false
def lstO : Option MO → Option (List MV)
  | some (.lst xs) => some xs
  | _ => none
def appR (h : MH) (l : Nat) (v : MV) : Option MO → Option (MV × MH)
  | some (.lst xs) => if xs.length < sizeLine then some (.non, h.set l (.lst (xs ++ [v]))) else none
  | _ => none
def popR (h : MH) (l : Nat) : Option MO → Option (MV × MH)
  | some (.lst xs) => match xs[xs.length - 1]? with
    | some y => some (y, h.set l (.lst xs.dropLast))
    | none => none
  | _ => none
section
variable {h : MH} {l : Nat} {xs : List MV}
@[simp] theorem isL_lst : isL (some (.lst xs)) = true := rfl
@[simp] theorem lstO_lst : lstO (some (.lst xs)) = some xs := rfl
@[simp] theorem recv_l {m : Mt} : recvO m (.loc l) h = isL h[l]? := by
  cases e : h[l]? with
  | none => simp [recvO, isL, e]
  | some o => cases o <;> simp [recvO, isL, e]
@[simp] theorem app_l {v : MV} : mtO .append (.loc l) [v] h = appR h l v h[l]? := by
  cases e : h[l]? with
  | none => simp [mtO, appR, e]
  | some o => cases o <;> simp [mtO, appR, e]
theorem appR_lst {v : MV} (hz : xs.length < 16777216) : appR h l v (some (.lst xs)) = some (.non, h.set l (.lst (xs ++ [v]))) := by
  show (if xs.length < sizeLine then _ else _) = _
  rw [if_pos (show xs.length < sizeLine from hz)]
@[simp] theorem pop_l : mtO .pop (.loc l) [] h = popR h l h[l]? := by
  cases e : h[l]? with
  | none => simp [mtO, popR, e]
  | some o =>
    cases o with
    | lst xs => simp only [mtO, popR, e] <;> rfl
    | dct _ _ => simp [mtO, popR, e]
    | ins _ _ _ => simp [mtO, popR, e]
    | tbl _ => simp [mtO, popR, e]
@[simp] theorem popR_lst {x : MV} : popR h l (some (.lst (xs ++ [x]))) = some (x, h.set l (.lst xs)) := by
  unfold popR
  simp
def lenT : Option MO → Option Nat
  | some (.lst xs) => some xs.length
  | some (.dct ks _) => some ks.length
  | _ => none
@[simp] theorem lenT_l {xs : List MV} : lenT (some (.lst xs)) = some xs.length := rfl
@[simp] theorem len_l : biO .len [.loc l] h = (lenT h[l]?).map fun n => (.int n, h) := by
  cases e : h[l]? with
  | none => simp [biO, biL, biD, dctO, itemsO, lenT, e]
  | some o => cases o <;> simp [biO, biL, biD, dctO, itemsO, lenT, e]
@[simp] theorem items_l : itemsO (.loc l) h = lstO h[l]? := by
  cases e : h[l]? with
  | none => simp [itemsO, lstO, e]
  | some o => cases o <;> simp [itemsO, lstO, e]
def truT : Option MO → Option Bool
  | some (.lst xs) => some (!xs.isEmpty)
  | some (.dct ks _) => some (!ks.isEmpty)
  | _ => none
@[simp] theorem truT_l {xs : List MV} : truT (some (.lst xs)) = some (!xs.isEmpty) := rfl
@[simp] theorem tru_l : truO (.loc l) h = truT h[l]? := by
  cases e : h[l]? with
  | none => simp [truO, truL, dctO, truT, e]
  | some o => cases o <;> simp [truO, truL, dctO, truT, e]
def ixT (i : Int) : Option MO → Option MV
  | some (.lst xs) => L2.atI xs i
  | some (.dct ks xs) => (kIx ks (.inl i)).bind fun j => xs[j]?
  | _ => none
@[simp] theorem ixT_l {i : Int} {xs : List MV} : ixT i (some (.lst xs)) = L2.atI xs i := rfl
@[simp] theorem ix_l {i : Int} : ixO (.loc l) (.int i) h = ixT i h[l]? := by
  cases e : h[l]? with
  | none => simp [ixO, ixL, dctO, itemsO, ixT, e]
  | some o => cases o <;> simp [ixO, ixL, dctO, dGetO, keyO, itemsO, ixT, e]
@[simp] theorem ix_t {i : Int} : ixO (.tup xs) (.int i) h = L2.atI xs i := by
  show (L2.atI xs i).or none = _
  rw [Option.or_none]
@[simp] theorem ix_r {i : Int} : ixO (.rol xs) (.int i) h = L2.atI xs i := by
  show (L2.atI xs i).or none = _
  rw [Option.or_none]
@[simp] theorem tuple_l : biO .tuple [.loc l] h = (lstO h[l]?).map fun xs => (.tup xs, h) := by
  cases e : h[l]? with
  | none => simp [biO, biL, itemsO, lstO, e]
  | some o => cases o <;> simp [biO, biL, itemsO, lstO, e]
def lisT : Option MO → Option (List MV)
  | some (.lst xs) => some xs
  | some (.dct ks _) => some (ks.map keyM)
  | _ => none
@[simp] theorem lisT_l {xs : List MV} : lisT (some (.lst xs)) = some xs := rfl
@[simp] theorem list_l : biO .list [.loc l] h = (lisT h[l]?).map fun xs => (.loc h.length, h ++ [.lst xs]) := by
  cases e : h[l]? with
  | none => simp [biO, biL, biD, dctO, itemsO, lisT, e]
  | some o => cases o <;> simp [biO, biL, biD, dctO, itemsO, lisT, e]
theorem src_l (e : h[l]? = some (.lst xs)) : srcO .val [.loc l] h = some (srcL l) := by
  simp only [srcO, e]
  rfl
/-! places -/
theorem atI_lit {n : Nat} : L2.atI xs (n : Int) = xs[n]? := by
  by_cases hn : n < xs.length
  · rw [List.getElem?_eq_getElem hn]
    exact L2.atI_nat (List.getElem?_eq_getElem hn)
  · rw [List.getElem?_eq_none (Nat.le_of_not_lt hn)]
    unfold L2.atI L2.ixN
    rw [if_pos (by omega), if_neg (by omega)]
    rfl
theorem atI_pos {i : Int} (hi : 0 ≤ i) : L2.atI xs i = xs[i.toNat]? := by
  have : i = (i.toNat : Int) := by omega
  rw [this, atI_lit]
  congr 1
@[simp] theorem atI_zero : L2.atI xs 0 = xs[0]? := atI_lit (n := 0)
@[simp] theorem atI_one : L2.atI xs 1 = xs[1]? := atI_lit (n := 1)
@[simp] theorem get_c0 {α : Type} {a : α} {r : List α} : (a :: r)[0]? = some a := rfl
@[simp] theorem get_cs {α : Type} {a : α} {r : List α} {n : Nat} : (a :: r)[n + 1]? = r[n]? := rfl
@[simp] theorem get_last {o : MO} : (h ++ [o])[h.length]? = some o := by
  rw [List.getElem?_append_right (Nat.le_refl _)]
  simp
@[simp] theorem get_len {r : MH} : (h ++ r)[h.length]? = r[0]? := by
  rw [List.getElem?_append_right (Nat.le_refl _)]
  simp
@[simp] theorem get_len1 {r : MH} {n : Nat} : (h ++ r)[h.length + n]? = r[n]? := by
  rw [List.getElem?_append_right (Nat.le_add_right _ _)]
  simp
theorem get_old {r : MH} (hl : l < h.length) : (h ++ r)[l]? = h[l]? := List.getElem?_append_left hl
@[simp] theorem set_last {o o' : MO} : (h ++ [o]).set h.length o' = h ++ [o'] := by
  rw [List.set_append_right _ _ (Nat.le_refl _)]
  simp
end
end MP
end
section
set_option Elab.async false
set_option linter.all false
set_option maxRecDepth 100000
set_option maxHeartbeats 4000000
/-! MP, part l: what the laws' own draws do. -/
namespace MP
open PySem
local macro_rules | `(tactic| walk_at "mp") => `(tactic| simp (disch := first | omega | assumption | (simp; omega) | decide +kernel) [Fn.start, List.replicate, tst_eq, mul_r, mul_l, fdiv_ii, mod_ii, amul_r, eqO_ss, src_rng1, src_rng2, for_list, tgSets, appR_lst, ↓reduceIte])
def dw0 : List S := [.expr (.mt .append (.var 4) [.bin .mod (.bi .int [.var 3]) (.var 1)]), .asg (.nm 3) (.bin .fdiv (.var 3) (.var 1))]
def dw1 : List S := [.asg (.nm 6) (.bin .mod (.bi .int [.bin .mul (.bin .add (.bin .add (.var 3) (.bin .mul (.lit (.int 7)) (.var 5))) (.lit (.int 1))) (.lit (.int 48271))]) (.lit (.int 2147483647))), .asg (.nm 6) (.bin .mod (.bi .int [.bin .add (.bin .mul (.var 6) (.lit (.int 69621))) (.bin .mul (.lit (.int 31)) (.var 5))]) (.lit (.int 2147483629))), .expr (.mt .append (.var 4) [.bin .mod (.bi .int [.bin .fdiv (.var 6) (.lit (.int 7))]) (.var 1)])]
def drawsB : List S := [.asg (.nm 3) (.var 0),
    .iff (.cmp .lt (.var 3) (.lit (.int 0))) [.asg (.nm 3) (.bin .sub (.lit (.int 0)) (.var 3))] [],
    .asg (.nm 4) (.lst []),
    .iff (.cmp .ge (.var 3) (.bin .pow (.lit (.int 10)) (.lit (.int 18)))) [.for_ (.nm 5) .rng1 [.var 2] dw0, .ret (.var 4)] [],
    .for_ (.nm 5) .rng1 [.var 2] dw1,
    .ret (.var 4)]
def DI (c m : Int) (n : Nat) (h : MH) (i : Nat) (e : En) (h' : MH) : Prop := ∃ (num : Int) (e5 e6 : Option MV) (xs : List Int), e = [some (.int c), some (.int m), some (.int n), some (.int num), some (.loc h.length), e5, e6] ∧ h' = h ++ [.lst (xs.map .int)] ∧ xs.length = i ∧ ∀ x ∈ xs, 0 ≤ x ∧ x < m
theorem draws_b0 (C : Cl) {c m num : Int} {n k : Nat} {e6 : Option MV} {h : MH} {xs : List MV} (hm : 0 < m ∧ m < 1073741824) (hx : xs.length < 16777216) :
    Ss.den C dw0 [some (.int c), some (.int m), some (.int n), some (.int num), some (.loc h.length), some (.int (0 + (k : Nat))), e6] (h ++ [.lst xs]) = .nx [some (.int c), some (.int m), some (.int n), some (.int (num / m)), some (.loc h.length), some (.int (0 + (k : Nat))), e6] (h ++ [.lst (xs ++ [.int (num % m)])]) := by
  unfold dw0
  walk_at "mp"
def dmix (num : Int) (k : Nat) : Int := ((num + 7 * (0 + (k : Nat)) + 1) * 48271 % 2147483647 * 69621 + 31 * (0 + (k : Nat))) % 2147483629
theorem draws_b1 (C : Cl) {c m num : Int} {n k : Nat} {e6 : Option MV} {h : MH} {xs : List MV} (hm : 0 < m ∧ m < 1073741824) (hx : xs.length < 16777216) :
    Ss.den C dw1 [some (.int c), some (.int m), some (.int n), some (.int num), some (.loc h.length), some (.int (0 + (k : Nat))), e6] (h ++ [.lst xs]) = .nx [some (.int c), some (.int m), some (.int n), some (.int num), some (.loc h.length), some (.int (0 + (k : Nat))), some (.int (dmix num k))] (h ++ [.lst (xs ++ [.int (dmix num k / 7 % m)])]) := by
  unfold dw1 dmix
  walk_at "mp"
theorem draws_s0 (C : Cl) {c m : Int} {n : Nat} {h : MH} (hm : 0 < m ∧ m < 1073741824) (hn : n < 10000) (k : Nat) (v : MV) (e : En) (h' : MH) (hk : (rngL 0 n)[k]? = some v) (q : DI c m n h (0 + k) e h') :
    ∃ e' e2 h2, (Tg.nm 5).set v e = some e' ∧ (Ss.den C dw0 e' h' = .nx e2 h2 ∨ Ss.den C dw0 e' h' = .ct e2 h2) ∧ DI c m n h (0 + k + 1) e2 h2 := by
  obtain ⟨num, e5, e6, xs, rfl, rfl, hl, hb⟩ := q
  obtain ⟨hk, rfl⟩ := rngL_at hk
  have hx : (xs.map MV.int).length < 16777216 := by rw [List.length_map]; omega
  refine ⟨_, _, _, rfl, .inl (draws_b0 C hm hx), num / m, some (.int (0 + k)), e6, xs ++ [num % m], rfl, by simp, by simp; omega, fun x hx => ?_⟩
  rcases List.mem_append.mp hx with hx | hx
  · exact hb x hx
  · rw [List.mem_singleton.mp hx]
    exact ⟨Int.emod_nonneg _ (by omega), Int.emod_lt_of_pos _ (by omega)⟩
theorem draws_s1 (C : Cl) {c m : Int} {n : Nat} {h : MH} (hm : 0 < m ∧ m < 1073741824) (hn : n < 10000) (k : Nat) (v : MV) (e : En) (h' : MH) (hk : (rngL 0 n)[k]? = some v) (q : DI c m n h (0 + k) e h') :
    ∃ e' e2 h2, (Tg.nm 5).set v e = some e' ∧ (Ss.den C dw1 e' h' = .nx e2 h2 ∨ Ss.den C dw1 e' h' = .ct e2 h2) ∧ DI c m n h (0 + k + 1) e2 h2 := by
  obtain ⟨num, e5, e6, xs, rfl, rfl, hl, hb⟩ := q
  obtain ⟨hk, rfl⟩ := rngL_at hk
  have hx : (xs.map MV.int).length < 16777216 := by rw [List.length_map]; omega
  refine ⟨_, _, _, rfl, .inl (draws_b1 C hm hx), num, some (.int (0 + k)), some (.int (dmix num k)), xs ++ [dmix num k / 7 % m], rfl, by simp, by simp; omega, fun x hx => ?_⟩
  rcases List.mem_append.mp hx with hx | hx
  · exact hb x hx
  · rw [List.mem_singleton.mp hx]
    exact ⟨Int.emod_nonneg _ (by omega), Int.emod_lt_of_pos _ (by omega)⟩
end MP
end
section
set_option Elab.async false
set_option linter.all false
set_option maxRecDepth 100000
/-! MP, part m: the laws' own draws, the end. -/
namespace MP
open PySem
theorem draws_test (C : Cl) (c m n h0 : MV) (h : MH) (num : Int) : ∃ b : Bool, E.tst C (.cmp .ge (.var 3) (.bin .pow (.lit (.int 10)) (.lit (.int 18)))) [some c, some m, some n, some (.int num), some h0, none, none] h = .ok b h := by
  have e : E.den C (.bin .pow (.lit (.int 10)) (.lit (.int 18))) [some c, some m, some n, some (.int num), some h0, none, none] h = .ok (.int 1000000000000000000) h := by
    rw [den_bin, den_lit]
    show (E.den C (.lit (.int 18)) [some c, some m, some n, some (.int num), some h0, none, none] h).bind (fun y h2 => oP (binO .pow (.int 10) y h2)) = _
    rw [den_lit]
    show oP (binO .pow (.int 10) (.int 18) h) = _
    rw [pow_10_18]
    rfl
  rw [tst_eq, den_cmp, den_var]
  show ∃ b, ((E.den C (.bin .pow (.lit (.int 10)) (.lit (.int 18))) [some c, some m, some n, some (.int num), some h0, none, none] h).bind fun y h2 => (oR h2 (cmpO .ge (.int num) y h2)).bind fun k h3 => Res.ok (MV.bl k) h3).bind (fun x h1 => oR h1 (truO x h1)) = _
  rw [e]
  generalize (1000000000000000000 : Int) = k
  exact ⟨decide (num ≥ k), rfl⟩
theorem seqNx {e : En} {h : MH} {k : En → MH → SR} : (SR.nx e h).seq k = k e h := rfl
section
variable {C : Cl} {e : En} {h h1 : MH} {c : E} {ss tt ff : List S} {es : List E} {k : IK} {t : Tg} {vs : List MV} {src : Src}
theorem run_for_at (q1 : Es.den C es e h = .ok vs h1) (q2 : srcO k vs h1 = some src) : S.den C (.for_ t k es ss) e h = loop .bad (forTurn src t (fun e h => Ss.den C ss e h)) 0 (e, h1) := by
  rw [run_for, q1]
  simp only [Res.sr]
  rw [q2]
theorem iff_t (hb : E.tst C c e h = .ok true h1) : S.den C (.iff c tt ff) e h = Ss.den C tt e h1 := by
  rw [run_iff, hb]
  rfl
theorem iff_f (hb : E.tst C c e h = .ok false h1) : S.den C (.iff c tt ff) e h = Ss.den C ff e h1 := by
  rw [run_iff, hb]
  rfl
end
theorem dens1 {C : Cl} {e : En} {h : MH} {a : E} {v : MV} (q : E.den C a e h = .ok v h) : Es.den C [a] e h = .ok [v] h := by
  rw [dens_cons, q]
  show (Es.den C [] e h).bind (fun vs h2 => Res.ok (v :: vs) h2) = _
  rw [dens_nil]
  rfl
theorem for_rets (C : Cl) {L : List MV} {src : Src} {a i r : Nat} {b : List S} {e e2 : En} {h h2 : MH} {v w : MV} (ha : envGet e a = some w) (e1 : srcO .rng1 [w] h = some src) (hsrc : src = fun i _ => some L[i]?) (q : forL (.nm i) (fun e h => Ss.den C b e h) L e h = .nx e2 h2) (hr : envGet e2 r = some v) :
    Ss.den C [.for_ (.nm i) .rng1 [.var a] b, .ret (.var r)] e h = .rt v h2 := by
  have e0 : Es.den C [.var a] e h = .ok [w] h := dens1 (by rw [den_var, ha]; rfl)
  rw [run_cons, run_for_at e0 e1, hsrc, for_list, q]
  show Ss.den C [.ret (.var r)] e2 h2 = _
  rw [run_cons, run_ret, den_var, hr]
  rfl
/-- a loop of so many turns and an answer -/
theorem for_ret (C : Cl) {n a i r : Nat} {b : List S} {e e2 : En} {h h2 : MH} {v : MV} (hn : n < 10000) (ha : envGet e a = some (.int n)) (q : forL (.nm i) (fun e h => Ss.den C b e h) (rngL 0 n) e h = .nx e2 h2) (hr : envGet e2 r = some v) :
    Ss.den C [.for_ (.nm i) .rng1 [.var a] b, .ret (.var r)] e h = .rt v h2 :=
  for_rets C ha (src_rng1 (by omega) (by omega)) rfl q hr
/-- a loop of so many turns, then the rest -/
theorem for_rest (C : Cl) {n i : Nat} {as : List E} {b r : List S} {e e2 : En} {h h1 h2 : MH} (hn : n < 10000) (ha : Es.den C as e h = .ok [.int n] h1) (q : forL (.nm i) (fun e h => Ss.den C b e h) (rngL 0 n) e h1 = .nx e2 h2) :
    Ss.den C (.for_ (.nm i) .rng1 as b :: r) e h = Ss.den C r e2 h2 := by
  have e1 : ∀ {src : Src} {L : List MV}, srcO .rng1 [.int (n : Int)] h1 = some src → (src = fun i _ => some L[i]?) → forL (.nm i) (fun e h => Ss.den C b e h) L e h1 = .nx e2 h2 → Ss.den C (.for_ (.nm i) .rng1 as b :: r) e h = Ss.den C r e2 h2 := by
    intro src L e1 hsrc q
    rw [run_cons, run_for_at ha e1, hsrc, for_list, q, seqNx]
  exact e1 (src_rng1 (by omega) (by omega)) rfl q
theorem draws_go {c m : Int} {n : Nat} {h : MH} (num : Int) : DI c m n h 0 [some (.int c), some (.int m), some (.int n), some (.int num), some (.loc h.length), none, none] (h ++ [.lst []]) := ⟨num, none, none, [], rfl, rfl, rfl, fun _ z => nomatch z⟩
theorem draws_fin (C : Cl) {c m : Int} {n : Nat} {h : MH} (b : List S) (hn : n < 10000) (num : Int) (hs : ∀ (k : Nat) (v : MV) (e : En) (h' : MH) (hk : (rngL 0 n)[k]? = some v) (q : DI c m n h (0 + k) e h'), ∃ e' e2 h2, (Tg.nm 5).set v e = some e' ∧ (Ss.den C b e' h' = .nx e2 h2 ∨ Ss.den C b e' h' = .ct e2 h2) ∧ DI c m n h (0 + k + 1) e2 h2) :
    ∃ xs : List Int, xs.length = n ∧ (∀ x ∈ xs, 0 ≤ x ∧ x < m) ∧ Ss.den C [.for_ (.nm 5) .rng1 [.var 2] b, .ret (.var 4)] [some (.int c), some (.int m), some (.int n), some (.int num), some (.loc h.length), none, none] (h ++ [.lst []]) = .rt (.loc h.length) (h ++ [.lst (xs.map .int)]) := by
  obtain ⟨e2, h2, q, q2⟩ := forL_inv (b := fun e h => Ss.den C b e h) (DI c m n h) (rngL 0 n) 0 _ _ (draws_go num) hs
  obtain ⟨num', e5, e6, xs, rfl, rfl, hl, hb⟩ := q2
  exact ⟨xs, by simpa using hl, hb, for_ret C hn rfl q rfl⟩
def drawsC : List S := [.iff (.cmp .ge (.var 3) (.bin .pow (.lit (.int 10)) (.lit (.int 18)))) [.for_ (.nm 5) .rng1 [.var 2] dw0, .ret (.var 4)] [],
      .for_ (.nm 5) .rng1 [.var 2] dw1, .ret (.var 4)]
theorem draws_key (C : Cl) {c m : Int} {n : Nat} {h : MH} (hm : 0 < m ∧ m < 1073741824) (hn : n < 10000) (num : Int) : ∃ xs : List Int, xs.length = n ∧ (∀ x ∈ xs, 0 ≤ x ∧ x < m) ∧ Ss.den C drawsC [some (.int c), some (.int m), some (.int n), some (.int num), some (.loc h.length), none, none] (h ++ [.lst []]) = .rt (.loc h.length) (h ++ [.lst (xs.map .int)]) := by
  obtain ⟨b, hb⟩ := draws_test C (.int c) (.int m) (.int n) (.loc h.length) (h ++ [.lst []]) num
  unfold drawsC
  cases b with
  | true =>
    obtain ⟨xs, h1, h2, h3⟩ := draws_fin C dw0 hn num (draws_s0 C hm hn)
    refine ⟨xs, h1, h2, ?_⟩
    rw [run_cons, iff_t hb, h3]
    rfl
  | false =>
    obtain ⟨xs, h1, h2, h3⟩ := draws_fin C dw1 hn num (draws_s1 C hm hn)
    refine ⟨xs, h1, h2, ?_⟩
    rw [run_cons, iff_f hb, run_nil, seqNx]
    exact h3
/-- draws: a new list of so many numbers below the modulus -/
theorem draws_ok (C : Cl) (c m : Int) (n : Nat) (h : MH) (hm : 0 < m ∧ m < 1073741824) (hn : n < 10000) :
    ∃ xs : List Int, xs.length = n ∧ (∀ x ∈ xs, 0 ≤ x ∧ x < m) ∧ Ss.den C drawsB [some (.int c), some (.int m), some (.int n), none, none, none, none] h = .rt (.loc h.length) (h ++ [.lst (xs.map .int)]) := by
  have key : ∀ num : Int, Ss.den C (.asg (.nm 4) (.lst []) :: drawsC) [some (.int c), some (.int m), some (.int n), some (.int num), none, none, none] h = Ss.den C drawsC [some (.int c), some (.int m), some (.int n), some (.int num), some (.loc h.length), none, none] (h ++ [.lst []]) := by
    intro num
    rw [run_cons, run_asg, den_lst, dens_nil]
    rfl
  have top : Ss.den C drawsB [some (.int c), some (.int m), some (.int n), none, none, none, none] h = Ss.den C (.asg (.nm 4) (.lst []) :: drawsC) [some (.int c), some (.int m), some (.int n), some (.int (if c < 0 then 0 - c else c)), none, none, none] h := by
    show Ss.den C (.asg (.nm 3) (.var 0) :: .iff (.cmp .lt (.var 3) (.lit (.int 0))) [.asg (.nm 3) (.bin .sub (.lit (.int 0)) (.var 3))] [] :: (.asg (.nm 4) (.lst []) :: drawsC)) _ h = _
    generalize (S.asg (.nm 4) (.lst []) :: drawsC) = r
    by_cases hc : c < 0
    · simp [hc, tst_eq, tgSets]
    · simp [hc, tst_eq, tgSets]
  rw [top, key]
  exact draws_key C hm hn _
end MP
end
section
set_option Elab.async false
set_option linter.all false
set_option maxRecDepth 100000
set_option maxHeartbeats 4000000
/-! MP, part n: the laws' own draw out of a state. -/
namespace MP
open PySem
/-! stores and other rules -/
section
variable {h : MH} {l : Nat} {xs : List MV}
theorem ixN_pos {n : Nat} {i : Int} (h1 : 0 ≤ i) (h2 : i < n) : L2.ixN n i = some i.toNat := by
  unfold L2.ixN
  rw [if_pos h1, if_pos (by omega)]
def setTM (h : MH) (l : Nat) (i : Int) (v : MV) : Option MO → Option MH
  | some (.lst xs) => (L2.ixN xs.length i).map fun j => h.set l (.lst (xs.set j v))
  | some (.dct ks xs) => if ks.length < sizeLine then some (h.set l (dPut ks xs (.inl i) v)) else none
  | _ => none
@[simp] theorem setTM_l {i : Int} {v : MV} : setTM h l i v (some (.lst xs)) = (L2.ixN xs.length i).map fun j => h.set l (.lst (xs.set j v)) := rfl
@[simp] theorem set_l {i : Int} {v : MV} : setIxO (.loc l) (.int i) v h = setTM h l i v h[l]? := by
  cases e : h[l]? with
  | none => simp [setIxO, setL, setD, dctO, setTM, e]
  | some o => cases o <;> simp [setIxO, setL, setD, dctO, keyO, setTM, e]
end
@[simp] theorem ty_i {i : Int} {h : MH} : tyNmM (.int i) h = some "int" := rfl
@[simp] theorem ty_b {b : Bool} {h : MH} : tyNmM (.bl b) h = some "bool" := rfl
@[simp] theorem ty_n {h : MH} : tyNmM .non h = some "NoneType" := rfl
@[simp] theorem ty_s {x : Str} {h : MH} : tyNmM (.str x) h = some "str" := rfl
@[simp] theorem ty_t {xs : List MV} {h : MH} : tyNmM (.tup xs) h = some "tuple" := rfl
@[simp] theorem ty_r {xs : List MV} {h : MH} : tyNmM (.rol xs) h = some "list" := rfl
@[simp] theorem bi_isList {x : MV} {h : MH} : biO .isList [x] h = (tyNmM x h).map fun t => (.bl (t == "list"), h) := rfl
@[simp] theorem bi_isTup {x : MV} {h : MH} : biO .isTup [x] h = (tyNmM x h).map fun t => (.bl (t == "tuple"), h) := rfl
@[simp] theorem bi_isStr {x : MV} {h : MH} : biO .isStr [x] h = (tyNmM x h).map fun t => (.bl (t == "str"), h) := rfl
def tenE18 : Int := 1000000000000000000
theorem ten_ge (C : Cl) (e : En) (h : MH) (i : Nat) (c : Int) (he : envGet e i = some (.int c)) : E.tst C (.cmp .ge (.var i) (.bin .pow (.lit (.int 10)) (.lit (.int 18)))) e h = .ok (decide (tenE18 ≤ c)) h := by
  have e1 : E.den C (.bin .pow (.lit (.int 10)) (.lit (.int 18))) e h = .ok (.int tenE18) h := by
    rw [den_bin, den_lit]
    show (E.den C (.lit (.int 18)) e h).bind (fun y h2 => oP (binO .pow (.int 10) y h2)) = _
    rw [den_lit]
    show oP (binO .pow (.int 10) (.int 18) h) = _
    rw [pow_10_18]
    rfl
  rw [tst_eq, den_cmp, den_var, he]
  show ((E.den C (.bin .pow (.lit (.int 10)) (.lit (.int 18))) e h).bind fun y h2 => (oR h2 (cmpO .ge (.int c) y h2)).bind fun k h3 => Res.ok (MV.bl k) h3).bind (fun x h1 => oR h1 (truO x h1)) = _
  rw [e1]
  generalize tenE18 = k
  rfl
/-- a heap that begins with the script's copy and the state -/
def dS (ns : List Int) (t : Int × Nat × Int) (g : MH) : MH := .lst (ns.map .int) :: .lst [.int t.1, .int t.2.1, .loc 0, .int t.2.2] :: g
section
variable {ns : List Int} {t : Int × Nat × Int} {g : MH}
@[simp] theorem dS_app {x : MH} : dS ns t g ++ x = dS ns t (g ++ x) := rfl
@[simp] theorem dS_len : (dS ns t g).length = g.length + 2 := rfl
@[simp high] theorem dS_get {n : Nat} : (dS ns t g)[n + 2]? = g[n]? := rfl
@[simp] theorem dS_set {n : Nat} {o : MO} : (dS ns t g).set (n + 2) o = dS ns t (g.set n o) := rfl
theorem dS_0 : (dS ns t g)[0]? = some (.lst (ns.map .int)) := rfl
theorem dS_1 : (dS ns t g)[1]? = some (.lst [.int t.1, .int t.2.1, .loc 0, .int t.2.2]) := rfl
end
def dCell (ns : List Int) (p : Nat) : Int := (ns[p]?).getD 0
def dC (ns : List Int) (t : Int × Nat × Int) : Int := (t.2.2 + dCell ns t.2.1 % 2147483629 + t.2.1 + 1) * 48271 % 2147483647
def dMix (c : Int) : Int := (c * 69621 + 11) % 2147483629
/-- refilled, if it is below the limit -/
def dR (ns : List Int) (t : Int × Nat × Int) : Int × Nat × Int :=
  if tenE18 ≤ dCell ns t.2.1 then (dCell ns t.2.1, t.2.1 + 1, t.2.2) else
  (dMix (dC ns t) * 2147483647 + (dMix (dC ns t) * 30011 + dC ns t) % 2147483587, t.2.1 + 1, dC ns t)
def dA (ns : List Int) (m : Int) (t : Int × Nat × Int) : Int × Nat × Int := if t.1 < m then dR ns t else t
/-- the drawn number -/
def dV (ns : List Int) (m : Int) (t : Int × Nat × Int) : Int := (dA ns m t).1 % m
/-- the state behind it -/
def dT (ns : List Int) (m : Int) (t : Int × Nat × Int) : Int × Nat × Int := ((dA ns m t).1 / m, (dA ns m t).2.1, (dA ns m t).2.2)
theorem dV_lo {ns : List Int} {m : Int} {t : Int × Nat × Int} (h : 0 < m) : 0 ≤ dV ns m t := Int.emod_nonneg _ (by omega)
theorem dV_hi {ns : List Int} {m : Int} {t : Int × Nat × Int} (h : 0 < m) : dV ns m t < m := Int.emod_lt_of_pos _ h
def dr0 : List S := [.setIx (.var 0) (.lit (.int 0)) (.var 4)]
def dr1 : List S := [.setIx (.var 0) (.lit (.int 3)) (.bin .mod (.bi .int [.bin .mul (.bin .add (.bin .add (.bin .add (.ix (.var 0) (.lit (.int 3))) (.bin .mod (.bi .int [.var 4]) (.lit (.int 2147483629)))) (.var 3)) (.lit (.int 1))) (.lit (.int 48271))]) (.lit (.int 2147483647))), .asg (.nm 5) (.bin .mod (.bi .int [.bin .add (.bin .mul (.ix (.var 0) (.lit (.int 3))) (.lit (.int 69621))) (.lit (.int 11))]) (.lit (.int 2147483629))), .setIx (.var 0) (.lit (.int 0)) (.bin .add (.bin .mul (.var 5) (.lit (.int 2147483647))) (.bin .mod (.bi .int [.bin .add (.bin .mul (.var 5) (.lit (.int 30011))) (.ix (.var 0) (.lit (.int 3)))]) (.lit (.int 2147483587))))]
def drC : List S := [.iff (.cmp .lt (.var 3) (.bi .len [.ix (.var 0) (.lit (.int 2))])) [.asg (.nm 4) (.ix (.ix (.var 0) (.lit (.int 2))) (.var 3))] [], .iff (.cmp .ge (.var 4) (.bin .pow (.lit (.int 10)) (.lit (.int 18)))) dr0 dr1]
def drE : List S := [.asg (.nm 2) (.bin .mod (.bi .int [.ix (.var 0) (.lit (.int 0))]) (.var 1)),
    .setIx (.var 0) (.lit (.int 0)) (.bin .fdiv (.ix (.var 0) (.lit (.int 0))) (.var 1)),
    .ret (.var 2)]
def drB : List S := .iff (.cmp .lt (.ix (.var 0) (.lit (.int 0))) (.var 1)) (.asg (.nm 3) (.ix (.var 0) (.lit (.int 1))) :: .setIx (.var 0) (.lit (.int 1)) (.bin .add (.var 3) (.lit (.int 1))) :: .asg (.nm 4) (.lit (.int 0)) :: drC) [] :: drE
local macro_rules | `(tactic| walk_at "mp") => `(tactic| simp (disch := first | omega | assumption | (simp; omega) | decide +kernel) [tst_eq, mul_r, fdiv_ii, mod_ii, dS_0, dS_1, atI_pos, ixN_pos])
theorem dr1_ok (C : Cl) {ns : List Int} {a c m cell : Int} {p q : Nat} {e2 e5 : Option MV} {g : MH} :
    ∃ f5, Ss.den C dr1 [some (.loc 1), some (.int m), e2, some (.int p), some (.int cell), e5] (.lst (ns.map .int) :: .lst [.int a, .int q, .loc 0, .int c] :: g) =
    .nx [some (.loc 1), some (.int m), e2, some (.int p), some (.int cell), f5] (.lst (ns.map .int) :: .lst [.int (dMix ((c + cell % 2147483629 + p + 1) * 48271 % 2147483647) * 2147483647 + (dMix ((c + cell % 2147483629 + p + 1) * 48271 % 2147483647) * 30011 + (c + cell % 2147483629 + p + 1) * 48271 % 2147483647) % 2147483587), .int q, .loc 0, .int ((c + cell % 2147483629 + p + 1) * 48271 % 2147483647)] :: g) := by
  refine ⟨some (.int (dMix ((c + cell % 2147483629 + p + 1) * 48271 % 2147483647))), ?_⟩
  unfold dr1 dMix
  walk_at "mp"
theorem dr0_ok (C : Cl) {ns : List Int} {a c m cell : Int} {p q : Nat} {e2 e5 : Option MV} {g : MH} :
    Ss.den C dr0 [some (.loc 1), some (.int m), e2, some (.int p), some (.int cell), e5] (.lst (ns.map .int) :: .lst [.int a, .int q, .loc 0, .int c] :: g) =
    .nx [some (.loc 1), some (.int m), e2, some (.int p), some (.int cell), e5] (.lst (ns.map .int) :: .lst [.int cell, .int q, .loc 0, .int c] :: g) := by
  unfold dr0
  walk_at "mp"
theorem drCell_ok (C : Cl) {ns : List Int} {a c m : Int} {p q : Nat} {e2 e5 : Option MV} {g : MH} :
    S.den C (.iff (.cmp .lt (.var 3) (.bi .len [.ix (.var 0) (.lit (.int 2))])) [.asg (.nm 4) (.ix (.ix (.var 0) (.lit (.int 2))) (.var 3))] []) [some (.loc 1), some (.int m), e2, some (.int p), some (.int 0), e5] (.lst (ns.map .int) :: .lst [.int a, .int q, .loc 0, .int c] :: g) =
    .nx [some (.loc 1), some (.int m), e2, some (.int p), some (.int (dCell ns p)), e5] (.lst (ns.map .int) :: .lst [.int a, .int q, .loc 0, .int c] :: g) := by
  unfold dCell
  by_cases hp : p < ns.length
  · have e1 : (ns.map MV.int)[p]? = some (.int ns[p]) := by rw [List.getElem?_map, List.getElem?_eq_getElem hp]; rfl
    have e2 : ns[p]? = some ns[p] := List.getElem?_eq_getElem hp
    have e3 : (p : Int) < (ns.length : Int) := by omega
    rw [e2]
    simp [tst_eq, atI_pos, e1, hp, atI_lit, List.getElem?_map, e2]
  · have e2 : ns[p]? = none := List.getElem?_eq_none (by omega)
    have e3 : ¬ (p : Int) < (ns.length : Int) := by omega
    rw [e2]
    simp [tst_eq, atI_pos, hp]
theorem drC_ok (C : Cl) {ns : List Int} {a c m : Int} {p : Nat} {e2 e5 : Option MV} {g : MH} :
    ∃ f4 f5, Ss.den C drC [some (.loc 1), some (.int m), e2, some (.int p), some (.int 0), e5] (.lst (ns.map .int) :: .lst [.int a, .int ((p : Int) + 1), .loc 0, .int c] :: g) =
    .nx [some (.loc 1), some (.int m), e2, some (.int p), f4, f5] (dS ns (dR ns (a, p, c)) g) := by
  have hp : ((p : Int) + 1) = ((p + 1 : Nat) : Int) := by omega
  unfold drC
  rw [hp, run_cons, drCell_ok, seqNx, run_cons]
  have ht := ten_ge C [some (.loc 1), some (.int m), e2, some (.int p), some (.int (dCell ns p)), e5] (.lst (ns.map .int) :: .lst [.int a, .int ((p + 1 : Nat) : Int), .loc 0, .int c] :: g) 4 (dCell ns p) (by simp)
  by_cases hc : tenE18 ≤ dCell ns p
  · rw [decide_eq_true hc] at ht
    rw [iff_t ht, dr0_ok, seqNx, run_nil]
    refine ⟨some (.int (dCell ns p)), e5, ?_⟩
    unfold dR
    rw [if_pos hc]
    rfl
  · rw [decide_eq_false hc] at ht
    obtain ⟨f5, q⟩ := dr1_ok C (ns := ns) (a := a) (c := c) (m := m) (cell := dCell ns p) (p := p) (q := p + 1) (e2 := e2) (e5 := e5) (g := g)
    rw [iff_f ht, q, seqNx, run_nil]
    refine ⟨some (.int (dCell ns p)), f5, ?_⟩
    unfold dR
    rw [if_neg hc]
    rfl
theorem drE_ok (C : Cl) {ns : List Int} {m : Int} {t : Int × Nat × Int} {e2 e3 e4 e5 : Option MV} {g : MH} (hm : 0 < m ∧ m < 1073741824) :
    Ss.den C drE [some (.loc 1), some (.int m), e2, e3, e4, e5] (dS ns t g) = .rt (.int (t.1 % m)) (dS ns (t.1 / m, t.2.1, t.2.2) g) := by
  unfold drE dS
  walk_at "mp"
theorem drP_ok (C : Cl) {ns : List Int} {m : Int} {a c : Int} {p : Nat} {e2 e5 : Option MV} {e3 e4 : Option MV} {g : MH} {r : List S} :
    Ss.den C (.asg (.nm 3) (.ix (.var 0) (.lit (.int 1))) :: .setIx (.var 0) (.lit (.int 1)) (.bin .add (.var 3) (.lit (.int 1))) :: .asg (.nm 4) (.lit (.int 0)) :: r) [some (.loc 1), some (.int m), e2, e3, e4, e5] (dS ns (a, p, c) g) =
    Ss.den C r [some (.loc 1), some (.int m), e2, some (.int p), some (.int 0), e5] (.lst (ns.map .int) :: .lst [.int a, .int ((p : Int) + 1), .loc 0, .int c] :: g) := by
  unfold dS
  walk_at "mp"
/-- the draw -/
theorem draw_ok (C : Cl) (ns : List Int) (t : Int × Nat × Int) (g : MH) (m : Int) (hm : 0 < m ∧ m < 1073741824) :
    Ss.den C drB [some (.loc 1), some (.int m), none, none, none, none] (dS ns t g) = .rt (.int (dV ns m t)) (dS ns (dT ns m t) g) := by
  obtain ⟨a, p, c⟩ := t
  have ht : E.tst C (.cmp .lt (.ix (.var 0) (.lit (.int 0))) (.var 1)) [some (.loc 1), some (.int m), none, none, none, none] (dS ns (a, p, c) g) = .ok (decide (a < m)) (dS ns (a, p, c) g) := by
    unfold dS
    walk_at "mp"
  unfold drB dV dT dA
  rw [run_cons]
  by_cases hc : a < m
  · rw [decide_eq_true hc] at ht
    obtain ⟨f4, f5, q⟩ := drC_ok C (ns := ns) (a := a) (c := c) (m := m) (p := p) (e2 := none) (e5 := none) (g := g)
    rw [iff_t ht, drP_ok, q, seqNx, drE_ok C hm, if_pos hc]
  · rw [decide_eq_false hc] at ht
    rw [iff_f ht, run_nil, seqNx, drE_ok C hm, if_neg hc]
/-! while, turn by turn -/
section
variable {C : Cl} {c : E} {b : En → MH → SR} {e e2 : En} {h h1 h2 : MH} {i : Nat}
theorem whl_stop (ht : E.tst C c e h = .ok false h1) : loop .bad (MP.whileTurn C c b) i (e, h) = .nx e h1 := by
  rw [loop_eq]
  simp only [MP.whileTurn, ht]
theorem whl_step (ht : E.tst C c e h = .ok true h1) (hb : b e h1 = .nx e2 h2) : loop .bad (MP.whileTurn C c b) i (e, h) = loop .bad (MP.whileTurn C c b) (i + 1) (e2, h2) := by
  rw [loop_eq]
  simp only [MP.whileTurn, ht, hb, SR.turn]
end
/-- two values of the same data are equal -/
theorem eqO_same {x y : MV} {d : PyData} {h : MH} (a : Dn h x d) (b : Dn h y d) (s : shp d = true) : eqO x y h = some true := by
  have hl : d.canLay0 = true := by
    unfold shp at s
    rw [Bool.and_eq_true] at s
    exact s.1
  unfold eqO
  rw [dat_of a, dat_of b]
  show (if shp d = true ∧ shp d = true then some (PyData.eqv d d) else none) = _
  rw [if_pos ⟨s, s⟩, SeqAt.eqv_refl d hl]
theorem eqO_data {x y : MV} {d e : PyData} {h : MH} (a : Dn h x d) (b : Dn h y e) (s : shp d = true) (s' : shp e = true) : eqO x y h = some (PyData.eqv d e) := by
  unfold eqO
  rw [dat_of a, dat_of b]
  show (if shp d = true ∧ shp e = true then some (PyData.eqv d e) else none) = _
  rw [if_pos ⟨s, s'⟩]
end MP
end
section
set_option Elab.async false
set_option linter.all false
set_option maxRecDepth 100000
set_option maxHeartbeats 4000000
/-! MQ, part a: a second meaning of the small language, over plain data: lists are values; a list that a slot owns may be changed there. -/
namespace MQ
open PySem MP

inductive D where
  | non | bl (b : Bool) | int (i : Int) | str (x : Str) | tup (xs : List D) | lst (xs : List D) | rol (xs : List D) | tok (n : Nat) | dct (ks : List L2.Key) (xs : List D) | ins (c : Str) (ns : List Str) (xs : List D)
inductive GO where
  | lst (xs : List D)
  | tbl (x : Str × Option Str)
abbrev GS := List GO
structure PX where
  c : Nat
  fs : List (Nat × D)
inductive PR (α : Type) where
  | ok (a : α) (g : GS) | exc (x : PX) (g : GS) | bad
namespace PR
def bind {α β : Type} : PR α → (α → GS → PR β) → PR β
  | .ok a g, f => f a g
  | .exc x g, _ => .exc x g
  | .bad, _ => .bad
@[simp] theorem bind_ok {α β : Type} (a : α) (g : GS) (f : α → GS → PR β) : (PR.ok a g).bind f = f a g := rfl
@[simp] theorem bind_exc {α β : Type} (x : PX) (g : GS) (f : α → GS → PR β) : (PR.exc x g : PR α).bind f = .exc x g := rfl
@[simp] theorem bind_bad {α β : Type} (f : α → GS → PR β) : (PR.bad : PR α).bind f = .bad := rfl
end PR
/-- a slot: the value, and whether the slot alone holds the list -/
abbrev PEn := List (Option (D × Bool))
inductive PSR where
  | nx (p : PEn) (g : GS) | rt (d : D) (fr : Bool) (g : GS) | bk (p : PEn) (g : GS) | ct (p : PEn) (g : GS) | exc (x : PX) (p : PEn) (g : GS) | bad

/-! ### data -/
mutual
def D.pd : D → PyData
  | .non => .none
  | .bl b => .bool b
  | .int i => .int i
  | .str x => .str x
  | .tup xs => .tuple (Ds.pd xs)
  | .lst xs => .list (Ds.pd xs)
  | .rol xs => .list (Ds.pd xs)
  | .tok _ => .none
  | .dct _ _ => .none
  | .ins _ _ _ => .none
def Ds.pd : List D → List PyData
  | [] => []
  | x :: xs => x.pd :: Ds.pd xs
end
mutual
/-- no object in it -/
def D.nt : D → Bool
  | .tup xs => Ds.nt xs
  | .lst xs => Ds.nt xs
  | .rol xs => Ds.nt xs
  | .tok _ => false
  | .dct _ _ => false
  | .ins _ _ _ => false
  | _ => true
def Ds.nt : List D → Bool
  | [] => true
  | x :: xs => x.nt && Ds.nt xs
end
mutual
/-- no list in it -/
def D.im : D → Bool
  | .tup xs => Ds.im xs
  | .rol xs => Ds.im xs
  | .lst _ => false
  | .dct _ _ => false
  | .ins _ _ _ => false
  | _ => true
def Ds.im : List D → Bool
  | [] => true
  | x :: xs => x.im && Ds.im xs
end
def D.sh (d : D) : Bool := d.nt && shp d.pd
def D.flat : D → Bool
  | .non | .bl _ | .int _ | .str _ => true
  | _ => false
/-- nothing in it that another slot may hold -/
def clP : D → Bool → Bool
  | d, false => d.im
  | .lst xs, true => Ds.im xs
  | .dct _ xs, true => Ds.im xs
  | .ins _ _ xs, true => Ds.im xs
  | _, true => false
mutual
def mvD : MV → Option D
  | .non => some .non
  | .bl b => some (.bl b)
  | .int i => some (.int i)
  | .str x => some (.str x)
  | .tup xs => (mvDs xs).map .tup
  | .rol xs => (mvDs xs).map .rol
  | _ => none
def mvDs : List MV → Option (List D)
  | [] => some []
  | x :: xs => match mvD x, mvDs xs with
    | some d, some ds => some (d :: ds)
    | _, _ => none
end
/-! ### operations -/
abbrev OD := Option (D × Bool)
def addP (x y : D) : OD := match x, y with
  | .int i, .int j => some (.int (i + j), false)
  | .str a, .str b => if a.length + b.length ≤ sizeLine then some (.str (a ++ b), false) else none
  | .tup xs, .tup ys => if xs.length + ys.length ≤ sizeLine then some (.tup (xs ++ ys), false) else none
  | .lst xs, .lst ys => if xs.length + ys.length ≤ sizeLine then some (.lst (xs ++ ys), true) else none
  | _, _ => none
/-- decided outside of the kernel's reach (as rngOk) -/
noncomputable def mulOk (i j : Int) : Bool := @decide (augO.CMulB i j = true) (Classical.propDecidable _)
theorem mulOk_iff {i j : Int} : mulOk i j = true ↔ augO.CMulB i j = true := by
  unfold mulOk
  exact @decide_eq_true_iff _ (Classical.propDecidable _)
noncomputable def divOk (j : Int) : Bool := @decide (j ≠ 0 ∧ j.natAbs < 1073741824) (Classical.propDecidable _)
theorem divOk_iff {j : Int} : divOk j = true ↔ (j ≠ 0 ∧ j.natAbs < 1073741824) := by
  unfold divOk
  exact @decide_eq_true_iff _ (Classical.propDecidable _)
noncomputable def powOk (i j : Int) : Bool := @decide (0 ≤ j ∧ j ≤ 1000000 ∧ i.natAbs < 2 ^ 64) (Classical.propDecidable _)
theorem powOk_iff {i j : Int} : powOk i j = true ↔ (0 ≤ j ∧ j ≤ 1000000 ∧ i.natAbs < 2 ^ 64) := by
  unfold powOk
  exact @decide_eq_true_iff _ (Classical.propDecidable _)
noncomputable def binP (o : BOp) (x y : D) : OD := match o with
  | .add => addP x y
  | .sub => match x, y with
    | .int i, .int j => some (.int (i - j), false)
    | _, _ => none
  | .mul => match x, y with
    | .int i, .int j => if mulOk i j = true then some (.int (i * j), false) else none
    | _, _ => none
  | .fdiv => match x, y with
    | .int i, .int j => if divOk j = true then some (.int (i.fdiv j), false) else none
    | _, _ => none
  | .mod => match x, y with
    | .int i, .int j => if j ≠ 0 then some (.int (i.fmod j), false) else none
    | _, _ => none
  | .pow => match x, y with
    | .int i, .int j => if powOk i j = true then some (.int (i ^ j.toNat), false) else none
    | _, _ => none
noncomputable def augP (o : BOp) (x y : D) : Option D := match o, x, y with
  | .add, .int i, .int j => some (.int (i + j))
  | .sub, .int i, .int j => some (.int (i - j))
  | .mul, .int i, .int j => if mulOk i j = true then some (.int (i * j)) else none
  | _, _, _ => none
def eqP (x y : D) : Option Bool := if x.sh = true ∧ y.sh = true then some (PyData.eqv x.pd y.pd) else none
/-! dicts -/
def keyP : D → Option L2.Key
  | .int i => some (.inl i)
  | .str x => some (.inr x)
  | _ => none
def keyD : L2.Key → D
  | .inl i => .int i
  | .inr x => .str x
def D.isLst : D → Bool
  | .lst _ => true
  | _ => false
def D.isDct : D → Bool
  | .dct _ _ => true
  | _ => false
/-- what the dict holds at the key -/
def dGetP (x y : D) : Option (Option D) := match x with
  | .dct ks xs => (keyP y).map fun k => (kIx ks k).bind fun i => xs[i]?
  | _ => none
def dPutP (ks : List L2.Key) (xs : List D) (k : L2.Key) (v : D) : D := match kIx ks k with
  | some i => .dct ks (xs.set i v)
  | none => .dct (ks ++ [k]) (xs ++ [v])
def inP (x y : D) : Option Bool := match y with
  | .dct ks _ => (keyP x).map fun k => (kIx ks k).isSome
  | .tup ys => if x.flat = true ∧ ys.all D.flat = true then some (ys.any fun z => PyData.eqv z.pd x.pd) else none
  | .lst ys => if x.sh = true ∧ (D.lst ys).sh = true then some (ys.any fun z => PyData.eqv z.pd x.pd) else none
  | .rol ys => if x.sh = true ∧ (D.rol ys).sh = true then some (ys.any fun z => PyData.eqv z.pd x.pd) else none
  | _ => none
def D.isNon : D → Bool
  | .non => true
  | _ => false
def cmpP (o : COp) (x y : D) : Option Bool := match o with
  | .eq => eqP x y
  | .ne => (eqP x y).map (!·)
  | .is => match y with
    | .non => some x.isNon
    | .bl b => match x with
      | .bl a => some (decide (a = b))
      | _ => none
    | _ => none
  | .isn => match y with
    | .non => some (!x.isNon)
    | .bl b => match x with
      | .bl a => some (!decide (a = b))
      | _ => none
    | _ => none
  | .inn => inP x y
  | .nin => (inP x y).map (!·)
  | .lt => match x, y with
    | .int i, .int j => some (decide (i < j))
    | _, _ => none
  | .le => match x, y with
    | .int i, .int j => some (decide (i ≤ j))
    | _, _ => none
  | .gt => match x, y with
    | .int i, .int j => some (decide (j < i))
    | _, _ => none
  | .ge => match x, y with
    | .int i, .int j => some (decide (j ≤ i))
    | _, _ => none
def gItems (x : D) (g : GS) : Option (List D) := match x with
  | .tup xs => some xs
  | .lst xs => some xs
  | .rol xs => some xs
  | .tok n => match g[n]? with
    | some (.lst xs) => some xs
    | _ => none
  | _ => none
def gList (x : D) (g : GS) : Option (List D) := match x with
  | .lst xs => some xs
  | .rol xs => some xs
  | .tok n => match g[n]? with
    | some (.lst xs) => some xs
    | _ => none
  | _ => none
def truP (x : D) (g : GS) : Option Bool := match x with
  | .non => some false
  | .bl b => some b
  | .int i => some (i != 0)
  | .str y => if y.length ≤ sizeLine then some ((y.length : Int) != 0) else none
  | .tup xs => some (!xs.isEmpty)
  | .lst xs => some (!xs.isEmpty)
  | .rol xs => some (!xs.isEmpty)
  | .tok n => match g[n]? with
    | some (.lst xs) => some (!xs.isEmpty)
    | _ => none
  | .dct ks _ => some (!ks.isEmpty)
  | .ins _ _ _ => none
def ixPL (x y : D) (g : GS) : Option D := match y with
  | .int i => match x with
    | .str z => if z.length ≤ sizeLine then (L2.atI z.cps.toList i).map fun c => .str ⟨#[c]⟩ else none
    | _ => (gItems x g).bind fun xs => L2.atI xs i
  | _ => none
def ixP (x y : D) (g : GS) : Option D := match x with
  | .dct ks xs => (dGetP (.dct ks xs) y).bind id
  | x => ixPL x y g
def cutD (xs : List D) (lo hi : Option Int) : List D := (xs.drop (HT.sIx xs.length 0 lo)).take (HT.sIx xs.length xs.length hi - HT.sIx xs.length 0 lo)
def slP (x : D) (l u : Option Int) (g : GS) : OD := match x with
  | .lst xs => some (.lst (cutD xs l u), true)
  | .rol xs => some (.lst (cutD xs l u), true)
  | .tup xs => if HT.sIx xs.length 0 l = 0 ∧ HT.sIx xs.length xs.length u = xs.length then none else some (.tup (cutD xs l u), false)
  | _ => none
def intsP : List D → Option (List Int)
  | [] => some []
  | .int i :: r => (intsP r).map (i :: ·)
  | _ :: _ => none
def blsP : List D → Option (List Bool)
  | [] => some []
  | .bl b :: r => (blsP r).map (b :: ·)
  | _ :: _ => none
def tyNmP (x : D) (g : GS) : Option String := match x with
  | .int _ => some "int"
  | .bl _ => some "bool"
  | .non => some "NoneType"
  | .str _ => some "str"
  | .tup _ => some "tuple"
  | .lst _ => some "list"
  | .rol _ => some "list"
  | .tok n => match g[n]? with
    | some (.lst _) => some "list"
    | _ => none
  | .dct _ _ => none
  | .ins _ _ _ => none
noncomputable def biPL (b : Bi) (vs : List D) (g : GS) : OD := match b, vs with
  | .len, [.str x] => if x.length ≤ sizeLine then some (.int x.length, false) else none
  | .len, [x] => (gItems x g).map fun xs => (.int xs.length, false)
  | .min2, [.int i, .int j] => some (.int (if j < i then j else i), false)
  | .max2, [.int i, .int j] => some (.int (if j > i then j else i), false)
  | .abs, [.int i] => some (.int (if i < 0 then -i else i), false)
  | .int, [.int i] => some (.int i, false)
  | .int, [.bl k] => some (.int (if k then 1 else 0), false)
  | .list, [x] => match gItems x g with
    | some xs => some (.lst xs, true)
    | none => none
  | .tuple, [.tup xs] => some (.tup xs, false)
  | .tuple, [x] => (gItems x g).map fun xs => (.tup xs, false)
  | .sum, [x] => ((gList x g).bind intsP).map fun ns => (.int ns.sum, false)
  | .isInt, [x] => (tyNmP x g).map fun t => (.bl (t == "int" || t == "bool"), false)
  | .isBool, [x] => (tyNmP x g).map fun t => (.bl (t == "bool"), false)
  | .sorted, [x] => match (gList x g).bind intsP with
    | some ns => some (.lst ((ns.mergeSort (fun a b => decide (a ≤ b))).map .int), true)
    | none => none
  | .allL, [x] => ((gList x g).bind blsP).map fun bs => (.bl (bs.all id), false)
  | .anyL, [x] => ((gList x g).bind blsP).map fun bs => (.bl (bs.any id), false)
  | .isList, [x] => (tyNmP x g).map fun t => (.bl (t == "list"), false)
  | .isTup, [x] => (tyNmP x g).map fun t => (.bl (t == "tuple"), false)
  | .isStr, [x] => (tyNmP x g).map fun t => (.bl (t == "str"), false)
  | .maxL, [x] => match (gList x g).bind intsP with
    | some (n :: ns) => some (.int (maxI n ns), false)
    | _ => none
  | .minL, [x] => match (gList x g).bind intsP with
    | some (n :: ns) => some (.int (minI n ns), false)
    | _ => none
  | .sset, [x] => match (gList x g).bind intsP with
    | some ns => if ns.length < 4000 then some (.lst ((setI ns).map .int), true) else none
    | none => none
  | .lrng, [.int a, .int b] => if (rngOk a && (rngOk b && lenOk (b - a).toNat)) = true then some (.lst (((List.range (b - a).toNat).map fun (k : Nat) => a + (k : Int)).map .int), true) else none
  | _, _ => none
noncomputable def biP (b : Bi) (vs : List D) (g : GS) : OD := match b, vs with
  | .len, [.dct ks _] => some (.int ks.length, false)
  | .list, [.dct ks _] => some (.lst (ks.map keyD), true)
  | .sorted, [.dct ks _] => (keyIs ks).map fun ns => (.lst ((ns.mergeSort (fun a b => decide (a ≤ b))).map .int), true)
  | b, vs => biPL b vs g
/-! instances, places -/
def fldP (cs : List Str) (x : D) (f : Str) : Option D := match x with
  | .ins c ns xs => if cs.contains c = true then (nIx ns f).bind fun i => xs[i]? else none
  | _ => none
def methP (cs : List (Str × Nat)) (m : Str) (x : D) : Option Nat := match x with
  | .ins c ns _ => if (nIx ns m).isNone = true then cs.lookup c else none
  | _ => none
def fPutP (c : Str) (ns : List Str) (xs : List D) (f : Str) (d : D) : D := match nIx ns f with
  | some i => .ins c ns (xs.set i d)
  | none => .ins c (ns ++ [f]) (xs ++ [d])
def tidxP (v : MV) (y : D) : Option D := match v, y with
  | .tup xs, .str z => (strsO xs).bind fun ss => (sIdx z ss).map fun (k : Nat) => .int (k : Int)
  | _, _ => none
def idxD (y : D) : List D → Option Nat
  | [] => none
  | z :: r => if PyData.eqv z.pd y.pd = true then some 0 else (idxD y r).map (· + 1)
def idxP (x y : D) : Option D := match x with
  | .lst xs => if y.flat = true ∧ xs.all D.flat = true then (idxD y xs).map fun (k : Nat) => .int (k : Int) else none
  | _ => none
def allRP (l : Nat) (x : Str × Option Str) (lo hi : Int) (v : D) (g : GS) : Option Bool := match g[l]? with
  | some (.tbl y) => if y = x then ((gList v g).bind intsP).map fun ns => ns.all fun n => decide (lo ≤ n) && decide (n ≤ hi) else none
  | _ => none
def dPairsP : List D → List L2.Key → List D → Option (List L2.Key × List D)
  | [], ks, xs => some (ks, xs)
  | [_], _, _ => none
  | a :: v :: r, ks, xs => (keyP a).bind fun k => match kIx ks k with
    | some i => dPairsP r ks (xs.set i v)
    | none => dPairsP r (ks ++ [k]) (xs ++ [v])
def dispP (vs : List D) : OD := if vs.length ≤ 30 then (dPairsP vs [] []).map fun d => (.dct d.1 d.2, true) else none
/-- the items that a for walks -/
noncomputable def srcP (k : IK) (vs : List D) : Option (List D) := match k, vs with
  | .val, [.tup xs] => some xs
  | .val, [.lst xs] => some xs
  | .val, [.rol xs] => some xs
  | .val, [.str x] => some (x.cps.toList.map fun c => .str ⟨#[c]⟩)
  | .rng1, [.int j] => if rngOk j then some ((List.range j.toNat).map fun (k : Nat) => .int (0 + k)) else none
  | .rev, [.tup xs] => some xs.reverse
  | .rev, [.lst xs] => some xs.reverse
  | .rev, [.rol xs] => some xs.reverse
  | .zip, [.tup xs, .tup ys] => some (List.zipWith (fun x y => D.tup [x, y]) xs ys)
  | .rng2, [.int a, .int b] => if rngOk a && rngOk b then some ((List.range (b - a).toNat).map fun (k : Nat) => .int (a + k)) else none
  | _, _ => none
/-! ### slots -/
def getP : PEn → Nat → Option D
  | some (d, _) :: _, 0 => some d
  | none :: _, 0 => none
  | _ :: r, n + 1 => getP r n
  | [], _ => none
/-- what a slot owns -/
def ownP : PEn → Nat → Option D
  | some (d, true) :: _, 0 => some d
  | some (_, false) :: _, 0 => none
  | none :: _, 0 => none
  | _ :: r, n + 1 => ownP r n
  | [], _ => none
def frz1 : Nat → PEn → PEn
  | _, [] => []
  | 0, s :: r => s.map (fun x => (x.1, false)) :: r
  | n + 1, s :: r => s :: frz1 n r
def frzP : List Nat → PEn → PEn
  | [], p => p
  | i :: is, p => frzP is (frz1 i p)
def wipeP (p : PEn) : List Nat → PEn
  | [] => p
  | v :: vs => (wipeP p vs).set v none
def setsP : List Nat → List D → PEn → Option PEn
  | [], [], p => some p
  | i :: is, v :: vs, p => setsP is vs (p.set i (some (v, false)))
  | _, _, _ => none
def tsetP (t : Tg) (v : D) (p : PEn) : Option PEn := match t with
  | .nm i => some (p.set i (some (v, false)))
  | .tp is => match v with
    | .tup xs => setsP is xs p
    | _ => none
mutual
/-- the slots whose list may stand in the value -/
def leak : E → List Nat
  | .var i => [i]
  | .lit _ => []
  | .bin _ a b => leak a ++ leak b
  | .neg _ => []
  | .not _ => []
  | .cmp _ _ _ => []
  | .cmp2 _ _ _ _ _ => []
  | .and a b => leak a ++ leak b
  | .or a b => leak a ++ leak b
  | .ite _ a b => leak a ++ leak b
  | .tup es => leaks es
  | .lst es => leaks es
  | .ix a _ => leak a
  | .sl a _ _ => leak a
  | .call _ es => leaks es
  | .bi _ es => leaks es
  | .mt _ o es => leak o ++ leaks es
  | .comp _ _ _ es a => leaks es ++ leak a
  | .dcomp _ _ _ es key val => leaks es ++ (leak key ++ leak val)
  | .compIf _ _ _ es _ a => leaks es ++ leak a
  | .dnew => []
  | .dget a _ => leak a
  | .dget2 a _ c => leak a ++ leak c
  | .fld _ a _ => leak a
  | .meth _ _ a es => leak a ++ leaks es
  | .tidx _ _ => []
  | .allR _ _ _ _ _ => []
  | .genQ _ _ _ _ _ => []
  | .disp es => leaks es
def leaks : List E → List Nat
  | [] => []
  | a :: es => leak a ++ leaks es
end
def tslots : Tg → List Nat
  | .nm i => [i]
  | .tp is => is
/-- a comprehension's own slots own nothing, and its targets are of them -/
def okW (t : Tg) (ws : List Nat) (p : PEn) : Bool := ws.all (fun w => (ownP p w).isNone) && (tslots t).all fun i => ws.contains i
def lockP (xs : List D) (ls : List Nat) (p : PEn) : PEn := if Ds.im xs = true then p else frzP ls p
def holdP (d : D) (fr : Bool) (ls : List Nat) (p : PEn) : PEn := if clP d fr = true then p else frzP ls p
def oQ {α : Type} (g : GS) : Option α → PR α
  | some a => .ok a g
  | none => .bad
@[simp] theorem oQ_some {α : Type} (g : GS) (a : α) : oQ g (some a) = .ok a g := rfl
@[simp] theorem oQ_none {α : Type} (g : GS) : oQ g (none : Option α) = .bad := rfl
def compP (t : Tg) (p : PEn) (tst : PEn → GS → PR Bool) (elt : PEn → GS → PR (D × Bool)) : List D → List D → GS → PR (D × Bool)
  | [], acc, g => .ok (.lst acc, true) g
  | x :: xs, acc, g => match tsetP t x p with
    | none => .bad
    | some p' => match tst p' g with
      | .ok true g1 => match elt p' g1 with
        | .ok y g2 => if acc.length < sizeLine then compP t p tst elt xs (acc ++ [y.1]) g2 else .bad
        | _ => .bad
      | .ok false g1 => compP t p tst elt xs acc g1
      | _ => .bad
noncomputable def cmpPQ (o : COp) (x y : D) : Option Bool := match o with
  | .is => none
  | .isn => none
  | o => cmpP o x y
/-- a pure test over an item -/
noncomputable def QEp (p : PEn) (it : D) (g : GS) : QE → Option D
  | .v i => getP p i
  | .it => some it
  | .int n => some (.int n)
  | .ix a b => (QEp p it g a).bind fun x => (QEp p it g b).bind fun y => ixP x y g
  | .cmp o a b => (QEp p it g a).bind fun x => (QEp p it g b).bind fun y => (cmpPQ o x y).map .bl
  | .and a b => (QEp p it g a).bind fun x => match x with
    | .bl false => some (.bl false)
    | .bl true => QEp p it g b
    | _ => none
  | .or a b => (QEp p it g a).bind fun x => match x with
    | .bl false => QEp p it g b
    | .bl true => some (.bl true)
    | _ => none
  | .not a => (QEp p it g a).bind fun x => match x with
    | .bl k => some (.bl (!k))
    | _ => none
def testsP (f : D → Option D) : List D → Option (List Bool)
  | [] => some []
  | x :: r => match f x with
    | some (.bl b) => (testsP f r).map (b :: ·)
    | _ => none
noncomputable def genP (an : Bool) (l : Nat) (x : Str × Option Str) (q : QE) (p : PEn) (v : D) (g : GS) : Option Bool := match g[l]? with
  | some (.tbl y) => if y = x then ((gList v g).bind fun xs => testsP (fun m => QEp p m g q) xs).map fun bs => if an then bs.any id else bs.all id else none
  | _ => none
def dPutPK (ks : List L2.Key) (xs : List D) (k : L2.Key) (v : D) : List L2.Key × List D := match kIx ks k with
  | some i => (ks, xs.set i v)
  | none => (ks ++ [k], xs ++ [v])
def dcompP (t : Tg) (p : PEn) (elt : PEn → GS → PR (L2.Key × D)) : List D → List L2.Key → List D → GS → PR (D × Bool)
  | [], ks, acc, g => .ok (.dct ks acc, true) g
  | x :: xs, ks, acc, g => match tsetP t x p with
    | none => .bad
    | some p' => match elt p' g with
      | .ok y g2 => if ks.length < sizeLine then dcompP t p elt xs (dPutPK ks acc y.1 y.2).1 (dPutPK ks acc y.1 y.2).2 g2 else .bad
      | _ => .bad
abbrev PCl := Nat → List D → GS → PR (D × Bool)
mutual
noncomputable def pE (C : PCl) : E → PEn → GS → PR (D × Bool)
  | .var i, p, g => oQ g ((getP p i).map fun d => (d, false))
  | .lit v, _, g => oQ g ((mvD v).map fun d => (d, false))
  | .bin o a b, p, g => (pE C a p g).bind fun x g1 => (pE C b p g1).bind fun y g2 => oQ g2 (binP o x.1 y.1)
  | .neg a, p, g => (pE C a p g).bind fun x g1 => match x.1 with
    | .int i => .ok (.int (-i), false) g1
    | _ => .bad
  | .not a, p, g => (pE C a p g).bind fun x g1 => (oQ g1 (truP x.1 g1)).bind fun k g2 => .ok (.bl (!k), false) g2
  | .cmp o a b, p, g => (pE C a p g).bind fun x g1 => (pE C b p g1).bind fun y g2 => (oQ g2 (cmpP o x.1 y.1)).bind fun k g3 => .ok (.bl k, false) g3
  | .cmp2 o o' a b c, p, g => (pE C a p g).bind fun x g1 => (pE C b p g1).bind fun y g2 => (oQ g2 (cmpP o x.1 y.1)).bind fun k g3 =>
      if k = true then (pE C c p g3).bind fun z g4 => (oQ g4 (cmpP o' y.1 z.1)).bind fun k g5 => .ok (.bl k, false) g5 else .ok (.bl false, false) g3
  | .and a b, p, g => (pE C a p g).bind fun x g1 => (oQ g1 (truP x.1 g1)).bind fun k g2 => if k = true then pE C b p g2 else .ok (x.1, false) g2
  | .or a b, p, g => (pE C a p g).bind fun x g1 => (oQ g1 (truP x.1 g1)).bind fun k g2 => if k = true then .ok (x.1, false) g2 else pE C b p g2
  | .ite c a b, p, g => (pE C c p g).bind fun x g1 => (oQ g1 (truP x.1 g1)).bind fun k g2 => if k = true then pE C a p g2 else pE C b p g2
  | .tup es, p, g => (pEs C es p g).bind fun vs g1 => if vs.length ≤ sizeLine then .ok (.tup vs, false) g1 else .bad
  | .lst es, p, g => (pEs C es p g).bind fun vs g1 => if vs.length ≤ sizeLine then .ok (.lst vs, true) g1 else .bad
  | .ix a b, p, g => (pE C a p g).bind fun x g1 => (pE C b p g1).bind fun y g2 => oQ g2 ((ixP x.1 y.1 g2).map fun d => (d, false))
  | .sl a lo hi, p, g => (pE C a p g).bind fun x g1 => (pEo C lo p g1).bind fun l g2 => (pEo C hi p g2).bind fun u g3 => oQ g3 (slP x.1 l u g3)
  | .call f es, p, g => (pEs C es p g).bind fun vs g1 => C f vs g1
  | .bi b es, p, g => (pEs C es p g).bind fun vs g1 => oQ g1 (biP b vs g1)
  | .mt m a es, p, g => match m, es with
    | .index, [b] => (pE C a p g).bind fun x g1 => if x.1.isLst = true then (pE C b p g1).bind fun y g2 => oQ g2 ((idxP x.1 y.1).map fun d => (d, false)) else .bad
    | _, _ => .bad
  | .comp ws t k es elt, p, g => (pEs C es p g).bind fun vs g1 => match srcP k vs with
    | none => .bad
    | some xs => if okW t ws p = true then compP t (wipeP (lockP xs (leaks es) p) ws) (fun _ g => .ok true g) (fun p g => pE C elt p g) xs [] g1 else .bad
  | .compIf ws t k es c elt, p, g => (pEs C es p g).bind fun vs g1 => match srcP k vs with
    | none => .bad
    | some xs => if okW t ws p = true then compP t (wipeP (lockP xs (leaks es) p) ws) (fun p g => (pE C c p g).bind fun x g1 => oQ g1 (truP x.1 g1)) (fun p g => pE C elt p g) xs [] g1 else .bad
  | .dnew, _, g => .ok (.dct [] [], true) g
  | .dget a b, p, g => (pE C a p g).bind fun x g1 => if x.1.isDct = true then (pE C b p g1).bind fun y g2 => oQ g2 ((dGetP x.1 y.1).map fun o => (o.getD .non, false)) else .bad
  | .dget2 a b c, p, g => (pE C a p g).bind fun x g1 => if x.1.isDct = true then (pE C b p g1).bind fun y g2 => (pE C c p g2).bind fun z g3 => oQ g3 ((dGetP x.1 y.1).map fun o => (o.getD z.1, false)) else .bad
  | .fld cs a f, p, g => (pE C a p g).bind fun x g1 => oQ g1 ((fldP cs x.1 f).map fun d => (d, false))
  | .meth cs m a es, p, g => (pE C a p g).bind fun x g1 => match methP cs m x.1 with
    | some f => (pEs C es p g1).bind fun vs g2 => C f (x.1 :: vs) g2
    | none => .bad
  | .tidx v a, p, g => (pE C a p g).bind fun y g1 => oQ g1 ((tidxP v y.1).map fun d => (d, false))
  | .dcomp ws t k es key val, p, g => (pEs C es p g).bind fun vs g1 => match srcP k vs with
    | none => .bad
    | some xs => if okW t ws p = true then dcompP t (wipeP (lockP xs (leaks es) p) ws) (fun p g => (pE C key p g).bind fun y g1 => (oQ g1 (keyP y.1)).bind fun k g2 => (pE C val p g2).bind fun z g3 => .ok (k, z.1) g3) xs [] [] g1 else .bad
  | .genQ an l x q a, p, g => (pE C a p g).bind fun v g1 => (oQ g1 (genP an l x q p v.1 g1)).bind fun k g2 => .ok (.bl k, false) g2
  | .allR l x lo hi a, p, g => (pE C a p g).bind fun v g1 => (oQ g1 (allRP l x lo hi v.1 g1)).bind fun k g2 => .ok (.bl k, false) g2
  | .disp es, p, g => (pEs C es p g).bind fun vs g1 => oQ g1 (dispP vs)
noncomputable def pEo (C : PCl) : Option E → PEn → GS → PR (Option Int)
  | none, _, g => .ok none g
  | some a, p, g => (pE C a p g).bind fun x g1 => match x.1 with
    | .int i => .ok (some i) g1
    | _ => .bad
noncomputable def pEs (C : PCl) : List E → PEn → GS → PR (List D)
  | [], _, g => .ok [] g
  | a :: es, p, g => (pE C a p g).bind fun v g1 => (pEs C es p g1).bind fun vs g2 => .ok (v.1 :: vs) g2
end
noncomputable def pT (C : PCl) (a : E) (p : PEn) (g : GS) : PR Bool := (pE C a p g).bind fun x g1 => oQ g1 (truP x.1 g1)
def PR.sr {α : Type} (r : PR α) (p : PEn) (f : α → GS → PSR) : PSR := match r with
  | .ok a g => f a g
  | .exc x g => .exc x p g
  | .bad => .bad
@[simp] theorem PR.sr_ok {α : Type} (a : α) (g : GS) (p : PEn) (f : α → GS → PSR) : (PR.ok a g).sr p f = f a g := rfl
@[simp] theorem PR.sr_exc {α : Type} (x : PX) (g : GS) (p : PEn) (f : α → GS → PSR) : (PR.exc x g : PR α).sr p f = .exc x p g := rfl
@[simp] theorem PR.sr_bad {α : Type} (p : PEn) (f : α → GS → PSR) : (PR.bad : PR α).sr p f = .bad := rfl
def PSR.seq (r : PSR) (f : PEn → GS → PSR) : PSR := match r with
  | .nx p g => f p g
  | q => q
@[simp] theorem PSR.seq_nx (p : PEn) (g : GS) (f : PEn → GS → PSR) : (PSR.nx p g).seq f = f p g := rfl
@[simp] theorem PSR.seq_rt (v : D) (fr : Bool) (g : GS) (f : PEn → GS → PSR) : (PSR.rt v fr g).seq f = .rt v fr g := rfl
@[simp] theorem PSR.seq_bk (p : PEn) (g : GS) (f : PEn → GS → PSR) : (PSR.bk p g).seq f = .bk p g := rfl
@[simp] theorem PSR.seq_ct (p : PEn) (g : GS) (f : PEn → GS → PSR) : (PSR.ct p g).seq f = .ct p g := rfl
@[simp] theorem PSR.seq_exc (x : PX) (p : PEn) (g : GS) (f : PEn → GS → PSR) : (PSR.exc x p g).seq f = .exc x p g := rfl
@[simp] theorem PSR.seq_bad (f : PEn → GS → PSR) : PSR.bad.seq f = .bad := rfl
def PSR.turn : PSR → (PEn × GS) ⊕ PSR
  | .nx p g => .inl (p, g)
  | .ct p g => .inl (p, g)
  | .bk p g => .inr (.nx p g)
  | q => .inr q
noncomputable def whileTurnP (C : PCl) (c : E) (b : PEn → GS → PSR) (_ : Nat) : (PEn × GS) → (PEn × GS) ⊕ PSR
  | (p, g) => match pT C c p g with
    | .ok true g1 => (b p g1).turn
    | .ok false g1 => .inr (.nx p g1)
    | .exc x g1 => .inr (.exc x p g1)
    | .bad => .inr .bad
def forP (t : Tg) (b : PEn → GS → PSR) : List D → PEn → GS → PSR
  | [], p, g => .nx p g
  | v :: vs, p, g => match tsetP t v p with
    | none => .bad
    | some p' => match b p' g with
      | .nx p2 g2 => forP t b vs p2 g2
      | .ct p2 g2 => forP t b vs p2 g2
      | .bk p2 g2 => .nx p2 g2
      | r => r
def appOf : E → Option (Nat × E)
  | .mt .append (.var i) [a] => some (i, a)
  | _ => none
def popOf : E → Option Nat
  | .mt .pop (.var i) [] => some i
  | _ => none
def varOf : E → Option Nat
  | .var i => some i
  | _ => none
def optL : Option Nat → List Nat
  | some i => [i]
  | none => []
mutual
/-- the slots whose list is changed in place -/
def mutd : S → List Nat
  | .expr a => optL ((appOf a).map (·.1))
  | .asg _ a => optL (popOf a)
  | .setIx o _ _ => optL (varOf o)
  | .iff _ a b => mutds a ++ mutds b
  | .whl _ b => mutds b
  | .for_ _ _ _ b => mutds b
  | .aug i o _ => match o with
    | .add => [i]
    | _ => []
  | .setFld _ o _ _ => optL (varOf o)
  | .ret _ => []
  | .brk => []
  | .cont => []
  | .pass => []
  | .bad => []
def mutds : List S → List Nat
  | [] => []
  | s :: r => mutd s ++ mutds r
end
def disj (xs ys : List Nat) : Bool := xs.all fun x => !ys.contains x
/-- slots whose list display becomes an object (from 1000 on: only the laws' own state, [0, 0, list(script), 1]) -/
def tkB (tk : List Nat) (i : Nat) : Bool := tk.contains i && decide (i < 1000)
def stK (tk : List Nat) : Tg → Bool
  | .nm i => tk.contains (i + 1000)
  | .tp _ => false
def stE : E → Option Nat
  | .lst [.lit (.int 0), .lit (.int 0), .bi .list [.var j], .lit (.int 1)] => some j
  | _ => none
def stP (t : Tg) (a : E) (p : PEn) (g : GS) : PSR := match t, stE a with
  | .nm i, some j => (match getP p j with
    | some (.rol xs) => if Ds.im xs = true then .nx (p.set i (some (.tok g.length, false))) (g ++ [.lst [.int 0, .int 0, .lst xs, .int 1]]) else .bad
    | _ => .bad)
  | _, _ => .bad
/-- a value goes to its target -/
def asgP (tk : List Nat) (t : Tg) (d : D) (fr : Bool) (p : PEn) (g : GS) : PSR := match t with
  | .nm i => if tkB tk i then match d, fr with
      | .lst xs, true => .nx (p.set i (some (.tok g.length, false))) (g ++ [.lst xs])
      | _, _ => .nx (p.set i (some (d, false))) g
    else .nx (p.set i (some (d, fr))) g
  | .tp is => match d with
    | .tup xs => match setsP is xs p with
      | some p' => .nx p' g
      | none => .bad
    | .lst xs => match setsP is xs p with
      | some p' => .nx p' g
      | none => .bad
    | _ => .bad
def ownL (p : PEn) (i : Nat) : Bool := match ownP p i with
  | some (.lst _) => true
  | _ => false
def ownC (p : PEn) (i : Nat) : Bool := match ownP p i with
  | some (.lst _) => true
  | some (.dct _ _) => true
  | _ => false
def appP (i : Nat) (d : D) (p : PEn) (g : GS) : PSR := match ownP p i with
  | some (.lst xs) => if xs.length < sizeLine then .nx (p.set i (some (.lst (xs ++ [d]), true))) g else .bad
  | _ => .bad
def popP (t : Tg) (i : Nat) (p : PEn) (g : GS) : PSR := match ownP p i with
  | some (.lst xs) => match xs[xs.length - 1]? with
    | some y => match tsetP t y (p.set i (some (.lst xs.dropLast, true))) with
      | some p' => .nx p' g
      | none => .bad
    | none => .bad
  | _ => .bad
def setP (i : Nat) (k d : D) (p : PEn) (g : GS) : PSR := match ownP p i, k with
  | some (.lst xs), .int n => match L2.ixN xs.length n with
    | some m => .nx (p.set i (some (.lst (xs.set m d), true))) g
    | none => .bad
  | some (.dct ks xs), k => match keyP k with
    | some k => if ks.length < sizeLine then .nx (p.set i (some (dPutP ks xs k d, true))) g else .bad
    | none => .bad
  | _, _ => .bad
def extP (i : Nat) (d : D) (p : PEn) (g : GS) : PSR := match ownP p i, d with
  | some (.lst xs), .lst ys => if xs.length + ys.length ≤ sizeLine then .nx (p.set i (some (.lst (xs ++ ys), true))) g else .bad
  | _, _ => .bad
def ownI (p : PEn) (i : Nat) : Bool := match ownP p i with
  | some (.ins _ _ _) => true
  | _ => false
def setFP (cs : List Str) (f : Str) (j : Nat) (d : D) (p : PEn) (g : GS) : PSR := match ownP p j with
  | some (.ins c ns xs) => if cs.contains c = true ∧ ns.length < 900 then .nx (p.set j (some (fPutP c ns xs f d, true))) g else .bad
  | _ => .bad
def setT (x k d : D) (p : PEn) (g : GS) : PSR := match x, k with
  | .tok n, .int m => match g[n]? with
    | some (.lst xs) => match L2.ixN xs.length m with
      | some j => .nx p (g.set n (.lst (xs.set j d)))
      | none => .bad
    | _ => .bad
  | _, _ => .bad
/-- a copy is walked -/
def lstOf (k : IK) (es : List E) : Option E := match k, es with
  | .val, [.bi .list [a]] => some a
  | _, _ => none
theorem lstOf_eq {k : IK} {es : List E} {a : E} (q : lstOf k es = some a) : k = .val ∧ es = [.bi .list [a]] := by
  unfold lstOf at q
  split at q
  · cases q; exact ⟨rfl, rfl⟩
  · cases q
noncomputable def forD (C : PCl) (t : Tg) (k : IK) (es : List E) (b : List S) (f : PEn → GS → PSR) (p : PEn) (g : GS) : PSR := (pEs C es p g).sr p fun vs g1 => match srcP k vs with
    | none => .bad
    | some xs => if disj (leaks es) (mutds b) = true then forP t f xs (lockP xs (leaks es) p) g1 else .bad
mutual
noncomputable def pS (C : PCl) (tk : List Nat) : S → PEn → GS → PSR
  | .expr a, p, g => match appOf a with
    | some (i, x) => if ownL p i = true then (pE C x p g).sr p fun v g1 => appP i v.1 (holdP v.1 v.2 (leak x) p) g1 else .bad
    | none => (pE C a p g).sr p fun _ g1 => .nx p g1
  | .asg t a, p, g => match popOf a with
    | some i => popP t i p g
    | none => if stK tk t = true then stP t a p g else (pE C a p g).sr p fun v g1 => asgP tk t v.1 v.2 (holdP v.1 v.2 (leak a) p) g1
  | .aug i o a, p, g => if o = .add ∧ ownL p i = true then (if (leak a).contains i = true then .bad else (pE C a p g).sr p fun v g1 => extP i v.1 (holdP v.1 v.2 (leak a) p) g1)
    else (oQ g (getP p i)).sr p fun x _ => (pE C a p g).sr p fun y g1 => (oQ g1 (augP o x y.1)).sr p fun z g2 => .nx (p.set i (some (z, false))) g2
  | .setIx o i a, p, g => match (varOf o).bind fun j => if ownC p j = true then some j else none with
    | some j => (pE C a p g).sr p fun v g1 => (pE C i p g1).sr p fun k g2 => setP j k.1 v.1 (holdP v.1 v.2 (leak a) p) g2
    | none => (pE C a p g).sr p fun v g1 => (pE C o p g1).sr p fun x g2 => (pE C i p g2).sr p fun k g3 => if clP v.1 v.2 = true then setT x.1 k.1 v.1 p g3 else .bad
  | .ret a, p, g => match (varOf a).bind fun j => ownP p j with
    | some d => .rt d true g
    | none => (pE C a p g).sr p fun v g1 => .rt v.1 v.2 g1
  | .iff c a b, p, g => (pT C c p g).sr p fun k g1 => if k = true then pSs C tk a p g1 else pSs C tk b p g1
  | .whl c b, p, g => loop .bad (whileTurnP C c (fun p g => pSs C tk b p g)) 0 (p, g)
  | .for_ t k es b, p, g => match lstOf k es with
    | some a => match pE C (.bi .list [a]) p g with
      | .ok (.lst xs, true) g1 => if Ds.im xs = true then forP t (fun p g => pSs C tk b p g) xs p g1 else forD C t k es b (fun p g => pSs C tk b p g) p g
      | _ => forD C t k es b (fun p g => pSs C tk b p g) p g
    | none => forD C t k es b (fun p g => pSs C tk b p g) p g
  | .brk, p, g => .bk p g
  | .cont, p, g => .ct p g
  | .pass, p, g => .nx p g
  | .bad, _, _ => .bad
  | .setFld cs o f a, p, g => match (varOf o).bind fun j => if ownI p j = true then some j else none with
    | some j => (pE C a p g).sr p fun v g1 => setFP cs f j v.1 (holdP v.1 v.2 (leak a) p) g1
    | none => .bad
noncomputable def pSs (C : PCl) (tk : List Nat) : List S → PEn → GS → PSR
  | [], p, g => .nx p g
  | s :: r, p, g => (pS C tk s p g).seq fun p g => pSs C tk r p g
end
def startP (f : Fn) (ds : List D) : PEn := ds.map (fun d => some (d, false)) ++ List.replicate (f.ps.length + f.loc.length - ds.length) none
def PSR.res : PSR → PR (D × Bool)
  | .rt v fr g => .ok (v, fr) g
  | .nx _ g => .ok (.non, false) g
  | .exc x _ g => .exc x g
  | _ => .bad
@[simp] theorem PSR.res_rt (v : D) (fr : Bool) (g : GS) : (PSR.rt v fr g).res = .ok (v, fr) g := rfl
@[simp] theorem PSR.res_nx (p : PEn) (g : GS) : (PSR.nx p g).res = .ok (.non, false) g := rfl
@[simp] theorem PSR.res_exc (x : PX) (p : PEn) (g : GS) : (PSR.exc x p g).res = .exc x g := rfl
mutual
/-- slot 0 stays -/
def keep0 : S → Bool
  | .setFld _ _ _ _ => true
  | .iff _ a b => keep0s a && keep0s b
  | .asg t _ => match t with
    | .nm i => i != 0
    | .tp _ => false
  | .expr _ => true
  | .pass => true
  | .bad => true
  | .aug _ _ _ => false
  | .setIx _ _ _ => false
  | .ret _ => false
  | .whl _ _ => false
  | .for_ _ _ _ _ => false
  | .brk => false
  | .cont => false
def keep0s : List S → Bool
  | [] => true
  | s :: r => keep0 s && keep0s r
end
/-- the slots of an __init__ -/
def startI (f : Fn) (c : Str) (ds : List D) : PEn := some (.ins c [] [], true) :: (ds.map (fun d => some (d, false)) ++ List.replicate (f.ps.length + f.loc.length - (ds.length + 1)) none)
/-- behind an __init__: the new instance -/
def PSR.made : PSR → PR (D × Bool)
  | .nx p g => match ownP p 0 with
    | some d => .ok (d, true) g
    | none => .bad
  | _ => .bad
noncomputable def callP (T : List Fn) (tk : Nat → List Nat) : Nat → PCl
  | 0, _, _, _ => .bad
  | d + 1, f, vs, g => match T[f]? with
    | some fn => if vs.length = fn.ps.length then (match fn.mkr with
      | none => (pSs (callP T tk d) (if Ds.im vs = true then tk f else (tk f).map (· + 1000)) fn.body (startP fn vs) g).res
      | some (c, j) => (match d with
        | 0 => .bad
        | d2 + 1 => match T[j]? with
          | some fj => if vs.length + 1 = fj.ps.length ∧ fj.mkr.isNone = true ∧ keep0s fj.body = true then (pSs (callP T tk d2) [] fj.body (startI fj c vs) g).made else .bad
          | none => .bad)) else .bad
    | none => .bad
end MQ
end
section
set_option Elab.async false
set_option linter.all false
set_option maxRecDepth 100000
set_option maxHeartbeats 4000000
/-! MQ, part b: plain data and the small language's heap; the operations agree. -/
namespace MQ
open PySem MP
mutual
inductive Fz (F : Nat → Prop) (τ : List Nat) (h : MH) : MV → D → Prop
  | non : Fz F τ h .non .non
  | bl (b : Bool) : Fz F τ h (.bl b) (.bl b)
  | int (i : Int) : Fz F τ h (.int i) (.int i)
  | str (x : Str) : Fz F τ h (.str x) (.str x)
  | tup {xs : List MV} {ds : List D} : Fzs F τ h xs ds → Fz F τ h (.tup xs) (.tup ds)
  | rol {xs : List MV} {ds : List D} : Fzs F τ h xs ds → Fz F τ h (.rol xs) (.rol ds)
  | loc {l : Nat} {o : MO} {d : D} : ¬F l → l ∉ τ → h[l]? = some o → Ob F τ h o d → Fz F τ h (.loc l) d
  | tok {n l : Nat} : τ[n]? = some l → Fz F τ h (.loc l) (.tok n)
inductive Fzs (F : Nat → Prop) (τ : List Nat) (h : MH) : List MV → List D → Prop
  | nil : Fzs F τ h [] []
  | cons {x : MV} {d : D} {xs : List MV} {ds : List D} : Fz F τ h x d → Fzs F τ h xs ds → Fzs F τ h (x :: xs) (d :: ds)
inductive Ob (F : Nat → Prop) (τ : List Nat) (h : MH) : MO → D → Prop
  | lst {xs : List MV} {ds : List D} : Fzs F τ h xs ds → Ob F τ h (.lst xs) (.lst ds)
  | dct {ks : List L2.Key} {xs : List MV} {ds : List D} : Fzs F τ h xs ds → Ob F τ h (.dct ks xs) (.dct ks ds)
  | ins {c : Str} {ns : List Str} {xs : List MV} {ds : List D} : Fzs F τ h xs ds → Ob F τ h (.ins c ns xs) (.ins c ns ds)
end
section
variable {F F' M : Nat → Prop} {τ τ' τ1 τ2 : List Nat} {h h' h1 h2 : MH} {g : GS}
mutual
theorem Fz.mono (hl : ∀ l o, ¬F l → l ∉ τ → h[l]? = some o → ¬F' l ∧ l ∉ τ' ∧ h'[l]? = some o) (ht : ∀ n l : Nat, τ[n]? = some l → τ'[n]? = some l) : ∀ {d : D} {v : MV}, Fz F τ h v d → Fz F' τ' h' v d
  | .non, _, .non => .non
  | .bl _, _, .bl b => .bl b
  | .int _, _, .int i => .int i
  | .str _, _, .str x => .str x
  | .tup _, _, .tup q => .tup (Fzs.mono hl ht q)
  | .rol _, _, .rol q => .rol (Fzs.mono hl ht q)
  | .lst _, _, .loc a b e (.lst q) => .loc (hl _ _ a b e).1 (hl _ _ a b e).2.1 (hl _ _ a b e).2.2 (.lst (Fzs.mono hl ht q))
  | .tok _, _, .tok e => .tok (ht _ _ e)
  | .dct _ _, _, .loc a b e (.dct q) => .loc (hl _ _ a b e).1 (hl _ _ a b e).2.1 (hl _ _ a b e).2.2 (.dct (Fzs.mono hl ht q))
  | .ins _ _ _, _, .loc a b e (.ins q) => .loc (hl _ _ a b e).1 (hl _ _ a b e).2.1 (hl _ _ a b e).2.2 (.ins (Fzs.mono hl ht q))
theorem Fzs.mono (hl : ∀ l o, ¬F l → l ∉ τ → h[l]? = some o → ¬F' l ∧ l ∉ τ' ∧ h'[l]? = some o) (ht : ∀ n l : Nat, τ[n]? = some l → τ'[n]? = some l) : ∀ {ds : List D} {xs : List MV}, Fzs F τ h xs ds → Fzs F' τ' h' xs ds
  | [], _, .nil => .nil
  | _ :: _, _, .cons a b => .cons (Fz.mono hl ht a) (Fzs.mono hl ht b)
end
theorem Ob.mono (hl : ∀ l o, ¬F l → l ∉ τ → h[l]? = some o → ¬F' l ∧ l ∉ τ' ∧ h'[l]? = some o) (ht : ∀ n l : Nat, τ[n]? = some l → τ'[n]? = some l) {o : MO} {d : D} (q : Ob F τ h o d) : Ob F' τ' h' o d := by
  cases q with
  | lst q => exact .lst (q.mono hl ht)
  | dct q => exact .dct (q.mono hl ht)
  | ins q => exact .ins (q.mono hl ht)
mutual
/-- what holds no list may stand anywhere -/
theorem Fz.im : ∀ {d : D} {v : MV}, d.im = true → Fz F τ h v d → Fz F' τ h' v d
  | .non, _, _, .non => .non
  | .bl _, _, _, .bl b => .bl b
  | .int _, _, _, .int i => .int i
  | .str _, _, _, .str x => .str x
  | .tup _, _, i, .tup q => .tup (Fzs.im (by simpa [D.im] using i) q)
  | .rol _, _, i, .rol q => .rol (Fzs.im (by simpa [D.im] using i) q)
  | .lst _, _, i, .loc _ _ _ _ => by simp [D.im] at i
  | .tok _, _, _, .tok e => .tok e
  | .dct _ _, _, i, .loc _ _ _ _ => by simp [D.im] at i
  | .ins _ _ _, _, i, .loc _ _ _ _ => by simp [D.im] at i
  | .non, _, _, .loc _ _ _ q => nomatch q
  | .bl _, _, _, .loc _ _ _ q => nomatch q
  | .int _, _, _, .loc _ _ _ q => nomatch q
  | .str _, _, _, .loc _ _ _ q => nomatch q
  | .tup _, _, _, .loc _ _ _ q => nomatch q
  | .rol _, _, _, .loc _ _ _ q => nomatch q
  | .tok _, _, _, .loc _ _ _ q => nomatch q
theorem Fzs.im : ∀ {ds : List D} {xs : List MV}, Ds.im ds = true → Fzs F τ h xs ds → Fzs F' τ h' xs ds
  | [], _, _, .nil => .nil
  | d :: ds, _, i, .cons a b => by
    rw [Ds.im, Bool.and_eq_true] at i
    exact .cons (Fz.im i.1 a) (Fzs.im i.2 b)
end
theorem Fz.sub (hF : ∀ l, F' l → F l) {d : D} {v : MV} (q : Fz F τ h v d) : Fz F' τ h v d := q.mono (fun l o a b e => ⟨fun z => a (hF l z), b, e⟩) fun _ _ e => e
theorem Fzs.sub (hF : ∀ l, F' l → F l) {ds : List D} {xs : List MV} (q : Fzs F τ h xs ds) : Fzs F' τ h xs ds := q.mono (fun l o a b e => ⟨fun z => a (hF l z), b, e⟩) fun _ _ e => e
theorem Ob.sub (hF : ∀ l, F' l → F l) {o : MO} {d : D} (q : Ob F τ h o d) : Ob F' τ h o d := q.mono (fun l o a b e => ⟨fun z => a (hF l z), b, e⟩) fun _ _ e => e
/-- places behind the heap may be forbidden at will -/
theorem lt_of_get {α : Type} {xs : List α} {l : Nat} {o : α} (e : xs[l]? = some o) : l < xs.length := (List.getElem?_eq_some_iff.mp e).1
theorem Fz.sub' (hF : ∀ l, l < h.length → F' l → F l) {d : D} {v : MV} (q : Fz F τ h v d) : Fz F' τ h v d := q.mono (fun l o a b e => ⟨fun z => a (hF l (lt_of_get e) z), b, e⟩) fun _ _ e => e
theorem Fzs.sub' (hF : ∀ l, l < h.length → F' l → F l) {ds : List D} {xs : List MV} (q : Fzs F τ h xs ds) : Fzs F' τ h xs ds := q.mono (fun l o a b e => ⟨fun z => a (hF l (lt_of_get e) z), b, e⟩) fun _ _ e => e
theorem Ob.sub' (hF : ∀ l, l < h.length → F' l → F l) {o : MO} {d : D} (q : Ob F τ h o d) : Ob F' τ h o d := q.mono (fun l o a b e => ⟨fun z => a (hF l (lt_of_get e) z), b, e⟩) fun _ _ e => e

/-! ### the heap goes on -/
structure Ev (M : Nat → Prop) (τ : List Nat) (h : MH) (τ' : List Nat) (h' : MH) : Prop where
  pre : ∃ t, τ' = τ ++ t
  new : ∀ l, l ∈ τ' → l ∈ τ ∨ h.length ≤ l
  len : h.length ≤ h'.length
  fr : ∀ l, l < h.length → l ∉ τ → ¬M l → h'[l]? = h[l]?
theorem Ev.refl : Ev M τ h τ h := ⟨⟨[], by simp⟩, fun _ m => .inl m, Nat.le_refl _, fun _ _ _ _ => rfl⟩
theorem Ev.tat (x : Ev M τ h τ' h') {n l : Nat} (e : τ[n]? = some l) : τ'[n]? = some l := by
  obtain ⟨t, rfl⟩ := x.pre
  rw [List.getElem?_append_left (lt_of_get e)]
  exact e
theorem Ev.tmem (x : Ev M τ h τ' h') {l : Nat} (m : l ∈ τ) : l ∈ τ' := by
  obtain ⟨t, rfl⟩ := x.pre
  exact List.mem_append_left _ m
theorem Ev.old (x : Ev M τ h τ' h') {l : Nat} (hl : l < h.length) (n : l ∉ τ) : l ∉ τ' := fun m => by
  rcases x.new l m with m | m
  · exact n m
  · omega
theorem Ev.trans (x : Ev M τ h τ1 h1) (y : Ev M τ1 h1 τ2 h2) : Ev M τ h τ2 h2 := by
  refine ⟨?_, fun l m => ?_, Nat.le_trans x.len y.len, fun l hl n nm => ?_⟩
  · obtain ⟨t, e⟩ := x.pre
    obtain ⟨u, e'⟩ := y.pre
    exact ⟨t ++ u, by rw [e', e, List.append_assoc]⟩
  · rcases y.new l m with m | m
    · exact x.new l m
    · exact .inr (Nat.le_trans x.len m)
  · rw [y.fr l (Nat.lt_of_lt_of_le hl x.len) (x.old hl n) nm, x.fr l hl n nm]
theorem Ev.wk {M' : Nat → Prop} (x : Ev M τ h τ' h') (hM : ∀ l, l < h.length → M l → M' l) : Ev M' τ h τ' h' := ⟨x.pre, x.new, x.len, fun l hl n m => x.fr l hl n fun z => m (hM l hl z)⟩
theorem Ev.add {o : MO} : Ev M τ h τ (h ++ [o]) := ⟨⟨[], by simp⟩, fun _ m => .inl m, by simp, fun l hl _ _ => List.getElem?_append_left hl⟩
theorem Fz.ev (x : Ev M τ h τ' h') (hM : ∀ l, l < h.length → M l → F l) {d : D} {v : MV} (q : Fz F τ h v d) : Fz F τ' h' v d :=
  q.mono (fun l o a b e => ⟨a, x.old (lt_of_get e) b, by rw [x.fr l (lt_of_get e) b fun z => a (hM l (lt_of_get e) z)]; exact e⟩) fun _ _ e => x.tat e
theorem Fzs.ev (x : Ev M τ h τ' h') (hM : ∀ l, l < h.length → M l → F l) {ds : List D} {xs : List MV} (q : Fzs F τ h xs ds) : Fzs F τ' h' xs ds :=
  q.mono (fun l o a b e => ⟨a, x.old (lt_of_get e) b, by rw [x.fr l (lt_of_get e) b fun z => a (hM l (lt_of_get e) z)]; exact e⟩) fun _ _ e => x.tat e
theorem Ob.ev (x : Ev M τ h τ' h') (hM : ∀ l, l < h.length → M l → F l) {o : MO} {d : D} (q : Ob F τ h o d) : Ob F τ' h' o d :=
  q.mono (fun l o a b e => ⟨a, x.old (lt_of_get e) b, by rw [x.fr l (lt_of_get e) b fun z => a (hM l (lt_of_get e) z)]; exact e⟩) fun _ _ e => x.tat e
/-! ### the objects -/
def GOb (F : Nat → Prop) (τ : List Nat) (h : MH) : MO → GO → Prop
  | .lst xs, .lst ds => Fzs F τ h xs ds
  | .tbl x, .tbl y => x = y
  | _, _ => False
structure TokR (F : Nat → Prop) (τ : List Nat) (h : MH) (g : GS) : Prop where
  len : τ.length = g.length
  nd : τ.Nodup
  obj : ∀ (n : Nat) (o : GO), g[n]? = some o → ∃ l mo, τ[n]? = some l ∧ h[l]? = some mo ∧ GOb F τ h mo o
  tb : ∀ (n : Nat) (x : Str × Option Str), g[n]? = some (.tbl x) → τ[n]? = some n
theorem TokR.lst (t : TokR F τ h g) {n : Nat} {ds : List D} (e : g[n]? = some (.lst ds)) : ∃ l xs, τ[n]? = some l ∧ h[l]? = some (.lst xs) ∧ Fzs F τ h xs ds := by
  obtain ⟨l, mo, a, b, c⟩ := t.obj n _ e
  cases mo with
  | lst xs => exact ⟨l, xs, a, b, c⟩
  | dct _ _ => exact c.elim
  | ins _ _ _ => exact c.elim
  | tbl _ => exact c.elim
theorem TokR.tab (t : TokR F τ h g) {n : Nat} {x : Str × Option Str} (e : g[n]? = some (.tbl x)) : h[n]? = some (.tbl x) := by
  obtain ⟨l, mo, a, b, c⟩ := t.obj n _ e
  rw [t.tb n x e] at a
  cases a
  cases mo with
  | tbl y => rw [b, show y = x from c]
  | lst _ => exact c.elim
  | dct _ _ => exact c.elim
  | ins _ _ _ => exact c.elim
theorem TokR.lt (t : TokR F τ h g) {l : Nat} (m : l ∈ τ) : l < h.length := by
  obtain ⟨n, hn, e⟩ := List.getElem_of_mem m
  have hg : n < g.length := by rw [← t.len]; exact hn
  obtain ⟨l', mo, a, b, c⟩ := t.obj n _ (List.getElem?_eq_getElem hg)
  have : l' = l := by
    rw [List.getElem?_eq_getElem hn, e] at a
    exact (Option.some.inj a).symm
  subst this
  exact lt_of_get b
/-- a new object behind -/
theorem TokR.add (t : TokR F τ h g) {o : MO} : TokR F τ (h ++ [o]) g := by
  refine ⟨t.len, t.nd, fun n u e => ?_, t.tb⟩
  obtain ⟨l, mo, a, b, c⟩ := t.obj n u e
  refine ⟨l, mo, a, by rw [List.getElem?_append_left (lt_of_get b)]; exact b, ?_⟩
  cases mo <;> cases u <;> first | exact Fzs.ev (M := fun _ => False) Ev.add (fun _ _ z => z.elim) c | exact c | exact c.elim
theorem TokR.sub' (t : TokR F τ h g) (hF : ∀ l, l < h.length → F' l → F l) : TokR F' τ h g := by
  refine ⟨t.len, t.nd, fun n u e => ?_, t.tb⟩
  obtain ⟨l, mo, a, b, c⟩ := t.obj n u e
  refine ⟨l, mo, a, b, ?_⟩
  cases mo <;> cases u <;> first | exact Fzs.sub' hF c | exact c | exact c.elim
/-! ### lists of data -/
theorem Fzs.length : ∀ {ds : List D} {xs : List MV}, Fzs F τ h xs ds → xs.length = ds.length
  | [], _, .nil => rfl
  | d :: ds, _, .cons _ b => by rw [List.length_cons, List.length_cons, b.length]
theorem Fzs.isEmpty {ds : List D} {xs : List MV} (q : Fzs F τ h xs ds) : xs.isEmpty = ds.isEmpty := by cases q <;> rfl
theorem Fzs.get : ∀ {ds : List D} {xs : List MV} {i : Nat} {d : D}, Fzs F τ h xs ds → ds[i]? = some d → ∃ v, xs[i]? = some v ∧ Fz F τ h v d
  | [], _, _, _, .nil, e => by simp at e
  | d :: ds, _, 0, _, .cons a _, e => by
    simp at e
    subst e
    exact ⟨_, rfl, a⟩
  | d :: ds, _, i + 1, _, .cons _ b, e => by
    obtain ⟨v, e1, q⟩ := Fzs.get (i := i) b (by simpa using e)
    exact ⟨v, by simpa using e1, q⟩
theorem Fzs.append : ∀ {ds es : List D} {xs ys : List MV}, Fzs F τ h xs ds → Fzs F τ h ys es → Fzs F τ h (xs ++ ys) (ds ++ es)
  | [], _, _, _, .nil, q => q
  | d :: ds, _, _, _, .cons a b, q => .cons a (Fzs.append b q)
theorem Fzs.reverse : ∀ {ds : List D} {xs : List MV}, Fzs F τ h xs ds → Fzs F τ h xs.reverse ds.reverse
  | [], _, .nil => .nil
  | d :: ds, _, .cons a b => by
    rw [List.reverse_cons, List.reverse_cons]
    exact (Fzs.reverse b).append (.cons a .nil)
theorem Fzs.one {d : D} {v : MV} (q : Fz F τ h v d) : Fzs F τ h [v] [d] := .cons q .nil
theorem Fzs.take : ∀ {ds : List D} {xs : List MV} (n : Nat), Fzs F τ h xs ds → Fzs F τ h (xs.take n) (ds.take n)
  | [], _, n, .nil => by simp; exact .nil
  | d :: ds, _, 0, _ => by simp; exact .nil
  | d :: ds, _, n + 1, .cons a b => .cons a (Fzs.take n b)
theorem Fzs.drop : ∀ {ds : List D} {xs : List MV} (n : Nat), Fzs F τ h xs ds → Fzs F τ h (xs.drop n) (ds.drop n)
  | [], _, n, .nil => by simp; exact .nil
  | d :: ds, _, 0, q => q
  | d :: ds, _, n + 1, .cons a b => Fzs.drop n b
theorem Fzs.dropLast {ds : List D} {xs : List MV} (q : Fzs F τ h xs ds) : Fzs F τ h xs.dropLast ds.dropLast := by
  rw [List.dropLast_eq_take, List.dropLast_eq_take, q.length]
  exact q.take _
theorem Fzs.set {d : D} {v : MV} (r : Fz F τ h v d) : ∀ {ds : List D} {xs : List MV} (i : Nat), Fzs F τ h xs ds → Fzs F τ h (xs.set i v) (ds.set i d)
  | [], _, n, .nil => by simp; exact .nil
  | x :: ds, _, 0, .cons a b => .cons r b
  | x :: ds, _, n + 1, .cons a b => .cons a (Fzs.set r n b)
theorem Fzs.mem : ∀ {ds : List D} {xs : List MV} {d : D}, Fzs F τ h xs ds → d ∈ ds → ∃ v ∈ xs, Fz F τ h v d
  | d :: ds, _, _, .cons a b, m => by
    rcases List.mem_cons.mp m with rfl | m
    · exact ⟨_, List.mem_cons_self, a⟩
    · obtain ⟨v, hv, q⟩ := b.mem m
      exact ⟨v, List.mem_cons_of_mem _ hv, q⟩
theorem Fzs.ints : ∀ {ds : List D} {xs : List MV} {ns : List Int}, Fzs F τ h xs ds → intsP ds = some ns → intsO xs = some ns
  | [], _, _, .nil, e => e
  | d :: ds, _, ns, .cons a b, e => by
    cases a with
    | int i =>
      unfold intsP at e
      unfold intsO
      cases e2 : intsP ds with
      | none => rw [e2] at e; cases e
      | some ms =>
        rw [e2] at e
        rw [Fzs.ints b e2]
        exact e
    | loc _ _ _ q => cases q <;> cases e
    | _ => cases e
theorem Fzs.bls : ∀ {ds : List D} {xs : List MV} {ns : List Bool}, Fzs F τ h xs ds → blsP ds = some ns → blsO xs = some ns
  | [], _, _, .nil, e => e
  | d :: ds, _, ns, .cons a b, e => by
    cases a with
    | bl i =>
      unfold blsP at e
      unfold blsO
      cases e2 : blsP ds with
      | none => rw [e2] at e; cases e
      | some ms =>
        rw [e2] at e
        rw [Fzs.bls b e2]
        exact e
    | loc _ _ _ q => cases q <;> cases e
    | _ => cases e
theorem fzs_ints {ns : List Int} : Fzs F τ h (ns.map .int) (ns.map .int) := by
  induction ns with
  | nil => exact .nil
  | cons n r ih => exact .cons (.int n) ih
mutual
theorem mvD_ok : ∀ {v : MV} {d : D}, mvD v = some d → Fz F τ h v d
  | .non, _, e => by simp [mvD] at e; subst e; exact .non
  | .bl b, _, e => by simp [mvD] at e; subst e; exact .bl b
  | .int b, _, e => by simp [mvD] at e; subst e; exact .int b
  | .str b, _, e => by simp [mvD] at e; subst e; exact .str b
  | .tup xs, _, e => by
    simp [mvD] at e
    obtain ⟨ds, e1, rfl⟩ := e
    exact .tup (mvDs_ok e1)
  | .rol xs, _, e => by
    simp [mvD] at e
    obtain ⟨ds, e1, rfl⟩ := e
    exact .rol (mvDs_ok e1)
  | .loc _, _, e => by simp [mvD] at e
  | .ty _, _, e => by simp [mvD] at e
  | .cls _, _, e => by simp [mvD] at e
theorem mvDs_ok : ∀ {vs : List MV} {ds : List D}, mvDs vs = some ds → Fzs F τ h vs ds
  | [], _, e => by simp [mvDs] at e; subst e; exact .nil
  | v :: vs, _, e => by
    unfold mvDs at e
    split at e
    · rename_i d ds e1 e2
      cases e
      exact .cons (mvD_ok e1) (mvDs_ok e2)
    · cases e
end
/-! ### data -/
mutual
theorem Fz.dn : ∀ {d : D} {v : MV}, d.nt = true → Fz F τ h v d → Dn h v d.pd
  | .non, _, _, .non => by unfold D.pd; exact .non
  | .bl _, _, _, .bl b => by unfold D.pd; exact .bl b
  | .int _, _, _, .int i => by unfold D.pd; exact .int i
  | .str _, _, _, .str x => by unfold D.pd; exact .str x
  | .tup _, _, i, .tup q => by unfold D.pd; exact .tup (Fzs.dn (by simpa [D.nt] using i) q)
  | .rol _, _, i, .rol q => by unfold D.pd; exact .rol (Fzs.dn (by simpa [D.nt] using i) q)
  | .lst _, _, i, .loc _ _ e (.lst q) => by unfold D.pd; exact .loc e (Fzs.dn (by simpa [D.nt] using i) q)
  | .tok _, _, i, .tok e => by simp [D.nt] at i
  | .non, _, _, .loc _ _ _ q => nomatch q
  | .bl _, _, _, .loc _ _ _ q => nomatch q
  | .int _, _, _, .loc _ _ _ q => nomatch q
  | .str _, _, _, .loc _ _ _ q => nomatch q
  | .tup _, _, _, .loc _ _ _ q => nomatch q
  | .rol _, _, _, .loc _ _ _ q => nomatch q
  | .tok _, _, _, .loc _ _ _ q => nomatch q
theorem Fzs.dn : ∀ {ds : List D} {xs : List MV}, Ds.nt ds = true → Fzs F τ h xs ds → Dns h xs (Ds.pd ds)
  | [], _, _, .nil => by unfold Ds.pd; exact .nil
  | d :: ds, _, i, .cons a b => by
    rw [Ds.nt, Bool.and_eq_true] at i
    unfold Ds.pd
    exact .cons (Fz.dn i.1 a) (Fzs.dn i.2 b)
end
theorem sh_nt {d : D} (e : d.sh = true) : d.nt = true ∧ shp d.pd = true := by
  unfold D.sh at e
  rwa [Bool.and_eq_true] at e
theorem eqP_ok {x y : MV} {dx dy : D} {b : Bool} (qx : Fz F τ h x dx) (qy : Fz F τ h y dy) (e : eqP dx dy = some b) : eqO x y h = some b := by
  unfold eqP at e
  split at e
  · rename_i hz
    rw [← e]
    exact eqO_data (qx.dn (sh_nt hz.1).1) (qy.dn (sh_nt hz.2).1) (sh_nt hz.1).2 (sh_nt hz.2).2
  · cases e
theorem flat_ok {x : MV} {d : D} (q : Fz F τ h x d) (e : d.flat = true) : flatM x = true ∧ flatD x = d.pd := by
  cases q with
  | loc _ _ _ o => cases o <;> cases e
  | non => exact ⟨rfl, by simp [flatD, D.pd]⟩
  | bl => exact ⟨rfl, by simp [flatD, D.pd]⟩
  | int => exact ⟨rfl, by simp [flatD, D.pd]⟩
  | str => exact ⟨rfl, by simp [flatD, D.pd]⟩
  | _ => cases e
theorem flats_ok {d0 : PyData} : ∀ {ds : List D} {xs : List MV}, Fzs F τ h xs ds → ds.all D.flat = true → xs.all flatM = true ∧ (xs.any fun z => PyData.eqv (flatD z) d0) = ds.any fun z => PyData.eqv z.pd d0
  | [], _, .nil, _ => ⟨rfl, rfl⟩
  | d :: ds, _, .cons a b, e => by
    rw [List.all_cons, Bool.and_eq_true] at e
    obtain ⟨p, q⟩ := flat_ok a e.1
    obtain ⟨p', q'⟩ := flats_ok (d0 := d0) b e.2
    exact ⟨by rw [List.all_cons, p, p']; rfl, by rw [List.any_cons, List.any_cons, q, q']⟩
theorem any_pd {f : PyData → Bool} : ∀ {ds : List D}, (Ds.pd ds).any f = ds.any fun z => f z.pd
  | [] => by simp [Ds.pd]
  | d :: ds => by rw [Ds.pd, List.any_cons, List.any_cons, any_pd]
theorem keyP_ok {x : MV} {d : D} {k : L2.Key} (q : Fz F τ h x d) (e : keyP d = some k) : keyO x = some k := by
  cases q with
  | int i => exact e
  | str i => exact e
  | loc _ _ _ o => cases o <;> cases e
  | _ => cases e
theorem fz_dct {x : MV} {ks : List L2.Key} {ds : List D} (q : Fz F τ h x (.dct ks ds)) : ∃ l xs, x = .loc l ∧ ¬F l ∧ l ∉ τ ∧ h[l]? = some (.dct ks xs) ∧ Fzs F τ h xs ds := by
  cases q with
  | loc a b e o =>
    cases o with
    | dct q => exact ⟨_, _, rfl, a, b, e, q⟩
theorem dctO_of {l : Nat} {ks : List L2.Key} {xs : List MV} (e : h[l]? = some (.dct ks xs)) : dctO (.loc l) h = some (ks, xs) := by
  simp only [dctO, e]
theorem inL_in {x y : MV} {b : Bool} (e : inL x y h = some b) : inO x y h = some b := by
  unfold inO
  rw [e]
  rfl
theorem dIn_in {x : MV} {l : Nat} {ks : List L2.Key} {xs : List MV} {k : L2.Key} (e : h[l]? = some (.dct ks xs)) (ek : keyO x = some k) : inO x (.loc l) h = some (kIx ks k).isSome := by
  have e1 : inL x (.loc l) h = none := by
    have : dat h (.loc l) = none := by
      unfold dat
      rw [dif_neg]
      rintro ⟨d, q⟩
      cases q with
      | loc e2 _ => rw [e] at e2; cases e2
    unfold inL
    simp only [this]
    split
    · rename_i e2
      cases e2
    · rfl
  unfold inO
  rw [e1, Option.none_or]
  unfold dIn
  rw [dctO_of e, Option.bind_some, ek]
  rfl
theorem inP_ok {x y : MV} {dx dy : D} {b : Bool} (qx : Fz F τ h x dx) (qy : Fz F τ h y dy) (e : inP dx dy = some b) : inO x y h = some b := by
  unfold inP at e
  split at e
  · rename_i ks ys
    cases ek : keyP dx with
    | none => rw [ek] at e; cases e
    | some k =>
      rw [ek] at e
      cases e
      obtain ⟨l, xs, rfl, _, _, e1, _⟩ := fz_dct qy
      exact dIn_in e1 (keyP_ok qx ek)
  · rename_i ys
    split at e
    · rename_i hz
      cases qy with
      | loc _ _ _ o => cases o
      | tup q =>
        obtain ⟨p1, p2⟩ := flat_ok qx hz.1
        obtain ⟨p3, p4⟩ := flats_ok (d0 := dx.pd) q hz.2
        refine inL_in ?_
        unfold inL
        simp only
        rw [if_pos ⟨p1, p3⟩, p2, p4]
        exact e
    · cases e
  · rename_i ys
    split at e
    · rename_i hz
      have h1 := sh_nt hz.1
      have h2 := sh_nt hz.2
      have d1 := qx.dn h1.1
      have d2 := qy.dn h2.1
      have e2 : (D.lst ys).pd = .list (Ds.pd ys) := by rw [D.pd]
      rw [e2] at h2 d2
      cases qy with
      | loc a b' c o =>
        refine inL_in ?_
        unfold inL
        simp only
        rw [dat_of d1, dat_of d2]
        simp only
        rw [if_pos ⟨h1.2, h2.2⟩, any_pd]
        exact e
    · cases e
  · rename_i ys
    split at e
    · rename_i hz
      have h1 := sh_nt hz.1
      have h2 := sh_nt hz.2
      have d1 := qx.dn h1.1
      have d2 := qy.dn h2.1
      have e2 : (D.rol ys).pd = .list (Ds.pd ys) := by rw [D.pd]
      rw [e2] at h2 d2
      cases qy with
      | loc _ _ _ o => cases o
      | rol q =>
        refine inL_in ?_
        unfold inL
        simp only
        rw [dat_of d1, dat_of d2]
        simp only
        rw [if_pos ⟨h1.2, h2.2⟩, any_pd]
        exact e
    · cases e
  · cases e
theorem isNon_ok {x : MV} {d : D} (q : Fz F τ h x d) : x.isNon = d.isNon := by
  cases q with
  | loc _ _ _ o => cases o <;> rfl
  | _ => rfl
theorem fz_int {x : MV} {i : Int} (q : Fz F τ h x (.int i)) : x = .int i := by
  cases q with
  | loc _ _ _ o => cases o
  | int => rfl
theorem fz_bl {x : MV} {i : Bool} (q : Fz F τ h x (.bl i)) : x = .bl i := by
  cases q with
  | loc _ _ _ o => cases o
  | bl => rfl
theorem fz_str {x : MV} {i : Str} (q : Fz F τ h x (.str i)) : x = .str i := by
  cases q with
  | loc _ _ _ o => cases o
  | str => rfl
theorem fz_non {x : MV} (q : Fz F τ h x .non) : x = .non := by
  cases q with
  | loc _ _ _ o => cases o
  | non => rfl
theorem fz_tup {x : MV} {ds : List D} (q : Fz F τ h x (.tup ds)) : ∃ xs, x = .tup xs ∧ Fzs F τ h xs ds := by
  cases q with
  | loc _ _ _ o => cases o
  | tup q => exact ⟨_, rfl, q⟩
theorem fz_rol {x : MV} {ds : List D} (q : Fz F τ h x (.rol ds)) : ∃ xs, x = .rol xs ∧ Fzs F τ h xs ds := by
  cases q with
  | loc _ _ _ o => cases o
  | rol q => exact ⟨_, rfl, q⟩
theorem fz_lst {x : MV} {ds : List D} (q : Fz F τ h x (.lst ds)) : ∃ l xs, x = .loc l ∧ ¬F l ∧ l ∉ τ ∧ h[l]? = some (.lst xs) ∧ Fzs F τ h xs ds := by
  cases q with
  | loc a b e o =>
    cases o with
    | lst q => exact ⟨_, _, rfl, a, b, e, q⟩
theorem fz_tok {x : MV} {n : Nat} (q : Fz F τ h x (.tok n)) : ∃ l, x = .loc l ∧ τ[n]? = some l := by
  cases q with
  | loc _ _ _ o => cases o
  | tok e => exact ⟨_, rfl, e⟩
theorem fz_ins {x : MV} {c : Str} {ns : List Str} {ds : List D} (q : Fz F τ h x (.ins c ns ds)) : ∃ l xs, x = .loc l ∧ ¬F l ∧ l ∉ τ ∧ h[l]? = some (.ins c ns xs) ∧ Fzs F τ h xs ds := by
  cases q with
  | loc a b e o =>
    cases o with
    | ins q => exact ⟨_, _, rfl, a, b, e, q⟩
theorem insO_of {l : Nat} {c : Str} {ns : List Str} {xs : List MV} (e : h[l]? = some (.ins c ns xs)) : insO (.loc l) h = some (c, ns, xs) := by
  simp only [insO, e]
theorem fldP_ok {cs : List Str} {x : MV} {dx d : D} {f : Str} (q : Fz F τ h x dx) (e : fldP cs dx f = some d) : ∃ v, fldO cs x f h = some v ∧ Fz F τ h v d := by
  unfold fldP at e
  split at e
  · rename_i c ns ds
    obtain ⟨l, xs, rfl, _, _, e1, q1⟩ := fz_ins q
    split at e
    · rename_i hc
      obtain ⟨i, ei, ed⟩ := Option.bind_eq_some_iff.mp e
      obtain ⟨v, ev, qv⟩ := q1.get ed
      refine ⟨v, ?_, qv⟩
      unfold fldO
      rw [insO_of e1, Option.bind_some, if_pos hc, ei]
      exact ev
    · cases e
  · cases e
theorem methP_ok {cs : List (Str × Nat)} {x : MV} {dx : D} {m : Str} {k : Nat} (q : Fz F τ h x dx) (e : methP cs m dx = some k) : ((insO x h).bind fun o => if (nIx o.2.1 m).isNone = true then cs.lookup o.1 else none) = some k := by
  unfold methP at e
  split at e
  · rename_i c ns ds
    obtain ⟨l, xs, rfl, _, _, e1, q1⟩ := fz_ins q
    rw [insO_of e1]
    exact e
  · cases e
theorem tidxP_ok {v y : MV} {dy d : D} (q : Fz F τ h y dy) (e : tidxP v dy = some d) : ∃ w, tidxO v y = some w ∧ Fz F τ h w d := by
  unfold tidxP at e
  split at e
  · rename_i xs z
    rw [fz_str q]
    obtain ⟨ss, e1, e2⟩ := Option.bind_eq_some_iff.mp e
    obtain ⟨k, e3, rfl⟩ := Option.map_eq_some_iff.mp e2
    refine ⟨.int k, ?_, .int _⟩
    unfold tidxO
    simp only [e1, Option.bind_some, e3, Option.map_some]
  · cases e
theorem idxD_ok {y : MV} {dy : D} (fy : flatD y = dy.pd) : ∀ {ds : List D} {xs : List MV} {k : Nat}, Fzs F τ h xs ds → ds.all D.flat = true → idxD dy ds = some k → idxO y xs = some k
  | [], _, _, .nil, _, e => by cases e
  | d :: ds, _, k, .cons a b, f, e => by
    rw [List.all_cons, Bool.and_eq_true] at f
    obtain ⟨_, p2⟩ := flat_ok a f.1
    unfold idxD at e
    unfold idxO
    rw [p2, fy]
    split at e
    · rename_i hz
      cases e
      rw [if_pos hz]
    · rename_i hz
      rw [if_neg hz]
      obtain ⟨j, ej, rfl⟩ := Option.map_eq_some_iff.mp e
      rw [idxD_ok fy b f.2 ej]
      rfl
theorem idxP_ok {x y : MV} {dx dy d : D} (qx : Fz F τ h x dx) (qy : Fz F τ h y dy) (e : idxP dx dy = some d) : ∃ l k, x = .loc l ∧ recvO .index x h = true ∧ mtO .index x [y] h = some (.int k, h) ∧ d = .int k := by
  unfold idxP at e
  split at e
  · rename_i ds
    obtain ⟨l, xs, rfl, _, _, e1, q⟩ := fz_lst qx
    split at e
    · rename_i hz
      obtain ⟨k, ek, rfl⟩ := Option.map_eq_some_iff.mp e
      obtain ⟨p1, p2⟩ := flat_ok qy hz.1
      obtain ⟨p3, _⟩ := flats_ok (d0 := .none) q hz.2
      refine ⟨l, k, rfl, by simp only [recvO, e1], ?_, rfl⟩
      simp only [mtO, e1]
      rw [if_pos ⟨p1, p3⟩, idxD_ok p2 q hz.2 ek]
      rfl
    · cases e
  · cases e
theorem dPairs_ok : ∀ (n : Nat) {ds : List D} {xs : List MV} {ks : List L2.Key} {vs : List MV} {us : List D} {r : List L2.Key × List D}, ds.length ≤ n → Fzs F τ h xs ds → Fzs F τ h vs us → dPairsP ds ks us = some r → ∃ ws, dPairs xs ks vs = some (r.1, ws) ∧ Fzs F τ h ws r.2
  | _, [], _, ks, vs, us, r, _, .nil, q, e => by cases e; exact ⟨vs, rfl, q⟩
  | _, [_], _, _, _, _, _, _, _, _, e => by cases e
  | 0, _ :: _ :: _, _, _, _, _, _, hn, _, _, e => by simp at hn
  | n + 1, a :: d :: ds, _, ks, vs, us, r, hn, .cons qa (.cons qd qs), q, e => by
    unfold dPairsP at e
    obtain ⟨k, ek, e1⟩ := Option.bind_eq_some_iff.mp e
    unfold dPairs
    rw [keyP_ok qa ek, Option.bind_some]
    cases hi : kIx ks k with
    | some i =>
      rw [hi] at e1
      simp only at e1 ⊢
      exact dPairs_ok n (by simp at hn; omega) qs (q.set qd i) e1
    | none =>
      rw [hi] at e1
      simp only at e1 ⊢
      exact dPairs_ok n (by simp at hn; omega) qs (q.append (.one qd)) e1
theorem cmpI {f : Int → Int → Bool} {dx dy : D} {b : Bool} (e : (match dx, dy with | .int i, .int j => some (f i j) | _, _ => none) = some b) : ∃ i j, dx = .int i ∧ dy = .int j ∧ f i j = b := by
  split at e
  · exact ⟨_, _, rfl, rfl, Option.some.inj e⟩
  · cases e
theorem binI {c : Int → Int → Prop} [∀ i j, Decidable (c i j)] {f : Int → Int → Int} {dx dy d : D} {fr : Bool} (e : (match dx, dy with | .int i, .int j => if c i j then some (D.int (f i j), false) else none | _, _ => none) = some (d, fr)) : ∃ i j, dx = .int i ∧ dy = .int j ∧ c i j ∧ d = .int (f i j) ∧ fr = false := by
  split at e
  · split at e
    · rename_i hc
      cases e
      exact ⟨_, _, rfl, rfl, hc, rfl, rfl⟩
    · cases e
  · cases e
theorem cmpP_ok {o : COp} {x y : MV} {dx dy : D} {b : Bool} (qx : Fz F τ h x dx) (qy : Fz F τ h y dy) (e : cmpP o dx dy = some b) : cmpO o x y h = some b := by
  cases o with
  | eq => exact eqP_ok qx qy e
  | ne =>
    unfold cmpP at e
    simp only at e
    cases e1 : eqP dx dy with
    | none => rw [e1] at e; cases e
    | some k =>
      rw [e1] at e
      show (eqO x y h).map (!·) = _
      rw [eqP_ok qx qy e1]
      exact e
  | inn => exact inP_ok qx qy e
  | nin =>
    unfold cmpP at e
    simp only at e
    cases e1 : inP dx dy with
    | none => rw [e1] at e; cases e
    | some k =>
      rw [e1] at e
      show (inO x y h).map (!·) = _
      rw [inP_ok qx qy e1]
      exact e
  | is =>
    unfold cmpP at e
    simp only at e
    split at e
    · rw [fz_non qy]
      show some x.isNon = _
      rw [isNon_ok qx]
      exact e
    · split at e
      · rw [fz_bl qx, fz_bl qy]
        exact e
      · cases e
    · cases e
  | isn =>
    unfold cmpP at e
    simp only at e
    split at e
    · rw [fz_non qy]
      show some (!x.isNon) = _
      rw [isNon_ok qx]
      exact e
    · split at e
      · rw [fz_bl qx, fz_bl qy]
        exact e
      · cases e
    · cases e
  | lt => obtain ⟨i, j, rfl, rfl, e⟩ := cmpI (f := fun i j => decide (i < j)) e; rw [fz_int qx, fz_int qy, ← e]; rfl
  | le => obtain ⟨i, j, rfl, rfl, e⟩ := cmpI (f := fun i j => decide (i ≤ j)) e; rw [fz_int qx, fz_int qy, ← e]; rfl
  | gt => obtain ⟨i, j, rfl, rfl, e⟩ := cmpI (f := fun i j => decide (j < i)) e; rw [fz_int qx, fz_int qy, ← e]; rfl
  | ge => obtain ⟨i, j, rfl, rfl, e⟩ := cmpI (f := fun i j => decide (j ≤ i)) e; rw [fz_int qx, fz_int qy, ← e]; rfl
theorem items_ok (t : TokR F τ h g) {x : MV} {d : D} {ds : List D} (q : Fz F τ h x d) (e : gItems d g = some ds) : ∃ xs, itemsO x h = some xs ∧ Fzs F τ h xs ds := by
  cases d with
  | tup ys => cases e; obtain ⟨xs, rfl, q'⟩ := fz_tup q; exact ⟨xs, rfl, q'⟩
  | rol ys => cases e; obtain ⟨xs, rfl, q'⟩ := fz_rol q; exact ⟨xs, rfl, q'⟩
  | lst ys =>
    cases e
    obtain ⟨l, xs, rfl, _, _, e, q⟩ := fz_lst q
    exact ⟨xs, by simp only [itemsO, e], q⟩
  | tok n =>
    obtain ⟨l, rfl, e1⟩ := fz_tok q
    unfold gItems at e
    simp only at e
    split at e
    · rename_i ys hy
      cases e
      obtain ⟨l', xs, e2, e3, q⟩ := t.lst hy
      rw [e1] at e2
      cases e2
      exact ⟨xs, by simp only [itemsO, e3], q⟩
    · cases e
  | _ => cases e
theorem list_ok (t : TokR F τ h g) {x : MV} {d : D} {ds : List D} (q : Fz F τ h x d) (e : gList d g = some ds) : ∃ xs, listO x h = some xs ∧ Fzs F τ h xs ds := by
  cases d with
  | rol ys => cases e; obtain ⟨xs, rfl, q'⟩ := fz_rol q; exact ⟨xs, rfl, q'⟩
  | lst ys =>
    cases e
    obtain ⟨l, xs, rfl, _, _, e, q⟩ := fz_lst q
    exact ⟨xs, by simp only [listO, e], q⟩
  | tok n =>
    obtain ⟨l, rfl, e1⟩ := fz_tok q
    unfold gList at e
    simp only at e
    split at e
    · rename_i ys hy
      cases e
      obtain ⟨l', xs, e2, e3, q⟩ := t.lst hy
      rw [e1] at e2
      cases e2
      exact ⟨xs, by simp only [listO, e3], q⟩
    · cases e
  | _ => cases e
theorem truL_tru {x : MV} {b : Bool} (e : truL x h = some b) : truO x h = some b := by
  unfold truO
  rw [e]
  rfl
theorem truP_ok (t : TokR F τ h g) {x : MV} {d : D} {b : Bool} (q : Fz F τ h x d) (e : truP d g = some b) : truO x h = some b := by
  cases d with
  | non => rw [fz_non q]; exact truL_tru e
  | bl => rw [fz_bl q]; exact truL_tru e
  | int => rw [fz_int q]; exact truL_tru e
  | str => rw [fz_str q]; exact truL_tru e
  | tup ys => obtain ⟨xs, rfl, q'⟩ := fz_tup q; rw [← e]; refine truL_tru ?_; simp only [truL, truP, q'.isEmpty]
  | rol ys => obtain ⟨xs, rfl, q'⟩ := fz_rol q; rw [← e]; refine truL_tru ?_; simp only [truL, truP, q'.isEmpty]
  | lst ys =>
    obtain ⟨l, xs, rfl, _, _, e1, q⟩ := fz_lst q
    rw [← e]
    refine truL_tru ?_
    simp only [truL, truP, e1, q.isEmpty]
  | dct ks ys =>
    obtain ⟨l, xs, rfl, _, _, e1, q⟩ := fz_dct q
    have e2 : truL (.loc l) h = none := by simp only [truL, e1]
    unfold truO
    rw [e2, Option.none_or, dctO_of e1]
    exact e
  | ins c ns ys => cases e
  | tok n =>
    obtain ⟨l, rfl, e1⟩ := fz_tok q
    unfold truP at e
    simp only at e
    split at e
    · rename_i ys hy
      obtain ⟨l', xs, e2, e3, q⟩ := t.lst hy
      rw [e1] at e2
      cases e2
      rw [← e]
      refine truL_tru ?_
      simp only [truL, e3, q.isEmpty]
    · cases e
theorem allRP_ok (t : TokR F τ h g) {l : Nat} {x : Str × Option Str} {lo hi : Int} {v : MV} {d : D} {b : Bool} (q : Fz F τ h v d) (e : allRP l x lo hi d g = some b) : allRO l x lo hi v h = some b := by
  unfold allRP at e
  split at e
  · rename_i y hy
    unfold allRO
    rw [t.tab hy]
    simp only
    split at e
    · rename_i hx
      rw [if_pos hx]
      obtain ⟨ns, e1, rfl⟩ := Option.map_eq_some_iff.mp e
      obtain ⟨xs, e2, e3⟩ := Option.bind_eq_some_iff.mp e1
      obtain ⟨ws, e4, e5⟩ := list_ok t q e2
      rw [e4, Option.bind_some, e5.ints e3]
      rfl
    · cases e
  · cases e
theorem atI_ok {xs : List MV} {ds : List D} {i : Int} {d : D} (q : Fzs F τ h xs ds) (e : L2.atI ds i = some d) : ∃ v, L2.atI xs i = some v ∧ Fz F τ h v d := by
  unfold L2.atI at e ⊢
  rw [q.length]
  cases e1 : L2.ixN ds.length i with
  | none => rw [e1] at e; cases e
  | some k =>
    rw [e1] at e
    obtain ⟨v, e2, q2⟩ := q.get (i := k) (by simpa using e)
    exact ⟨v, by simpa using e2, q2⟩
theorem ixPL_ok (t : TokR F τ h g) {x y : MV} {dx dy d : D} (qx : Fz F τ h x dx) (qy : Fz F τ h y dy) (e : ixPL dx dy g = some d) : ∃ v, ixL x y h = some v ∧ Fz F τ h v d := by
  unfold ixPL at e
  split at e
  · rename_i i
    rw [fz_int qy]
    split at e
    · rename_i z
      rw [fz_str qx]
      split at e
      · rename_i hz
        unfold ixL
        simp only
        rw [if_pos hz]
        cases e1 : L2.atI z.cps.toList i with
        | none => rw [e1] at e; cases e
        | some c =>
          rw [e1] at e
          cases e
          exact ⟨_, rfl, .str _⟩
      · cases e
    · rename_i hn
      cases e1 : gItems dx g with
      | none => rw [e1] at e; cases e
      | some ds =>
        rw [e1] at e
        obtain ⟨xs, e2, q⟩ := items_ok t qx e1
        obtain ⟨v, e3, q3⟩ := atI_ok q (by simpa using e)
        refine ⟨v, ?_, q3⟩
        unfold ixL
        simp only
        cases x with
        | str z => cases e2
        | _ => simp only [e2]; exact e3
  · cases e
def FzU (F : Nat → Prop) (τ : List Nat) (h : MH) : Option D → Option MV → Prop
  | some a, some v => Fz F τ h v a
  | none, none => True
  | _, _ => False
theorem dget_ok {x y : MV} {dx dy : D} {o : Option D} (qx : Fz F τ h x dx) (qy : Fz F τ h y dy) (e : dGetP dx dy = some o) : ∃ d u, dctO x h = some d ∧ dGetO d y = some u ∧ FzU F τ h o u := by
  cases dx with
  | dct ks ds =>
    obtain ⟨l, xs, rfl, _, _, e1, q⟩ := fz_dct qx
    unfold dGetP at e
    simp only at e
    cases ek : keyP dy with
    | none => rw [ek] at e; cases e
    | some k =>
      rw [ek] at e
      have e : ((kIx ks k).bind fun i => ds[i]?) = o := Option.some.inj e
      refine ⟨_, (kIx ks k).bind fun i => xs[i]?, dctO_of e1, by unfold dGetO; rw [keyP_ok qy ek]; rfl, ?_⟩
      subst e
      cases kIx ks k with
      | none => exact trivial
      | some i =>
        show FzU F τ h ds[i]? xs[i]?
        cases ed : ds[i]? with
        | none =>
          have : xs[i]? = none := List.getElem?_eq_none (by rw [q.length]; exact List.getElem?_eq_none_iff.mp ed)
          rw [this]
          exact trivial
        | some a =>
          obtain ⟨v, ev, qv⟩ := q.get ed
          rw [ev]
          exact qv
  | _ => cases e
theorem ixP_ok (t : TokR F τ h g) {x y : MV} {dx dy d : D} (qx : Fz F τ h x dx) (qy : Fz F τ h y dy) (e : ixP dx dy g = some d) : ∃ v, ixO x y h = some v ∧ Fz F τ h v d := by
  unfold ixP at e
  split at e
  · rename_i ks ds
    cases eg : dGetP (.dct ks ds) dy with
    | none => rw [eg] at e; cases e
    | some o =>
      rw [eg] at e
      have e : o = some d := e
      subst e
      obtain ⟨c, u, e1, e2, e3⟩ := dget_ok qx qy eg
      cases u with
      | none => exact e3.elim
      | some v =>
        refine ⟨v, ?_, e3⟩
        obtain ⟨l, xs, rfl, _, _, e4, q⟩ := fz_dct qx
        have e5 : ixL (.loc l) y h = none := by
          unfold ixL
          split
          · simp only [itemsO, e4]; rfl
          · rfl
        unfold ixO
        rw [e5, Option.none_or, e1, Option.bind_some, e2]
        rfl
  · obtain ⟨v, e1, q⟩ := ixPL_ok t qx qy e
    refine ⟨v, ?_, q⟩
    unfold ixO
    rw [e1]
    rfl
/-! ### results -/
def New (F : Nat → Prop) (τ : List Nat) (h : MH) (v : MV) (h' : MH) (d : D) (fr : Bool) : Prop :=
  (fr = false ∧ h' = h ∧ Fz F τ h v d) ∨ (fr = true ∧ ∃ o, v = .loc h.length ∧ h' = h ++ [o] ∧ Ob F τ h o d)
def OpOk (F : Nat → Prop) (τ : List Nat) (h : MH) (r : Option (MV × MH)) (q : OD) : Prop := ∀ d fr, q = some (d, fr) → ∃ v h', r = some (v, h') ∧ New F τ h v h' d fr
theorem New.old {v : MV} {d : D} (q : Fz F τ h v d) : New F τ h v h d false := .inl ⟨rfl, rfl, q⟩
theorem New.lst {xs : List MV} {ds : List D} (q : Fzs F τ h xs ds) : New F τ h (.loc h.length) (h ++ [.lst xs]) (.lst ds) true := .inr ⟨rfl, _, rfl, rfl, .lst q⟩
theorem cmpPQ_ok {o : COp} {x y : MV} {dx dy : D} {b : Bool} (qx : Fz F τ h x dx) (qy : Fz F τ h y dy) (e : cmpPQ o dx dy = some b) : cmpQ o x y h = some b := by
  have main := fun z => cmpP_ok (o := o) (b := b) qx qy z
  cases o <;> first | (cases e; done) | exact main e
theorem QEp_ok (t : TokR F τ h g) {p : PEn} {e : En} (hp : ∀ (i : Nat) (d : D), getP p i = some d → ∃ v, (e[i]?).bind id = some v ∧ Fz F τ h v d) {it : MV} {di : D} (qi : Fz F τ h it di) : ∀ {q : QE} {d : D}, QEp p di g q = some d → ∃ v, QE.den e it h q = some v ∧ Fz F τ h v d
  | .v i, d, z => hp i d z
  | .it, _, z => by
    cases z
    exact ⟨it, rfl, qi⟩
  | .int n, _, z => by
    cases z
    exact ⟨_, rfl, .int n⟩
  | .ix a b, d, z => by
    obtain ⟨x, e1, z⟩ := Option.bind_eq_some_iff.mp z
    obtain ⟨y, e2, z⟩ := Option.bind_eq_some_iff.mp z
    obtain ⟨vx, f1, q1⟩ := QEp_ok t hp qi e1
    obtain ⟨vy, f2, q2⟩ := QEp_ok t hp qi e2
    obtain ⟨v, f3, q3⟩ := ixP_ok t q1 q2 z
    exact ⟨v, by rw [QE.den, f1, Option.bind_some, f2, Option.bind_some, f3], q3⟩
  | .cmp o a b, d, z => by
    obtain ⟨x, e1, z⟩ := Option.bind_eq_some_iff.mp z
    obtain ⟨y, e2, z⟩ := Option.bind_eq_some_iff.mp z
    obtain ⟨k, e3, rfl⟩ := Option.map_eq_some_iff.mp z
    obtain ⟨vx, f1, q1⟩ := QEp_ok t hp qi e1
    obtain ⟨vy, f2, q2⟩ := QEp_ok t hp qi e2
    exact ⟨.bl k, by rw [QE.den, f1, Option.bind_some, f2, Option.bind_some, cmpPQ_ok q1 q2 e3]; rfl, .bl k⟩
  | .and a b, d, z => by
    obtain ⟨x, e1, z⟩ := Option.bind_eq_some_iff.mp z
    obtain ⟨vx, f1, q1⟩ := QEp_ok t hp qi e1
    split at z
    · cases z
      cases fz_bl q1
      exact ⟨_, by rw [QE.den, f1]; rfl, .bl _⟩
    · cases fz_bl q1
      obtain ⟨vy, f2, q2⟩ := QEp_ok t hp qi z
      exact ⟨vy, by rw [QE.den, f1]; exact f2, q2⟩
    · cases z
  | .or a b, d, z => by
    obtain ⟨x, e1, z⟩ := Option.bind_eq_some_iff.mp z
    obtain ⟨vx, f1, q1⟩ := QEp_ok t hp qi e1
    split at z
    · cases fz_bl q1
      obtain ⟨vy, f2, q2⟩ := QEp_ok t hp qi z
      exact ⟨vy, by rw [QE.den, f1]; exact f2, q2⟩
    · cases z
      cases fz_bl q1
      exact ⟨_, by rw [QE.den, f1]; rfl, .bl _⟩
    · cases z
  | .not a, d, z => by
    obtain ⟨x, e1, z⟩ := Option.bind_eq_some_iff.mp z
    obtain ⟨vx, f1, q1⟩ := QEp_ok t hp qi e1
    split at z
    · cases z
      cases fz_bl q1
      exact ⟨_, by rw [QE.den, f1]; rfl, .bl _⟩
    · cases z
theorem testsP_ok {f : D → Option D} {f' : MV → Option MV} (hf : ∀ v d b, Fz F τ h v d → f d = some (.bl b) → f' v = some (.bl b)) : ∀ {xs : List MV} {ds : List D} {bs : List Bool}, Fzs F τ h xs ds → testsP f ds = some bs → testsO f' xs = some bs
  | _, _, _, .nil, e => e
  | _, _, bs, .cons a q, e => by
    unfold testsP at e
    split at e
    · rename_i b hb
      obtain ⟨bs2, e2, rfl⟩ := Option.map_eq_some_iff.mp e
      unfold testsO
      rw [hf _ _ _ a hb]
      simp only
      rw [testsP_ok hf q e2]
      rfl
    · cases e
theorem genP_ok (t : TokR F τ h g) {p : PEn} {e : En} (hp : ∀ (i : Nat) (d : D), getP p i = some d → ∃ v, (e[i]?).bind id = some v ∧ Fz F τ h v d) {an : Bool} {l : Nat} {x : Str × Option Str} {q : QE} {v : MV} {d : D} {b : Bool} (qv : Fz F τ h v d) (z : genP an l x q p d g = some b) : genO an l x q e v h = some b := by
  unfold genP at z
  split at z
  · rename_i y hy
    unfold genO
    rw [t.tab hy]
    simp only
    split at z
    · rename_i hx
      rw [if_pos hx]
      obtain ⟨ns, e1, rfl⟩ := Option.map_eq_some_iff.mp z
      obtain ⟨xs, e2, e3⟩ := Option.bind_eq_some_iff.mp e1
      obtain ⟨ws, e4, e5⟩ := list_ok t qv e2
      rw [e4, Option.bind_some, testsP_ok (fun v d b qd hd => ?_) e5 e3]
      · rfl
      · obtain ⟨w, f1, q1⟩ := QEp_ok t hp qd hd
        rw [f1, fz_bl q1]
    · cases z
  · cases z
theorem binP_ok {o : BOp} {x y : MV} {dx dy : D} (qx : Fz F τ h x dx) (qy : Fz F τ h y dy) : OpOk F τ h (binO o x y h) (binP o dx dy) := by
  intro d fr e
  cases o with
  | add =>
    unfold binP addP at e
    simp only at e
    split at e
    · cases e
      rw [fz_int qx, fz_int qy]
      exact ⟨_, _, rfl, .old (.int _)⟩
    · split at e
      · rename_i hz
        cases e
        rw [fz_str qx, fz_str qy]
        refine ⟨_, _, ?_, .old (.str _)⟩
        simp only [binO, addO]
        rw [if_pos hz]
      · cases e
    · split at e
      · rename_i hz
        cases e
        obtain ⟨xs, rfl, q⟩ := fz_tup qx
        obtain ⟨ys, rfl, q'⟩ := fz_tup qy
        refine ⟨_, _, ?_, .old (.tup (q.append q'))⟩
        simp only [binO, addO]
        rw [if_pos (by rw [q.length, q'.length]; exact hz)]
      · cases e
    · split at e
      · rename_i hz
        cases e
        obtain ⟨l, xs, rfl, _, _, e1, q⟩ := fz_lst qx
        obtain ⟨l', ys, rfl, _, _, e2, q'⟩ := fz_lst qy
        refine ⟨_, _, ?_, .lst (q.append q')⟩
        simp only [binO, addO, e1, e2]
        rw [if_pos (by rw [q.length, q'.length]; exact hz)]
      · cases e
    · cases e
  | sub =>
    unfold binP at e
    simp only at e
    split at e
    · cases e
      rw [fz_int qx, fz_int qy]
      exact ⟨_, _, rfl, .old (.int _)⟩
    · cases e
  | mul =>
    obtain ⟨i, j, rfl, rfl, hc, rfl, rfl⟩ := binI (c := fun i j => mulOk i j = true) (f := fun i j => i * j) e
    rw [fz_int qx, fz_int qy]
    refine ⟨_, _, ?_, .old (.int _)⟩
    simp only [binO]
    rw [if_pos (mulOk_iff.mp hc)]
  | fdiv =>
    obtain ⟨i, j, rfl, rfl, hc, rfl, rfl⟩ := binI (c := fun i j => divOk j = true) (f := fun i j => i.fdiv j) e
    rw [fz_int qx, fz_int qy]
    refine ⟨_, _, ?_, .old (.int _)⟩
    simp only [binO]
    rw [if_pos (divOk_iff.mp hc)]
  | mod =>
    obtain ⟨i, j, rfl, rfl, hc, rfl, rfl⟩ := binI (c := fun i j => j ≠ 0) (f := fun i j => i.fmod j) e
    rw [fz_int qx, fz_int qy]
    refine ⟨_, _, ?_, .old (.int _)⟩
    simp only [binO]
    rw [if_pos hc]
  | pow =>
    obtain ⟨i, j, rfl, rfl, hc, rfl, rfl⟩ := binI (c := fun i j => powOk i j = true) (f := fun i j => i ^ j.toNat) e
    rw [fz_int qx, fz_int qy]
    refine ⟨_, _, ?_, .old (.int _)⟩
    simp only [binO]
    rw [if_pos (powOk_iff.mp hc)]
theorem augP_ok {o : BOp} {x y : MV} {dx dy d : D} (qx : Fz F τ h x dx) (qy : Fz F τ h y dy) (e : augP o dx dy = some d) : ∃ i, d = .int i ∧ augO o x y h = some (.int i, h) := by
  unfold augP at e
  split at e
  · cases e; rw [fz_int qx, fz_int qy]; exact ⟨_, rfl, rfl⟩
  · cases e; rw [fz_int qx, fz_int qy]; exact ⟨_, rfl, rfl⟩
  · split at e
    · rename_i hz
      cases e
      rw [fz_int qx, fz_int qy]
      refine ⟨_, rfl, ?_⟩
      simp only [augO]
      rw [if_pos (mulOk_iff.mp hz)]
    · cases e
  · cases e
theorem slP_ok {x : MV} {d : D} (qx : Fz F τ h x d) (l u : Option Int) : OpOk F τ h (slO x l u h) (slP d l u g) := by
  intro r fr e
  unfold slP at e
  split at e
  · cases e
    obtain ⟨a, xs, rfl, _, _, e1, q⟩ := fz_lst qx
    refine ⟨_, _, by simp only [slO, e1]; rfl, .lst ?_⟩
    unfold cutM cutD
    rw [q.length]
    exact (q.drop _).take _
  · cases e
    obtain ⟨xs, rfl, q⟩ := fz_rol qx
    refine ⟨_, _, by simp only [slO]; rfl, .lst ?_⟩
    unfold cutM cutD
    rw [q.length]
    exact (q.drop _).take _
  · obtain ⟨xs, rfl, q⟩ := fz_tup qx
    split at e
    · cases e
    · rename_i hz
      cases e
      refine ⟨.tup (cutM xs l u), h, ?_, .old (.tup ?_)⟩
      · simp only [slO]
        rw [q.length, if_neg hz]
      · unfold cutM cutD
        rw [q.length]
        exact (q.drop _).take _
  · cases e
theorem tyNm_ok (t : TokR F τ h g) {x : MV} {d : D} {s : String} (q : Fz F τ h x d) (e : tyNmP d g = some s) : tyNmM x h = some s := by
  cases d with
  | non => rw [fz_non q]; exact e
  | bl => rw [fz_bl q]; exact e
  | int => rw [fz_int q]; exact e
  | str => rw [fz_str q]; exact e
  | tup ys => obtain ⟨xs, rfl, q'⟩ := fz_tup q; exact e
  | rol ys => obtain ⟨xs, rfl, q'⟩ := fz_rol q; exact e
  | lst ys =>
    obtain ⟨l, xs, rfl, _, _, e1, q⟩ := fz_lst q
    rw [← e]
    simp only [tyNmM, e1, tyNmP]
  | ins c ns ys => cases e
  | dct _ _ => cases e
  | tok n =>
    obtain ⟨l, rfl, e1⟩ := fz_tok q
    unfold tyNmP at e
    simp only at e
    split at e
    · rename_i ys hy
      obtain ⟨l', xs, e2, e3, q⟩ := t.lst hy
      rw [e1] at e2
      cases e2
      rw [← e]
      simp only [tyNmM, e3]
    · cases e
theorem len_gen {x : MV} (n : ∀ z, x ≠ .str z) : biL .len [x] h = (itemsO x h).map fun xs => (.int xs.length, h) := by
  cases x <;> first | rfl | exact absurd rfl (n _)
theorem tuple_gen {x : MV} (n : ∀ z, x ≠ .tup z) : biL .tuple [x] h = (itemsO x h).map fun xs => (.tup xs, h) := by
  cases x <;> first | rfl | exact absurd rfl (n _)
theorem isInt_ty {x : MV} {s : String} (e : tyNmM x h = some s) : biL .isInt [x] h = some (.bl (s == "int" || s == "bool"), h) := by
  cases x with
  | loc l =>
    simp only [tyNmM] at e
    split at e
    · rename_i xs hx
      cases e
      simp only [biL, hx]
      rfl
    · cases e
  | ty _ => cases e
  | cls _ => cases e
  | _ => cases e; rfl
theorem isBool_ty {x : MV} {s : String} (e : tyNmM x h = some s) : biL .isBool [x] h = some (.bl (s == "bool"), h) := by
  cases x with
  | loc l =>
    simp only [tyNmM] at e
    split at e
    · rename_i xs hx
      cases e
      simp only [biL, hx]
      rfl
    · cases e
  | ty _ => cases e
  | cls _ => cases e
  | _ => cases e; rfl
theorem fz_ns {x : MV} {d : D} (q : Fz F τ h x d) (n : ∀ z, d ≠ .str z) : ∀ z, x ≠ .str z := by
  intro z e
  subst e
  cases q with
  | str => exact n _ rfl
theorem fz_nt {x : MV} {d : D} (q : Fz F τ h x d) (n : ∀ z, d ≠ .tup z) : ∀ z, x ≠ .tup z := by
  intro z e
  subst e
  cases q with
  | tup => exact n _ rfl
theorem lints (t : TokR F τ h g) {x : MV} {d : D} {ns : List Int} (q : Fz F τ h x d) (e : (gList d g).bind intsP = some ns) : (listO x h).bind intsO = some ns := by
  cases e1 : gList d g with
  | none => rw [e1] at e; cases e
  | some ds =>
    rw [e1] at e
    obtain ⟨xs, e2, q2⟩ := list_ok t q e1
    rw [e2]
    exact q2.ints e
theorem lbls (t : TokR F τ h g) {x : MV} {d : D} {ns : List Bool} (q : Fz F τ h x d) (e : (gList d g).bind blsP = some ns) : (listO x h).bind blsO = some ns := by
  cases e1 : gList d g with
  | none => rw [e1] at e; cases e
  | some ds =>
    rw [e1] at e
    obtain ⟨xs, e2, q2⟩ := list_ok t q e1
    rw [e2]
    exact q2.bls e
theorem bL_isList {x : MV} {h : MH} : biL .isList [x] h = (tyNmM x h).map fun t => (.bl (t == "list"), h) := rfl
theorem bL_isTup {x : MV} {h : MH} : biL .isTup [x] h = (tyNmM x h).map fun t => (.bl (t == "tuple"), h) := rfl
theorem bL_isStr {x : MV} {h : MH} : biL .isStr [x] h = (tyNmM x h).map fun t => (.bl (t == "str"), h) := rfl
theorem biPL_ok (t : TokR F τ h g) {b : Bi} {xs : List MV} {ds : List D} (q : Fzs F τ h xs ds) : OpOk F τ h (biL b xs h) (biPL b ds g) := by
  intro d fr e
  have ty : ∀ (f : String → Bool) (x : MV) (dx : D), Fz F τ h x dx → ((tyNmP dx g).map fun s => (D.bl (f s), false)) = some (d, fr) → ∃ s, tyNmM x h = some s ∧ d = .bl (f s) ∧ fr = false := by
    intro f x dx q e
    cases e1 : tyNmP dx g with
    | none => rw [e1] at e; cases e
    | some s =>
      rw [e1] at e
      cases e
      exact ⟨s, tyNm_ok t q e1, rfl, rfl⟩
  unfold biPL at e
  split at e
  · split at e
    · rename_i z hz
      cases e
      cases q with
      | cons a q =>
        cases q
        rw [fz_str a]
        refine ⟨_, _, ?_, .old (.int _)⟩
        simp only [biL]
        rw [if_pos hz]
    · cases e
  · rename_i x hn
    cases q with
    | cons a q =>
      cases q
      rw [len_gen (fz_ns a fun z e => hn z e)]
      cases e1 : gItems x g with
      | none => rw [e1] at e; cases e
      | some ys =>
        rw [e1] at e
        cases e
        obtain ⟨zs, e2, q2⟩ := items_ok t a e1
        rw [e2]
        refine ⟨_, _, rfl, ?_⟩
        rw [q2.length]
        exact .old (.int _)
  · cases e
    cases q with
    | cons a q =>
      cases q with
      | cons b q =>
        cases q
        rw [fz_int a, fz_int b]
        exact ⟨_, _, rfl, .old (.int _)⟩
  · cases e
    cases q with
    | cons a q =>
      cases q with
      | cons b q =>
        cases q
        rw [fz_int a, fz_int b]
        exact ⟨_, _, rfl, .old (.int _)⟩
  · cases e
    cases q with
    | cons a q =>
      cases q
      rw [fz_int a]
      exact ⟨_, _, rfl, .old (.int _)⟩
  · cases e
    cases q with
    | cons a q =>
      cases q
      rw [fz_int a]
      exact ⟨_, _, rfl, .old (.int _)⟩
  · cases e
    cases q with
    | cons a q =>
      cases q
      rw [fz_bl a]
      exact ⟨_, _, rfl, .old (.int _)⟩
  · rename_i x
    cases q with
    | cons a q =>
      cases q
      split at e
      · rename_i ys e1
        cases e
        obtain ⟨zs, e2, q2⟩ := items_ok t a e1
        refine ⟨_, _, ?_, .lst q2⟩
        simp only [biL, e2]
      · cases e
  · cases e
    cases q with
    | cons a q =>
      cases q
      obtain ⟨zs, rfl, q2⟩ := fz_tup a
      exact ⟨_, _, rfl, .old (.tup q2)⟩
  · rename_i x hn
    cases q with
    | cons a q =>
      cases q
      rw [tuple_gen (fz_nt a fun z e => hn z e)]
      cases e1 : gItems x g with
      | none => rw [e1] at e; cases e
      | some ys =>
        rw [e1] at e
        cases e
        obtain ⟨zs, e2, q2⟩ := items_ok t a e1
        rw [e2]
        exact ⟨_, _, rfl, .old (.tup q2)⟩
  · rename_i x
    cases q with
    | cons a q =>
      cases q
      cases e1 : (gList x g).bind intsP with
      | none => rw [e1] at e; cases e
      | some ns =>
        rw [e1] at e
        cases e
        refine ⟨_, _, ?_, .old (.int _)⟩
        simp only [biL]
        rw [lints t a e1]
        rfl
  · cases q with
    | cons a q =>
      cases q
      obtain ⟨s, e1, rfl, rfl⟩ := ty (fun s => s == "int" || s == "bool") _ _ a e
      exact ⟨_, _, isInt_ty e1, .old (.bl _)⟩
  · cases q with
    | cons a q =>
      cases q
      obtain ⟨s, e1, rfl, rfl⟩ := ty (fun s => s == "bool") _ _ a e
      exact ⟨_, _, isBool_ty e1, .old (.bl _)⟩
  · rename_i x
    cases q with
    | cons a q =>
      cases q
      split at e
      · rename_i ns e1
        cases e
        refine ⟨_, _, ?_, .lst fzs_ints⟩
        simp only [biL]
        rw [lints t a e1]
      · cases e
  · rename_i x
    cases q with
    | cons a q =>
      cases q
      cases e1 : (gList x g).bind blsP with
      | none => rw [e1] at e; cases e
      | some ns =>
        rw [e1] at e
        cases e
        refine ⟨_, _, ?_, .old (.bl _)⟩
        simp only [biL]
        rw [lbls t a e1]
        rfl
  · rename_i x
    cases q with
    | cons a q =>
      cases q
      cases e1 : (gList x g).bind blsP with
      | none => rw [e1] at e; cases e
      | some ns =>
        rw [e1] at e
        cases e
        refine ⟨_, _, ?_, .old (.bl _)⟩
        simp only [biL]
        rw [lbls t a e1]
        rfl
  · cases q with
    | cons a q =>
      cases q
      obtain ⟨s, e1, rfl, rfl⟩ := ty (fun s => s == "list") _ _ a e
      exact ⟨_, _, by rw [bL_isList, e1]; rfl, .old (.bl _)⟩
  · cases q with
    | cons a q =>
      cases q
      obtain ⟨s, e1, rfl, rfl⟩ := ty (fun s => s == "tuple") _ _ a e
      exact ⟨_, _, by rw [bL_isTup, e1]; rfl, .old (.bl _)⟩
  · cases q with
    | cons a q =>
      cases q
      obtain ⟨s, e1, rfl, rfl⟩ := ty (fun s => s == "str") _ _ a e
      exact ⟨_, _, by rw [bL_isStr, e1]; rfl, .old (.bl _)⟩
  · rename_i x
    cases q with
    | cons a q =>
      cases q
      split at e
      · rename_i n ns e1
        cases e
        refine ⟨_, _, ?_, .old (.int _)⟩
        simp only [biL]
        rw [lints t a e1]
      · cases e
  · rename_i x
    cases q with
    | cons a q =>
      cases q
      split at e
      · rename_i n ns e1
        cases e
        refine ⟨_, _, ?_, .old (.int _)⟩
        simp only [biL]
        rw [lints t a e1]
      · cases e
  · rename_i x
    cases q with
    | cons a q =>
      cases q
      split at e
      · rename_i ns e1
        split at e
        · rename_i few
          cases e
          refine ⟨_, _, ?_, .lst fzs_ints⟩
          simp only [biL]
          rw [lints t a e1]
          exact if_pos few
        · cases e
      · cases e
  · split at e
    · rename_i hz
      cases e
      cases q with
      | cons a q =>
        cases q with
        | cons b q =>
          cases q
          rw [fz_int a, fz_int b]
          refine ⟨_, _, ?_, .lst fzs_ints⟩
          simp only [biL]
          rw [if_pos hz]
    · cases e
  · cases e
theorem fzs_signs {cs : List Nat} : Fzs F τ h (cs.map fun c => .str ⟨#[c]⟩) (cs.map fun c => .str ⟨#[c]⟩) := by
  induction cs with
  | nil => exact .nil
  | cons c cs ih => exact .cons (.str _) ih
theorem fzs_zip : ∀ {xs ys : List MV} {ds es : List D}, Fzs F τ h xs ds → Fzs F τ h ys es → Fzs F τ h (List.zipWith (fun x y => MV.tup [x, y]) xs ys) (List.zipWith (fun x y => D.tup [x, y]) ds es)
  | _, _, _, _, .nil, _ => by simp; exact .nil
  | _, _, _, _, .cons _ _, .nil => by simp; exact .nil
  | _, _, _, _, .cons a q, .cons b r => by
    rw [List.zipWith_cons_cons, List.zipWith_cons_cons]
    exact .cons (.tup (.cons a (.cons b .nil))) (fzs_zip q r)
/-! ### what a for walks -/
theorem srcP_ok {k : IK} {xs : List MV} {ds r : List D} (q : Fzs F τ h xs ds) (e : srcP k ds = some r) :
    ∃ src ys, srcO k xs h = some src ∧ Fzs F τ h ys r ∧ ((∀ i h2, src i h2 = some ys[i]?) ∨ ∃ l zs, ¬F l ∧ l ∉ τ ∧ h[l]? = some (.lst zs) ∧ ∀ i h2, h2[l]? = some (.lst zs) → src i h2 = some ys[i]?) := by
  unfold srcP at e
  split at e
  · cases e
    cases q with
    | cons a q =>
      cases q
      obtain ⟨zs, rfl, q2⟩ := fz_tup a
      exact ⟨_, zs, rfl, q2, .inl fun _ _ => rfl⟩
  · cases e
    cases q with
    | cons a q =>
      cases q
      obtain ⟨l, zs, rfl, b, c, e1, q2⟩ := fz_lst a
      exact ⟨srcL l, zs, src_l e1, q2, .inr ⟨l, zs, b, c, e1, fun i h2 e2 => by simp only [srcL, e2]⟩⟩
  · cases e
    cases q with
    | cons a q =>
      cases q
      obtain ⟨zs, rfl, q2⟩ := fz_rol a
      exact ⟨_, zs, rfl, q2, .inl fun _ _ => rfl⟩
  · rename_i x
    cases e
    cases q with
    | cons a q =>
      cases q
      rw [fz_str a]
      refine ⟨_, x.cps.toList.map fun c => .str ⟨#[c]⟩, rfl, fzs_signs, .inl fun i _ => ?_⟩
      rw [List.getElem?_map, Array.getElem?_toList]
  · split at e
    · rename_i j hj
      cases e
      cases q with
      | cons a q =>
        cases q
        rw [fz_int a]
        refine ⟨fun i _ => some (if i < j.toNat then some (.int (0 + i)) else none), rngL 0 j.toNat, by simp only [srcO, hj, if_true], ?_, .inl fun i h2 => by simp only [rngL_src]⟩
        unfold rngL
        rw [show (List.map (fun (k : Nat) => MV.int (0 + k)) (List.range j.toNat)) = ((List.range j.toNat).map fun (k : Nat) => (0 + k : Int)).map MV.int by rw [List.map_map]; rfl, show (List.map (fun (k : Nat) => D.int (0 + k)) (List.range j.toNat)) = ((List.range j.toNat).map fun (k : Nat) => (0 + k : Int)).map D.int by rw [List.map_map]; rfl]
        exact fzs_ints
    · cases e
  · cases e
    cases q with
    | cons a q =>
      cases q
      obtain ⟨zs, rfl, q2⟩ := fz_tup a
      exact ⟨_, zs.reverse, rfl, q2.reverse, .inl fun _ _ => rfl⟩
  · cases e
    cases q with
    | cons a q =>
      cases q
      obtain ⟨l, zs, rfl, b, c, e1, q2⟩ := fz_lst a
      refine ⟨srcRev l zs.length, zs.reverse, by simp only [srcO, e1], q2.reverse, .inr ⟨l, zs, b, c, e1, fun i h2 e2 => ?_⟩⟩
      unfold srcRev
      rw [rev_at]
      by_cases hi : i < zs.length
      · rw [if_pos hi, if_pos hi]
        simp only [e2]
        rw [List.getElem?_eq_getElem (show zs.length - 1 - i < zs.length by omega)]
        rfl
      · rw [if_neg hi, if_neg hi]
  · cases e
    cases q with
    | cons a q =>
      cases q
      obtain ⟨zs, rfl, q2⟩ := fz_rol a
      exact ⟨_, zs.reverse, rfl, q2.reverse, .inl fun _ _ => rfl⟩
  · cases e
    cases q with
    | cons a q =>
      cases q with
      | cons b q =>
        cases q
        obtain ⟨zs, rfl, q2⟩ := fz_tup a
        obtain ⟨ws, rfl, q3⟩ := fz_tup b
        exact ⟨_, _, rfl, fzs_zip q2 q3, .inl fun _ _ => rfl⟩
  · split at e
    · rename_i u v hj
      cases e
      cases q with
      | cons a q =>
        cases q with
        | cons b q =>
          cases q
          rw [fz_int a, fz_int b]
          refine ⟨fun i _ => some (if i < (v - u).toNat then some (.int (u + i)) else none), rngL u (v - u).toNat, by simp only [srcO, hj, if_true], ?_, .inl fun i h2 => by simp only [rngL_src]⟩
          unfold rngL
          rw [show (List.map (fun (k : Nat) => MV.int (u + k)) (List.range (v - u).toNat)) = ((List.range (v - u).toNat).map fun (k : Nat) => (u + k : Int)).map MV.int by rw [List.map_map]; rfl, show (List.map (fun (k : Nat) => D.int (u + k)) (List.range (v - u).toNat)) = ((List.range (v - u).toNat).map fun (k : Nat) => (u + k : Int)).map D.int by rw [List.map_map]; rfl]
          exact fzs_ints
    · cases e
  · cases e
theorem biL_bi {b : Bi} {xs : List MV} {r : MV × MH} (e : biL b xs h = some r) : biO b xs h = some r := by
  cases b <;> first | exact e | (unfold biO; simp only; rw [e]; rfl)
theorem fzs_keys : ∀ {ks : List L2.Key}, Fzs F τ h (ks.map keyM) (ks.map keyD)
  | [] => .nil
  | .inl i :: ks => .cons (.int i) fzs_keys
  | .inr i :: ks => .cons (.str i) fzs_keys
theorem biP_ok (t : TokR F τ h g) {b : Bi} {xs : List MV} {ds : List D} (q : Fzs F τ h xs ds) : OpOk F τ h (biO b xs h) (biP b ds g) := by
  intro d fr e
  unfold biP at e
  split at e
  · cases e
    cases q with
    | cons a q =>
      cases q
      obtain ⟨l, ys, rfl, _, _, e1, _⟩ := fz_dct a
      refine ⟨_, _, ?_, .old (.int _)⟩
      show (biL .len [.loc l] h).or (biD .len [.loc l] h) = _
      have e2 : biL .len [.loc l] h = none := by simp only [biL, itemsO, e1, Option.map_none]
      rw [e2, Option.none_or]
      unfold biD
      simp only [dctO_of e1, Option.map_some]
  · cases e
    cases q with
    | cons a q =>
      cases q
      obtain ⟨l, ys, rfl, _, _, e1, _⟩ := fz_dct a
      refine ⟨_, _, ?_, .lst fzs_keys⟩
      show (biL .list [.loc l] h).or (biD .list [.loc l] h) = _
      have e2 : biL .list [.loc l] h = none := by simp only [biL, itemsO, e1]
      rw [e2, Option.none_or]
      unfold biD
      simp only [dctO_of e1, Option.map_some]
  · rename_i ks ys
    cases e3 : keyIs ks with
    | none => rw [e3] at e; cases e
    | some ns =>
      rw [e3, Option.map_some] at e
      cases e
      cases q with
      | cons a q =>
        cases q
        obtain ⟨l, ys, rfl, _, _, e1, _⟩ := fz_dct a
        refine ⟨_, _, ?_, .lst fzs_ints⟩
        show (biL .sorted [.loc l] h).or (biD .sorted [.loc l] h) = _
        have e2 : biL .sorted [.loc l] h = none := by simp only [biL, listO, e1, Option.bind_none]
        rw [e2, Option.none_or]
        unfold biD
        simp only [dctO_of e1, Option.bind_some, e3, Option.map_some]
  · obtain ⟨v, h', e1, n⟩ := biPL_ok t q d fr e
    exact ⟨v, h', biL_bi e1, n⟩
end
end MQ
end
section
set_option Elab.async false
set_option linter.all false
set_option maxRecDepth 100000
set_option maxHeartbeats 4000000
/-! MQ, part c: the slots; expressions over plain data do what the small language does. -/
namespace MQ
open PySem MP
def OwnAt (p : PEn) (e : En) (i l : Nat) : Prop := (ownP p i).isSome = true ∧ envGet e i = some (.loc l)
/-- forbidden: F, and what slots other than ls own -/
def FX (F : Nat → Prop) (p : PEn) (e : En) (ls : List Nat) (l : Nat) : Prop := F l ∨ ∃ j, j ∉ ls ∧ OwnAt p e j l
abbrev FL (F : Nat → Prop) (p : PEn) (e : En) : Nat → Prop := FX F p e []
structure EnR (n0 : Nat) (F : Nat → Prop) (τ : List Nat) (h : MH) (p : PEn) (e : En) : Prop where
  len : p.length = e.length
  fz : ∀ i d, getP p i = some d → ownP p i = none → ∃ v, envGet e i = some v ∧ Fz (FL F p e) τ h v d
  ow : ∀ i d, ownP p i = some d → ∃ l o, envGet e i = some (.loc l) ∧ n0 ≤ l ∧ l ∉ τ ∧ h[l]? = some o ∧ Ob (FL F p e) τ h o d
  inj : ∀ i j l, OwnAt p e i l → OwnAt p e j l → i = j
structure Ctx (n0 : Nat) (F Φ : Nat → Prop) (p : PEn) (e : En) (τ : List Nat) (h : MH) (g : GS) : Prop where
  bF : ∀ l, F l → l < n0
  FΦ : ∀ l, F l → Φ l
  bΦ : ∀ l, Φ l → l < h.length
  hn : n0 ≤ h.length
  en : EnR n0 F τ h p e
  tk : TokR (FL Φ p e) τ h g
/-! ### slots -/
theorem getP_nil {i : Nat} : getP [] i = none := rfl
theorem ownP_get : ∀ {p : PEn} {i : Nat} {d : D}, ownP p i = some d → getP p i = some d
  | some (d, true) :: _, 0, _, e => e
  | some (d, false) :: _, 0, _, e => by cases e
  | none :: _, 0, _, e => by cases e
  | none :: r, n + 1, _, e => ownP_get (p := r) e
  | some (_, true) :: r, n + 1, _, e => ownP_get (p := r) e
  | some (_, false) :: r, n + 1, _, e => ownP_get (p := r) e
theorem ownP_s {x : Option (D × Bool)} {r : PEn} {n : Nat} : ownP (x :: r) (n + 1) = ownP r n := by
  rcases x with _ | ⟨d, _ | _⟩ <;> rfl
theorem getP_s {x : Option (D × Bool)} {r : PEn} {n : Nat} : getP (x :: r) (n + 1) = getP r n := by
  rcases x with _ | ⟨d, b⟩ <;> rfl
theorem getP_set : ∀ {p : PEn} {i j : Nat} {x : Option (D × Bool)}, getP (p.set i x) j = if i = j then (if i < p.length then x.map (·.1) else none) else getP p j
  | [], i, j, x => by
    simp
    intro _
    rfl
  | y :: r, 0, 0, x => by rcases x with _ | ⟨d, b⟩ <;> simp [getP]
  | y :: r, 0, j + 1, x => by simp [getP_s]
  | y :: r, i + 1, 0, x => by
    rw [List.set_cons_succ, if_neg (by omega)]
    rcases y with _ | ⟨d, b⟩ <;> rfl
  | y :: r, i + 1, j + 1, x => by
    rw [List.set_cons_succ, getP_s, getP_s, getP_set]
    simp
theorem ownP_set : ∀ {p : PEn} {i j : Nat} {x : Option (D × Bool)}, ownP (p.set i x) j = if i = j then (if i < p.length then (match x with | some (d, true) => some d | _ => none) else none) else ownP p j
  | [], i, j, x => by
    simp
    intro _
    rfl
  | y :: r, 0, 0, x => by rcases x with _ | ⟨d, _ | _⟩ <;> simp [ownP]
  | y :: r, 0, j + 1, x => by simp [ownP_s]
  | y :: r, i + 1, 0, x => by
    rw [List.set_cons_succ, if_neg (by omega)]
    rcases y with _ | ⟨d, _ | _⟩ <;> rfl
  | y :: r, i + 1, j + 1, x => by
    rw [List.set_cons_succ, ownP_s, ownP_s, ownP_set]
    simp
theorem getP_frz1 : ∀ {p : PEn} {i j : Nat}, getP (frz1 i p) j = getP p j
  | [], i, j => by cases i <;> rfl
  | x :: r, 0, 0 => by rcases x with _ | ⟨d, b⟩ <;> rfl
  | x :: r, 0, j + 1 => by rw [frz1, getP_s, getP_s]
  | x :: r, i + 1, 0 => by rcases x with _ | ⟨d, b⟩ <;> rfl
  | x :: r, i + 1, j + 1 => by rw [frz1, getP_s, getP_s, getP_frz1]
theorem ownP_frz1 : ∀ {p : PEn} {i j : Nat}, ownP (frz1 i p) j = if i = j then none else ownP p j
  | [], i, j => by
    have : frz1 i ([] : PEn) = [] := by cases i <;> rfl
    rw [this]
    split <;> rfl
  | x :: r, 0, 0 => by rcases x with _ | ⟨d, b⟩ <;> rfl
  | x :: r, 0, j + 1 => by rw [frz1, ownP_s, ownP_s]; simp
  | x :: r, i + 1, 0 => by rcases x with _ | ⟨d, _ | _⟩ <;> rfl
  | x :: r, i + 1, j + 1 => by rw [frz1, ownP_s, ownP_s, ownP_frz1]; simp
theorem frz1_len : ∀ {p : PEn} {i : Nat}, (frz1 i p).length = p.length
  | [], i => by cases i <;> rfl
  | x :: r, 0 => rfl
  | x :: r, i + 1 => by rw [frz1, List.length_cons, frz1_len, List.length_cons]
theorem getP_frz : ∀ {ls : List Nat} {p : PEn} {j : Nat}, getP (frzP ls p) j = getP p j
  | [], _, _ => rfl
  | i :: ls, p, j => by rw [frzP, getP_frz, getP_frz1]
theorem ownP_frz : ∀ {ls : List Nat} {p : PEn} {j : Nat}, ownP (frzP ls p) j = if j ∈ ls then none else ownP p j
  | [], _, _ => by simp [frzP]
  | i :: ls, p, j => by
    rw [frzP, ownP_frz, ownP_frz1]
    by_cases h1 : j ∈ ls
    · simp [h1]
    · by_cases h2 : i = j
      · subst h2; simp
      · rw [if_neg h1, if_neg h2, if_neg]
        intro m
        rcases List.mem_cons.mp m with m | m
        · exact h2 m.symm
        · exact h1 m
theorem frz_len : ∀ {ls : List Nat} {p : PEn}, (frzP ls p).length = p.length
  | [], _ => rfl
  | i :: ls, p => by rw [frzP, frz_len, frz1_len]
theorem envGet_set : ∀ {e : En} {i j : Nat} {x : Option MV}, envGet (e.set i x) j = if i = j then (if i < e.length then x else none) else envGet e j
  | [], i, j, x => by
    simp
    intro _
    rfl
  | y :: r, 0, 0, x => by cases x <;> simp [envGet]
  | y :: r, 0, j + 1, x => by simp
  | y :: r, i + 1, 0, x => by
    rw [List.set_cons_succ, if_neg (by omega)]
    cases y <;> rfl
  | y :: r, i + 1, j + 1, x => by
    rw [List.set_cons_succ, envGet_s, envGet_s, envGet_set]
    simp
theorem getP_lt : ∀ {p : PEn} {i : Nat} {d : D}, getP p i = some d → i < p.length
  | [], _, _, e => by cases e
  | x :: r, 0, _, _ => by simp
  | x :: r, i + 1, _, e => by
    rw [getP_s] at e
    have := getP_lt e
    simp
    omega
section
variable {n0 n : Nat} {F F' Φ Φ' S : Nat → Prop} {p p' : PEn} {e e' : En} {τ τ' τ1 : List Nat} {h h' h1 : MH} {g g' : GS} {ls ls' : List Nat}
theorem FX.mono {l : Nat} (hs : ∀ i, i ∈ ls' → i ∈ ls) (x : FX F p e ls l) : FX F p e ls' l := by
  rcases x with x | ⟨j, hj, o⟩
  · exact .inl x
  · exact .inr ⟨j, fun m => hj (hs j m), o⟩
theorem OwnAt.lt (r : EnR n0 F τ h p e) {i l : Nat} (o : OwnAt p e i l) : l < h.length ∧ n0 ≤ l ∧ l ∉ τ := by
  obtain ⟨o1, o2⟩ := o
  cases q : ownP p i with
  | none => rw [q] at o1; cases o1
  | some d =>
    obtain ⟨l', o, a, b, c, f, _⟩ := r.ow i d q
    rw [o2] at a
    cases a
    exact ⟨lt_of_get f, b, c⟩
theorem Ctx.bX (c : Ctx n0 F Φ p e τ h g) {l : Nat} (x : FX F p e ls l) : l < h.length := by
  rcases x with x | ⟨j, _, o⟩
  · exact Nat.lt_of_lt_of_le (c.bF l x) c.hn
  · exact (OwnAt.lt c.en o).1
theorem Ctx.bL (c : Ctx n0 F Φ p e τ h g) {l : Nat} (x : FX Φ p e ls l) : l < h.length := by
  rcases x with x | ⟨j, _, o⟩
  · exact c.bΦ l x
  · exact (OwnAt.lt c.en o).1
/-- a slot is read -/
theorem EnR.get (r : EnR n0 F τ h p e) (bF : ∀ l, F l → l < n0) {i : Nat} {d : D} (q : getP p i = some d) : ∃ v, envGet e i = some v ∧ Fz (FX F p e [i]) τ h v d := by
  cases ho : ownP p i with
  | none =>
    obtain ⟨v, a, b⟩ := r.fz i d q ho
    exact ⟨v, a, b.sub fun l x => x.mono (by simp)⟩
  | some d' =>
    have : d' = d := by
      rw [ownP_get ho] at q
      exact Option.some.inj q
    subst this
    obtain ⟨l, o, a, b, c, f, k⟩ := r.ow i _ ho
    refine ⟨_, a, .loc (fun x => ?_) c f (k.sub fun l x => x.mono (by simp))⟩
    rcases x with x | ⟨j, hj, x⟩
    · have := bF l x; omega
    · have := r.inj i j l ⟨by rw [ho]; rfl, a⟩ x
      subst this
      exact hj (List.mem_singleton.mpr rfl)
theorem EnR.ev {M : Nat → Prop} (r : EnR n0 F τ h p e) (x : Ev M τ h τ' h') (hM : ∀ l, l < h.length → ¬M l) : EnR n0 F τ' h' p e := by
  refine ⟨r.len, fun i d a b => ?_, fun i d a => ?_, r.inj⟩
  · obtain ⟨v, c, q⟩ := r.fz i d a b
    exact ⟨v, c, q.ev x fun l hl z => absurd z (hM l hl)⟩
  · obtain ⟨l, o, b, c, f, k, q⟩ := r.ow i d a
    exact ⟨l, o, b, c, x.old (lt_of_get k) f, by rw [x.fr l (lt_of_get k) f (hM l (lt_of_get k))]; exact k, q.ev x fun l hl z => absurd z (hM l hl)⟩
abbrev NoM : Nat → Prop := fun _ => False
theorem Ctx.ev (c : Ctx n0 F Φ p e τ h g) (x : Ev NoM τ h τ' h') (t : TokR (FL Φ p e) τ' h' g') : Ctx n0 F Φ p e τ' h' g' :=
  ⟨c.bF, c.FΦ, fun l z => Nat.lt_of_lt_of_le (c.bΦ l z) x.len, Nat.le_trans c.hn x.len, c.en.ev x fun _ _ z => z, t⟩
/-! ### results -/
def PXR (F : Nat → Prop) (τ : List Nat) (h : MH) (x : PX) (x' : Exn) : Prop := x.c = x'.c ∧ x.fs.map (·.1) = x'.fs.map (·.1) ∧ Fzs F τ h (x'.fs.map (·.2)) (x.fs.map (·.2)) ∧ Ds.im (x.fs.map (·.2)) = true
def RO {α β : Type} (S : Nat → Prop) (τ : List Nat) (h : MH) (T : α → β → Nat → Prop) (R : List Nat → MH → α → β → Prop) (r : PR α) (m : Res β) : Prop := match r with
  | .ok a g' => ∃ b h' τ', m = .ok b h' ∧ Ev NoM τ h τ' h' ∧ TokR (fun x => S x ∨ T a b x) τ' h' g' ∧ R τ' h' a b
  | .exc x g' => ∃ x' h' τ', m = .exc x' h' ∧ Ev NoM τ h τ' h' ∧ TokR S τ' h' g' ∧ PXR S τ' h' x x'
  | .bad => True
abbrev NoT {α β : Type} : α → β → Nat → Prop := fun _ _ _ => False
def VR (F : Nat → Prop) (τ : List Nat) (h : MH) (n : Nat) (v : MV) (d : D) (fr : Bool) : Prop :=
  (fr = false ∧ Fz F τ h v d) ∨ (fr = true ∧ ∃ l o, v = .loc l ∧ n ≤ l ∧ l ∉ τ ∧ h[l]? = some o ∧ Ob (fun x => F x ∨ x = l) τ h o d)
abbrev TV : D × Bool → MV → Nat → Prop := fun a v x => a.2 = true ∧ v = .loc x
abbrev RV (F : Nat → Prop) (n : Nat) : List Nat → MH → D × Bool → MV → Prop := fun τ h a v => VR F τ h n v a.1 a.2
abbrev RF (F : Nat → Prop) : List Nat → MH → D × Bool → MV → Prop := fun τ h a v => Fz F τ h v a.1
abbrev RFs (F : Nat → Prop) : List Nat → MH → List D → List MV → Prop := fun τ h a v => Fzs F τ h v a
abbrev RBl : List Nat → MH → Bool → Bool → Prop := fun _ _ a b => a = b
theorem VR.fz {v : MV} {d : D} {fr : Bool} (q : VR F τ h n v d fr) (hb : ∀ l, F l → l < n) : Fz F τ h v d := by
  rcases q with ⟨_, q⟩ | ⟨_, l, o, rfl, a, b, c, q⟩
  · exact q
  · exact .loc (fun z => by have := hb l z; omega) b c (q.sub fun _ z => .inl z)
variable {α β γ δ : Type} {T : α → β → Nat → Prop} {R : List Nat → MH → α → β → Prop} {T2 : γ → δ → Nat → Prop} {R2 : List Nat → MH → γ → δ → Prop}
theorem RO.bind {r : PR α} {m : Res β} {f : α → GS → PR γ} {f' : β → MH → Res δ} (q : RO S τ h T R r m)
    (k : ∀ a b g' h' τ', Ev NoM τ h τ' h' → TokR (fun x => S x ∨ T a b x) τ' h' g' → R τ' h' a b → RO S τ' h' T2 R2 (f a g') (f' b h')) : RO S τ h T2 R2 (r.bind f) (m.bind f') := by
  cases r with
  | bad => trivial
  | exc x g' =>
    obtain ⟨x', h', τ', rfl, a, b, c⟩ := q
    exact ⟨x', h', τ', rfl, a, b, c⟩
  | ok a g' =>
    obtain ⟨b, h', τ', rfl, x, t, r⟩ := q
    have w := k a b g' h' τ' x t r
    show RO S τ h T2 R2 (f a g') (f' b h')
    cases e : f a g' with
    | bad => trivial
    | exc y g2 =>
      rw [e] at w
      obtain ⟨x', h2, τ2, e2, y2, z⟩ := w
      exact ⟨x', h2, τ2, e2, x.trans y2, z⟩
    | ok c g2 =>
      rw [e] at w
      obtain ⟨d, h2, τ2, e2, y2, z⟩ := w
      exact ⟨d, h2, τ2, e2, x.trans y2, z⟩
theorem RO.imp {R' : List Nat → MH → α → β → Prop} {T' : α → β → Nat → Prop} {r : PR α} {m : Res β} (q : RO S τ h T R r m) (hT : ∀ a b x, T' a b x → T a b x) (k : ∀ τ' h' a b, R τ' h' a b → R' τ' h' a b) : RO S τ h T' R' r m := by
  cases r with
  | bad => trivial
  | exc x g' => exact q
  | ok a g' =>
    obtain ⟨b, h', τ', rfl, x, t, r⟩ := q
    exact ⟨b, h', τ', rfl, x, t.sub' fun l _ z => z.imp id (hT a b l), k _ _ _ _ r⟩
theorem RO.ok {a : α} {b : β} (t : TokR S τ h g) (r : R τ h a b) : RO S τ h NoT R (.ok a g) (.ok b h) :=
  ⟨b, h, τ, rfl, .refl, t.sub' fun l _ z => z.elim id False.elim, r⟩
theorem RO.val {d : D} {v : MV} (t : TokR S τ h g) (r : Fz F τ h v d) : RO S τ h TV (RV F n) (.ok (d, false) g) (.ok v h) :=
  ⟨v, h, τ, rfl, .refl, t.sub' fun l _ z => z.elim id fun z => Bool.noConfusion z.1, .inl ⟨rfl, r⟩⟩
theorem RO.fin (t : TokR S τ h g) (hn : n ≤ h.length) {r : Option (MV × MH)} {q : OD} (k : OpOk F τ h r q) : RO S τ h TV (RV F n) (oQ g q) (oP r) := by
  cases q with
  | none => trivial
  | some a =>
    obtain ⟨d, fr⟩ := a
    obtain ⟨v, h', rfl, w⟩ := k d fr rfl
    rcases w with ⟨rfl, rfl, w⟩ | ⟨rfl, o, rfl, rfl, w⟩
    · exact RO.val t w
    · refine ⟨.loc h.length, h ++ [o], τ, rfl, .add, ?_, .inr ⟨rfl, h.length, o, rfl, hn, fun m => absurd (t.lt m) (by omega), by simp, (w.sub' (F' := fun x => F x ∨ x = h.length) fun l hl z => z.elim id fun z => by omega).ev (M := NoM) .add fun _ _ z => z.elim⟩⟩
      refine (t.sub' (F' := fun x => S x ∨ x = h.length) fun l hl z => ?_).add.sub' fun l _ z => ?_
      · rcases z with z | z
        · exact z
        · omega
      · rcases z with z | ⟨_, z⟩
        · exact .inl z
        · cases z; exact .inr rfl
theorem RO.bool {k : Option Bool} {k' : Option Bool} (t : TokR S τ h g) (q : ∀ b, k = some b → k' = some b) : RO S τ h NoT RBl (oQ g k) (oR h k') := by
  cases k with
  | none => trivial
  | some b =>
    rw [q b rfl]
    exact RO.ok t rfl
/-! ### calls -/
def CallOk (C : Cl) (PC : PCl) : Prop := ∀ (f : Nat) (F Φ : Nat → Prop) (τ : List Nat) (h : MH) (g : GS) (vs : List MV) (ds : List D), (∀ l, F l → Φ l) → (∀ l, Φ l → l < h.length) → TokR Φ τ h g → Fzs F τ h vs ds → RO Φ τ h TV (RV F h.length) (PC f ds g) (C f vs h)
def EOk (C : Cl) (PC : PCl) (a : E) : Prop := ∀ (n0 : Nat) (F Φ : Nat → Prop) (p : PEn) (e : En) (τ : List Nat) (h : MH) (g : GS), Ctx n0 F Φ p e τ h g → RO (FL Φ p e) τ h TV (RV (FX F p e (leak a)) h.length) (pE PC a p g) (E.den C a e h)
def EsOk (C : Cl) (PC : PCl) (es : List E) : Prop := ∀ (n0 : Nat) (F Φ : Nat → Prop) (p : PEn) (e : En) (τ : List Nat) (h : MH) (g : GS), Ctx n0 F Φ p e τ h g → RO (FL Φ p e) τ h NoT (RFs (FX F p e (leaks es))) (pEs PC es p g) (Es.den C es e h)
def EoOk (C : Cl) (PC : PCl) (a : Option E) : Prop := ∀ (n0 : Nat) (F Φ : Nat → Prop) (p : PEn) (e : En) (τ : List Nat) (h : MH) (g : GS), Ctx n0 F Φ p e τ h g → RO (FL Φ p e) τ h NoT (fun _ _ a b => a = b) (pEo PC a p g) (Eo.den C a e h)
variable {C : Cl} {PC : PCl} {a b c : E} {es : List E}
theorem noT {s : TokR (fun x => S x ∨ NoT (α := α) (β := β) A B x) τ h g} : TokR S τ h g := s.sub' fun l _ z => .inl z
theorem EOk.fz (q : EOk C PC a) (x : Ctx n0 F Φ p e τ h g) (hs : ∀ i, i ∈ leak a → i ∈ ls) : RO (FL Φ p e) τ h NoT (RF (FX F p e ls)) (pE PC a p g) (E.den C a e h) :=
  (q n0 F Φ p e τ h g x).imp (fun _ _ _ z => z.elim) fun τ' h' a b r => (r.fz fun l z => x.bX z).sub fun l z => z.mono hs
theorem EsOk.fz (q : EsOk C PC es) (x : Ctx n0 F Φ p e τ h g) (hs : ∀ i, i ∈ leaks es → i ∈ ls) : RO (FL Φ p e) τ h NoT (RFs (FX F p e ls)) (pEs PC es p g) (Es.den C es e h) :=
  (q n0 F Φ p e τ h g x).imp (fun _ _ _ z => z.elim) fun τ' h' a b r => r.sub fun l z => z.mono hs
theorem tok_sub (x : Ctx n0 F Φ p e τ h g) (t : TokR (FL Φ p e) τ' h' g') : TokR (FX F p e ls) τ' h' g' := t.sub' fun l _ z => by
  rcases z with z | ⟨j, _, o⟩
  · exact .inl (x.FΦ l z)
  · exact .inr ⟨j, by simp, o⟩
theorem EOk.tst (q : EOk C PC a) (x : Ctx n0 F Φ p e τ h g) : RO (FL Φ p e) τ h NoT RBl (pT PC a p g) (E.tst C a e h) := by
  refine (q.fz x fun i z => z).bind fun u v g' h' τ' ev t r => ?_
  have t := t.sub' (F' := FL Φ p e) fun _ _ z => .inl z
  exact RO.bool t fun k z => truP_ok (tok_sub x t) r z
end
end MQ
end
section
set_option Elab.async false
set_option linter.all false
set_option maxRecDepth 100000
set_option maxHeartbeats 4000000
/-! MQ, part d: expressions. -/
namespace MQ
open PySem MP
section
variable {n0 n : Nat} {F F' Φ Φ' S : Nat → Prop} {p p' : PEn} {e e' : En} {τ τ' τ1 : List Nat} {h h' h1 : MH} {g g' : GS} {ls ls' : List Nat}
/-! ### stores into slots -/
theorem own_set {i j l : Nat} {d : D} {v : MV} (o : OwnAt (p.set i (some (d, false))) (e.set i (some v)) j l) : j ≠ i ∧ OwnAt p e j l := by
  obtain ⟨a, b⟩ := o
  rw [ownP_set] at a
  rw [envGet_set] at b
  by_cases q : i = j
  · rw [if_pos q] at a
    split at a <;> cases a
  · rw [if_neg q] at a b
    exact ⟨fun z => q z.symm, a, b⟩
theorem own_set' {i j l : Nat} {x : Option (D × Bool)} {y : Option MV} (hj : j ≠ i) (o : OwnAt p e j l) : OwnAt (p.set i x) (e.set i y) j l := by
  obtain ⟨a, b⟩ := o
  refine ⟨?_, ?_⟩
  · rw [ownP_set, if_neg fun z => hj z.symm]; exact a
  · rw [envGet_set, if_neg fun z => hj z.symm]; exact b
theorem EnR.setFz (r : EnR n0 F τ h p e) {i : Nat} {d : D} {v : MV} (q : Fz (FL F p e) τ h v d) : EnR n0 F τ h (p.set i (some (d, false))) (e.set i (some v)) := by
  have sub : ∀ l, FL F (p.set i (some (d, false))) (e.set i (some v)) l → FL F p e l := fun l x => by
    rcases x with x | ⟨j, hj, o⟩
    · exact .inl x
    · exact .inr ⟨j, hj, (own_set o).2⟩
  refine ⟨by simp [r.len], fun j u a b => ?_, fun j u a => ?_, fun j k l a b => r.inj j k l (own_set a).2 (own_set b).2⟩
  · rw [getP_set] at a
    rw [ownP_set] at b
    rw [envGet_set]
    by_cases hq : i = j
    · rw [if_pos hq] at a ⊢
      by_cases hl : i < p.length
      · rw [if_pos hl] at a
        cases a
        rw [if_pos (by rw [← r.len]; exact hl)]
        exact ⟨v, rfl, q.sub sub⟩
      · rw [if_neg hl] at a
        cases a
    · rw [if_neg hq] at a b ⊢
      obtain ⟨w, c, z⟩ := r.fz j u a b
      exact ⟨w, c, z.sub sub⟩
  · rw [ownP_set] at a
    by_cases hq : i = j
    · rw [if_pos hq] at a
      split at a <;> cases a
    · rw [if_neg hq] at a
      obtain ⟨l, o, b, c, f, k, z⟩ := r.ow j u a
      exact ⟨l, o, by rw [envGet_set, if_neg hq]; exact b, c, f, k, z.sub sub⟩
theorem own_setN {i j l : Nat} {y : Option MV} (o : OwnAt (p.set i none) (e.set i y) j l) : j ≠ i ∧ OwnAt p e j l := by
  obtain ⟨a, b⟩ := o
  rw [ownP_set] at a
  rw [envGet_set] at b
  by_cases q : i = j
  · rw [if_pos q] at a
    split at a <;> cases a
  · rw [if_neg q] at a b
    exact ⟨fun z => q z.symm, a, b⟩
theorem EnR.setN (r : EnR n0 F τ h p e) {i : Nat} {y : Option MV} : EnR n0 F τ h (p.set i none) (e.set i y) := by
  have sub : ∀ l, FL F (p.set i none) (e.set i y) l → FL F p e l := fun l x => by
    rcases x with x | ⟨j, hj, o⟩
    · exact .inl x
    · exact .inr ⟨j, hj, (own_setN o).2⟩
  refine ⟨by simp [r.len], fun j u a b => ?_, fun j u a => ?_, fun j k l a b => r.inj j k l (own_setN a).2 (own_setN b).2⟩
  · rw [getP_set] at a
    rw [ownP_set] at b
    rw [envGet_set]
    by_cases hq : i = j
    · rw [if_pos hq] at a
      split at a <;> cases a
    · rw [if_neg hq] at a b ⊢
      obtain ⟨w, c, z⟩ := r.fz j u a b
      exact ⟨w, c, z.sub sub⟩
  · rw [ownP_set] at a
    by_cases hq : i = j
    · rw [if_pos hq] at a
      split at a <;> cases a
    · rw [if_neg hq] at a
      obtain ⟨l, o, b, c, f, k, z⟩ := r.ow j u a
      exact ⟨l, o, by rw [envGet_set, if_neg hq]; exact b, c, f, k, z.sub sub⟩
theorem EnR.wipe (r : EnR n0 F τ h p e) : ∀ ws : List Nat, EnR n0 F τ h (wipeP p ws) (wipeM e ws) ∧ (∀ j l, OwnAt (wipeP p ws) (wipeM e ws) j l → OwnAt p e j l) ∧ (∀ j l, j ∉ ws → OwnAt p e j l → OwnAt (wipeP p ws) (wipeM e ws) j l)
  | [] => ⟨r, fun _ _ o => o, fun _ _ _ o => o⟩
  | w :: ws => by
    obtain ⟨a, b, c⟩ := EnR.wipe r ws
    refine ⟨a.setN, fun j l o => b j l (own_setN o).2, fun j l m o => own_set' (fun z => m (by rw [z]; exact List.mem_cons_self)) (c j l (fun z => m (List.mem_cons_of_mem _ z)) o)⟩
theorem EnR.frz (r : EnR n0 F τ h p e) (bF : ∀ l, F l → l < n0) (ls : List Nat) : EnR n0 F τ h (frzP ls p) e ∧ (∀ j l, OwnAt (frzP ls p) e j l → j ∉ ls ∧ OwnAt p e j l) ∧ (∀ j l, j ∉ ls → OwnAt p e j l → OwnAt (frzP ls p) e j l) := by
  have o1 : ∀ j l, OwnAt (frzP ls p) e j l → j ∉ ls ∧ OwnAt p e j l := fun j l o => by
    obtain ⟨a, b⟩ := o
    rw [ownP_frz] at a
    by_cases hj : j ∈ ls
    · rw [if_pos hj] at a; cases a
    · rw [if_neg hj] at a
      exact ⟨hj, a, b⟩
  have sub : ∀ l, FL F (frzP ls p) e l → FL F p e l := fun l x => by
    rcases x with x | ⟨j, hj, o⟩
    · exact .inl x
    · exact .inr ⟨j, hj, (o1 j l o).2⟩
  refine ⟨⟨by rw [frz_len]; exact r.len, fun i d a b => ?_, fun i d a => ?_, fun i j l a b => r.inj i j l (o1 i l a).2 (o1 j l b).2⟩, o1, fun j l hj o => ⟨by rw [ownP_frz, if_neg hj]; exact o.1, o.2⟩⟩
  · rw [getP_frz] at a
    rw [ownP_frz] at b
    by_cases hj : i ∈ ls
    · obtain ⟨v, c, q⟩ := r.get bF a
      refine ⟨v, c, q.sub fun l x => ?_⟩
      rcases x with x | ⟨j, _, o⟩
      · exact .inl x
      · obtain ⟨m, o⟩ := o1 j l o
        exact .inr ⟨j, fun z => m (by rw [List.mem_singleton.mp z]; exact hj), o⟩
    · rw [if_neg hj] at b
      obtain ⟨v, c, q⟩ := r.fz i d a b
      exact ⟨v, c, q.sub sub⟩
  · rw [ownP_frz] at a
    by_cases hj : i ∈ ls
    · rw [if_pos hj] at a; cases a
    · rw [if_neg hj] at a
      obtain ⟨l, o, b, c, f, k, z⟩ := r.ow i d a
      exact ⟨l, o, b, c, f, k, z.sub sub⟩
theorem EnR.lock (r : EnR n0 F τ h p e) (bF : ∀ l, F l → l < n0) {xs : List D} {ys : List MV} (q : Fzs (FX F p e ls) τ h ys xs) :
    EnR n0 F τ h (lockP xs ls p) e ∧ (∀ j l, OwnAt (lockP xs ls p) e j l → OwnAt p e j l) ∧ (∀ j l, j ∉ ls → OwnAt p e j l → OwnAt (lockP xs ls p) e j l) ∧
      (Ds.im xs = true ∨ ∀ l, FL F (lockP xs ls p) e l → FX F p e ls l) := by
  unfold lockP
  by_cases hi : Ds.im xs = true
  · rw [if_pos hi]
    exact ⟨r, fun _ _ o => o, fun _ _ _ o => o, .inl hi⟩
  · rw [if_neg hi]
    obtain ⟨a, b, c⟩ := r.frz bF ls
    refine ⟨a, fun j l o => (b j l o).2, c, .inr fun l x => ?_⟩
    rcases x with x | ⟨j, _, o⟩
    · exact .inl x
    · exact .inr ⟨j, (b j l o).1, (b j l o).2⟩
theorem sets_ok : ∀ {is : List Nat} {ds : List D} {vs : List MV} {p p' : PEn} {e : En}, EnR n0 F τ h p e → Fzs (FL F p e) τ h vs ds → setsP is ds p = some p' → ∃ e', tgSets is vs e = some e' ∧ EnR n0 F τ h p' e' ∧ (∀ j l, OwnAt p' e' j l → OwnAt p e j l) ∧ (∀ j l, j ∉ is → OwnAt p e j l → OwnAt p' e' j l)
  | [], [], _, p, _, e, r, .nil, hp => by
    cases hp
    exact ⟨e, rfl, r, fun _ _ o => o, fun _ _ _ o => o⟩
  | [], _ :: _, _, _, _, _, _, _, hp => by cases hp
  | i :: is, [], _, _, _, _, _, _, hp => by cases hp
  | i :: is, d :: ds, _, p, p', e, r, .cons (x := v) (xs := vs) a b, hp => by
    have q := r.setFz (i := i) a
    obtain ⟨e', c, f, k, m⟩ := sets_ok (is := is) (ds := ds) q (b.sub fun l x => by
      rcases x with x | ⟨j, hj, o⟩
      · exact .inl x
      · exact .inr ⟨j, hj, (own_set o).2⟩) hp
    exact ⟨e', c, f, fun j l o => (own_set (k j l o)).2, fun j l hj o => m j l (fun z => hj (List.mem_cons_of_mem _ z)) (own_set' (fun z => hj (by rw [z]; exact List.mem_cons_self)) o)⟩
theorem tset_ok {t : Tg} {d : D} {v : MV} (r : EnR n0 F τ h p e) (q : Fz (FL F p e) τ h v d) (hp : tsetP t d p = some p') : ∃ e', t.set v e = some e' ∧ EnR n0 F τ h p' e' ∧ (∀ j l, OwnAt p' e' j l → OwnAt p e j l) ∧ (∀ j l, j ∉ tslots t → OwnAt p e j l → OwnAt p' e' j l) := by
  cases t with
  | nm i =>
    cases hp
    exact ⟨_, rfl, r.setFz q, fun j l o => (own_set o).2, fun j l hj o => own_set' (fun z => hj (by rw [z]; exact List.mem_cons_self)) o⟩
  | tp is =>
    unfold tsetP at hp
    simp only at hp
    split at hp
    · rename_i ds
      obtain ⟨vs, rfl, q'⟩ := fz_tup q
      exact sets_ok r q' hp
    · cases hp
/-! ### comprehensions -/
theorem comp_ok {src : Src} {t : Tg} {ws L1 L2 : List Nat} {xs : List D} {ys : List MV} {tst : PEn → GS → PR Bool} {tst' : En → MH → Res Bool} {elt : PEn → GS → PR (D × Bool)} {elt' : En → MH → Res MV}
    (x : Ctx n0 F Φ p e τ h g) (hn : n ≤ h.length) (hw : okW t ws p = true) (q : Fzs (FX F p e L1) τ h ys xs)
    (hs : (∀ i h2, src i h2 = some ys[i]?) ∨ ∃ l zs, ¬FX F p e L1 l ∧ l ∉ τ ∧ h[l]? = some (.lst zs) ∧ ∀ i h2, h2[l]? = some (.lst zs) → src i h2 = some ys[i]?)
    (ht : ∀ p' e' Φ' τ' h' g', Ctx n0 F Φ' p' e' τ' h' g' → RO (FL Φ' p' e') τ' h' NoT RBl (tst p' g') (tst' e' h'))
    (he : ∀ p' e' Φ' τ' h' g', Ctx n0 F Φ' p' e' τ' h' g' → RO (FL Φ' p' e') τ' h' NoT (RF (FX F p' e' L2)) (elt p' g') (elt' e' h')) :
    RO (FL Φ p e) τ h TV (RV (FX F p e (L1 ++ L2)) n) (compP t (wipeP (lockP xs L1 p) ws) tst elt xs [] g) (loop .bad (MP.compTurn src t (wipeM e ws) tst' elt') 0 ([], h)) := by
  obtain ⟨rl, ol1, ol2, lk⟩ := x.en.lock x.bF q
  obtain ⟨rw, ow1, ow2⟩ := rl.wipe ws
  have hsrc : ∀ i τc hc, Ev NoM τ h τc hc → src i hc = some ys[i]? := fun i τc hc ev => by
    rcases hs with hs | ⟨l, zs, a, b, c, f⟩
    · exact hs i hc
    · exact f i hc (by rw [ev.fr l (lt_of_get c) b id]; exact c)
  unfold okW at hw
  rw [Bool.and_eq_true, List.all_eq_true, List.all_eq_true] at hw
  obtain ⟨hw1, hw2⟩ := hw
  have nws : ∀ j l, OwnAt p e j l → j ∉ ws := fun j l o m => by
    have := hw1 j m
    have o1 := o.1
    cases hq : ownP p j with
    | none => rw [hq] at o1; cases o1
    | some d => rw [hq] at this; cases this
  have sup : ∀ i d v, (xs[i]? = some d) → ys[i]? = some v → Fz (FX F p e L1) τ h v d → Fz (FL F (wipeP (lockP xs L1 p) ws) (wipeM e ws)) τ h v d := fun i d v hd hv q => by
    rcases lk with lk | lk
    · refine Fz.im ?_ q
      have : ∀ {xs : List D} {i : Nat} {d : D}, Ds.im xs = true → xs[i]? = some d → d.im = true := by
        intro xs
        induction xs with
        | nil => intro i d _ e; cases e
        | cons y ys ih =>
          intro i d a b
          rw [Ds.im, Bool.and_eq_true] at a
          cases i with
          | zero => cases b; exact a.1
          | succ i => exact ih a.2 (by simpa using b)
      exact this lk hd
    · refine q.sub fun l z => ?_
      rcases z with z | ⟨j, hj, o⟩
      · exact .inl z
      · exact lk l (.inr ⟨j, hj, ow1 j l o⟩)
  suffices go : ∀ (rs : List D) (i : Nat) (acc : List D) (macc : List MV) (τc : List Nat) (hc : MH) (gc : GS), xs.drop i = rs → Ev NoM τ h τc hc → TokR (FL Φ p e) τc hc gc → Fzs (FX F p e (L1 ++ L2)) τc hc macc acc →
      RO (FL Φ p e) τc hc TV (RV (FX F p e (L1 ++ L2)) n) (compP t (wipeP (lockP xs L1 p) ws) tst elt rs acc gc) (loop .bad (MP.compTurn src t (wipeM e ws) tst' elt') i (macc, hc)) from go xs 0 [] [] τ h g rfl .refl x.tk .nil
  intro rs
  induction rs with
  | nil =>
    intro i acc macc τc hc gc hd ev tk qa
    have hi : xs.length ≤ i := List.drop_eq_nil_iff.mp hd
    have hy : ys[i]? = none := List.getElem?_eq_none (by rw [q.length]; exact hi)
    rw [loop_eq]
    simp only [MP.compTurn, hsrc i τc hc ev, hy, compP]
    exact RO.fin (r := some (.loc hc.length, hc ++ [.lst macc])) (q := some (.lst acc, true)) tk (Nat.le_trans hn ev.len) fun d fr z => by
      cases z
      exact ⟨_, _, rfl, .lst qa⟩
  | cons d rs ih =>
    intro i acc macc τc hc gc hd ev tk qa
    have hi : xs[i]? = some d := by
      have := congrArg (fun z => z[0]?) hd
      simpa using this
    have hd' : xs.drop (i + 1) = rs := by
      have := congrArg List.tail hd
      simpa using this
    obtain ⟨v, hv, qv⟩ := q.get hi
    rw [loop_eq]
    unfold compP
    cases hp : tsetP t d (wipeP (lockP xs L1 p) ws) with
    | none => trivial
    | some p' =>
      have rc := rw.ev ev (fun _ _ z => z)
      obtain ⟨e', hse, re, oe1, oe2⟩ := tset_ok (t := t) rc ((sup i d v hi hv qv).ev ev fun _ _ z => z.elim) hp
      have c' : Ctx n0 F (FL Φ p e) p' e' τc hc gc := ⟨x.bF, fun l z => .inl (x.FΦ l z), fun l z => Nat.lt_of_lt_of_le (x.bL z) ev.len, Nat.le_trans x.hn ev.len, re, tk.sub' fun l _ z => by
        rcases z with z | ⟨j, hj, o⟩
        · exact z
        · exact .inr ⟨j, hj, ol1 j l (ow1 j l (oe1 j l o))⟩⟩
      have k1 := ht p' e' _ τc hc gc c'
      simp only [MP.compTurn, hsrc i τc hc ev, hv, hse]
      cases ht1 : tst p' gc with
      | bad => trivial
      | exc _ _ => trivial
      | ok b g1 =>
        rw [ht1] at k1
        obtain ⟨b', h1, τ1, e1, ev1, t1, rfl⟩ := k1
        have t1' : TokR (FL Φ p e) τ1 h1 g1 := t1.sub' fun l _ z => .inl (.inl z)
        rw [e1]
        cases b with
        | false =>
          simp only
          have := ih (i + 1) acc macc τ1 h1 g1 hd' (ev.trans ev1) t1' (qa.ev ev1 fun _ _ z => z.elim)
          revert this
          generalize compP t (wipeP (lockP xs L1 p) ws) tst elt rs acc g1 = r1
          generalize loop .bad (MP.compTurn src t (wipeM e ws) tst' elt') (i + 1) (macc, h1) = m1
          intro this
          cases r1 with
          | bad => trivial
          | exc y g2 =>
            obtain ⟨x', h2, τ2, e2, y2, z⟩ := this
            exact ⟨x', h2, τ2, e2, ev1.trans y2, z⟩
          | ok c g2 =>
            obtain ⟨d, h2, τ2, e2, y2, z⟩ := this
            exact ⟨d, h2, τ2, e2, ev1.trans y2, z⟩
        | true =>
          simp only
          have c1 := c'.ev ev1 (t1.sub' fun l _ z => .inl z)
          have k2 := he p' e' _ τ1 h1 g1 c1
          cases he1 : elt p' g1 with
          | bad => trivial
          | exc _ _ => trivial
          | ok y g2 =>
            rw [he1] at k2
            obtain ⟨y', h2, τ2, e2, ev2, t2, qy⟩ := k2
            have t2' : TokR (FL Φ p e) τ2 h2 g2 := t2.sub' fun l _ z => .inl (.inl z)
            rw [e2]
            simp only
            have qa2 := (qa.ev ev1 fun _ _ z => z.elim).ev ev2 fun _ _ z => z.elim
            by_cases hz : acc.length < sizeLine
            · rw [if_pos hz, if_pos (by rw [qa.length]; exact hz)]
              simp only
              have := ih (i + 1) (acc ++ [y.1]) (macc ++ [y']) τ2 h2 g2 hd' ((ev.trans ev1).trans ev2) t2' (qa2.append (.one (Fz.sub (fun l z => ?_) qy)))
              · revert this
                generalize compP t (wipeP (lockP xs L1 p) ws) tst elt rs (acc ++ [y.1]) g2 = r1
                generalize loop .bad (MP.compTurn src t (wipeM e ws) tst' elt') (i + 1) (macc ++ [y'], h2) = m1
                intro this
                cases r1 with
                | bad => trivial
                | exc y g2 =>
                  obtain ⟨x', h3, τ3, e2, y2, z⟩ := this
                  exact ⟨x', h3, τ3, e2, (ev1.trans ev2).trans y2, z⟩
                | ok c g2 =>
                  obtain ⟨d, h3, τ3, e2, y2, z⟩ := this
                  exact ⟨d, h3, τ3, e2, (ev1.trans ev2).trans y2, z⟩
              · rcases z with z | ⟨j, hj, o⟩
                · exact .inl z
                · have j1 : j ∉ L1 := fun z => hj (List.mem_append_left _ z)
                  have j2 : j ∉ L2 := fun z => hj (List.mem_append_right _ z)
                  have jw := nws j l o
                  refine .inr ⟨j, j2, oe2 j l (fun m => jw ?_) (ow2 j l jw (ol2 j l j1 o))⟩
                  have := hw2 j m
                  simpa using this
            · rw [if_neg hz]
              trivial
abbrev RKD (F : Nat → Prop) : List Nat → MH → L2.Key × D → L2.Key × MV → Prop := fun τ h a v => a.1 = v.1 ∧ Fz F τ h v.2 a.2
theorem dputP_ok {F : Nat → Prop} {τ : List Nat} {h : MH} {ks : List L2.Key} {xs : List MV} {ds : List D} {k : L2.Key} {v : MV} {d : D} (q : Fzs F τ h xs ds) (r : Fz F τ h v d) : (dPutK ks xs k v).1 = (dPutPK ks ds k d).1 ∧ Fzs F τ h (dPutK ks xs k v).2 (dPutPK ks ds k d).2 := by
  unfold dPutK dPutPK
  cases kIx ks k with
  | some i => exact ⟨rfl, Fzs.set r i q⟩
  | none => exact ⟨rfl, q.append (.one r)⟩
theorem dcomp_ok {src : Src} {t : Tg} {ws L1 M2 : List Nat} {xs : List D} {ys : List MV} {elt : PEn → GS → PR (L2.Key × D)} {elt' : En → MH → Res (L2.Key × MV)}
    (x : Ctx n0 F Φ p e τ h g) (hn : n ≤ h.length) (hw : okW t ws p = true) (q : Fzs (FX F p e L1) τ h ys xs)
    (hs : (∀ i h2, src i h2 = some ys[i]?) ∨ ∃ l zs, ¬FX F p e L1 l ∧ l ∉ τ ∧ h[l]? = some (.lst zs) ∧ ∀ i h2, h2[l]? = some (.lst zs) → src i h2 = some ys[i]?)
    (he : ∀ p' e' Φ' τ' h' g', Ctx n0 F Φ' p' e' τ' h' g' → RO (FL Φ' p' e') τ' h' NoT (RKD (FX F p' e' M2)) (elt p' g') (elt' e' h')) :
    RO (FL Φ p e) τ h TV (RV (FX F p e (L1 ++ M2)) n) (dcompP t (wipeP (lockP xs L1 p) ws) elt xs [] [] g) (loop .bad (MP.dcTurn src t (wipeM e ws) elt') 0 ([], [], h)) := by
  obtain ⟨rl, ol1, ol2, lk⟩ := x.en.lock x.bF q
  obtain ⟨rw, ow1, ow2⟩ := rl.wipe ws
  have hsrc : ∀ i τc hc, Ev NoM τ h τc hc → src i hc = some ys[i]? := fun i τc hc ev => by
    rcases hs with hs | ⟨l, zs, a, b, c, f⟩
    · exact hs i hc
    · exact f i hc (by rw [ev.fr l (lt_of_get c) b id]; exact c)
  unfold okW at hw
  rw [Bool.and_eq_true, List.all_eq_true, List.all_eq_true] at hw
  obtain ⟨hw1, hw2⟩ := hw
  have nws : ∀ j l, OwnAt p e j l → j ∉ ws := fun j l o m => by
    have := hw1 j m
    have o1 := o.1
    cases hq : ownP p j with
    | none => rw [hq] at o1; cases o1
    | some d => rw [hq] at this; cases this
  have sup : ∀ i d v, (xs[i]? = some d) → ys[i]? = some v → Fz (FX F p e L1) τ h v d → Fz (FL F (wipeP (lockP xs L1 p) ws) (wipeM e ws)) τ h v d := fun i d v hd hv q => by
    rcases lk with lk | lk
    · refine Fz.im ?_ q
      have : ∀ {xs : List D} {i : Nat} {d : D}, Ds.im xs = true → xs[i]? = some d → d.im = true := by
        intro xs
        induction xs with
        | nil => intro i d _ e; cases e
        | cons y ys ih =>
          intro i d a b
          rw [Ds.im, Bool.and_eq_true] at a
          cases i with
          | zero => cases b; exact a.1
          | succ i => exact ih a.2 (by simpa using b)
      exact this lk hd
    · refine q.sub fun l z => ?_
      rcases z with z | ⟨j, hj, o⟩
      · exact .inl z
      · exact lk l (.inr ⟨j, hj, ow1 j l o⟩)
  suffices go : ∀ (rs : List D) (i : Nat) (ks : List L2.Key) (acc : List D) (macc : List MV) (τc : List Nat) (hc : MH) (gc : GS), xs.drop i = rs → Ev NoM τ h τc hc → TokR (FL Φ p e) τc hc gc → Fzs (FX F p e (L1 ++ M2)) τc hc macc acc →
      RO (FL Φ p e) τc hc TV (RV (FX F p e (L1 ++ M2)) n) (dcompP t (wipeP (lockP xs L1 p) ws) elt rs ks acc gc) (loop .bad (MP.dcTurn src t (wipeM e ws) elt') i (ks, macc, hc)) from go xs 0 [] [] [] τ h g rfl .refl x.tk .nil
  intro rs
  induction rs with
  | nil =>
    intro i ks acc macc τc hc gc hd ev tk qa
    have hi : xs.length ≤ i := List.drop_eq_nil_iff.mp hd
    have hy : ys[i]? = none := List.getElem?_eq_none (by rw [q.length]; exact hi)
    rw [loop_eq]
    simp only [MP.dcTurn, hsrc i τc hc ev, hy, dcompP]
    exact RO.fin (r := some (.loc hc.length, hc ++ [.dct ks macc])) (q := some (.dct ks acc, true)) tk (Nat.le_trans hn ev.len) fun d fr z => by
      cases z
      exact ⟨_, _, rfl, .inr ⟨rfl, _, rfl, rfl, .dct qa⟩⟩
  | cons d rs ih =>
    intro i ks acc macc τc hc gc hd ev tk qa
    have hi : xs[i]? = some d := by
      have := congrArg (fun z => z[0]?) hd
      simpa using this
    have hd' : xs.drop (i + 1) = rs := by
      have := congrArg List.tail hd
      simpa using this
    obtain ⟨v, hv, qv⟩ := q.get hi
    rw [loop_eq]
    unfold dcompP
    cases hp : tsetP t d (wipeP (lockP xs L1 p) ws) with
    | none => trivial
    | some p' =>
      have rc := rw.ev ev (fun _ _ z => z)
      obtain ⟨e', hse, re, oe1, oe2⟩ := tset_ok (t := t) rc ((sup i d v hi hv qv).ev ev fun _ _ z => z.elim) hp
      have c' : Ctx n0 F (FL Φ p e) p' e' τc hc gc := ⟨x.bF, fun l z => .inl (x.FΦ l z), fun l z => Nat.lt_of_lt_of_le (x.bL z) ev.len, Nat.le_trans x.hn ev.len, re, tk.sub' fun l _ z => by
        rcases z with z | ⟨j, hj, o⟩
        · exact z
        · exact .inr ⟨j, hj, ol1 j l (ow1 j l (oe1 j l o))⟩⟩
      have k2 := he p' e' _ τc hc gc c'
      simp only [MP.dcTurn, hsrc i τc hc ev, hv, hse]
      cases he1 : elt p' gc with
      | bad => trivial
      | exc _ _ => trivial
      | ok y g2 =>
        rw [he1] at k2
        obtain ⟨y', h2, τ2, e2, ev2, t2, qk, qy⟩ := k2
        have t2' : TokR (FL Φ p e) τ2 h2 g2 := t2.sub' fun l _ z => .inl (.inl z)
        rw [e2]
        simp only
        have qa2 := qa.ev ev2 fun _ _ z => z.elim
        by_cases hz : ks.length < sizeLine
        · rw [if_pos hz, if_pos hz]
          simp only
          have qy2 : Fz (FX F p e (L1 ++ M2)) τ2 h2 y'.2 y.2 := Fz.sub (fun l z => by
            rcases z with z | ⟨j, hj, o⟩
            · exact .inl z
            · have j1 : j ∉ L1 := fun z => hj (List.mem_append_left _ z)
              have j2 : j ∉ M2 := fun z => hj (List.mem_append_right _ z)
              have jw := nws j l o
              refine .inr ⟨j, j2, oe2 j l (fun m => jw ?_) (ow2 j l jw (ol2 j l j1 o))⟩
              have := hw2 j m
              simpa using this) qy
          obtain ⟨z1, z2⟩ := dputP_ok (ks := ks) (k := y.1) qa2 qy2
          rw [← qk, z1]
          have := ih (i + 1) (dPutPK ks acc y.1 y.2).1 (dPutPK ks acc y.1 y.2).2 (dPutK ks macc y.1 y'.2).2 τ2 h2 g2 hd' (ev.trans ev2) t2' z2
          revert this
          generalize dcompP t (wipeP (lockP xs L1 p) ws) elt rs (dPutPK ks acc y.1 y.2).1 (dPutPK ks acc y.1 y.2).2 g2 = r1
          generalize loop .bad (MP.dcTurn src t (wipeM e ws) elt') (i + 1) ((dPutPK ks acc y.1 y.2).1, (dPutK ks macc y.1 y'.2).2, h2) = m1
          intro this
          cases r1 with
          | bad => trivial
          | exc y g2 =>
            obtain ⟨x', h3, τ3, e2, y2, z⟩ := this
            exact ⟨x', h3, τ3, e2, ev2.trans y2, z⟩
          | ok c g2 =>
            obtain ⟨d, h3, τ3, e2, y2, z⟩ := this
            exact ⟨d, h3, τ3, e2, ev2.trans y2, z⟩
        · rw [if_neg hz]
          trivial
end
section
variable {C : Cl} {PC : PCl} {a b c : E} {es : List E} {n0 : Nat} {F Φ : Nat → Prop} {p : PEn} {e : En} {τ : List Nat} {h : MH} {g : GS}
abbrev tkS {S : Nat → Prop} {τ : List Nat} {h : MH} {g : GS} {P : Nat → Prop} (t : TokR (fun x => S x ∨ P x) τ h g) : TokR S τ h g := t.sub' fun _ _ z => .inl z
theorem ok_var {i : Nat} : EOk C PC (.var i) := by
  intro n0 F Φ p e τ h g x
  rw [pE, den_var, leak]
  cases q : getP p i with
  | none => trivial
  | some d =>
    obtain ⟨v, a, b⟩ := x.en.get x.bF q
    rw [a]
    exact RO.val x.tk b
theorem ok_lit {v : MV} : EOk C PC (.lit v) := by
  intro n0 F Φ p e τ h g x
  rw [pE, den_lit]
  cases q : mvD v with
  | none => trivial
  | some d => exact RO.val x.tk (mvD_ok q)
theorem ok_bin {o : BOp} (ha : EOk C PC a) (hb : EOk C PC b) : EOk C PC (.bin o a b) := by
  intro n0 F Φ p e τ h g x
  rw [pE, den_bin, leak]
  refine (ha.fz (ls := leak a ++ leak b) x fun i m => List.mem_append_left _ m).bind fun u v g1 h1 τ1 ev1 t1 r1 => ?_
  refine (hb.fz (ls := leak a ++ leak b) (x.ev ev1 (tkS t1)) fun i m => List.mem_append_right _ m).bind fun u2 v2 g2 h2 τ2 ev2 t2 r2 => ?_
  exact RO.fin (tkS t2) (Nat.le_trans ev1.len ev2.len) (binP_ok (r1.ev ev2 fun _ _ z => z.elim) r2)
theorem ok_neg (ha : EOk C PC a) : EOk C PC (.neg a) := by
  intro n0 F Φ p e τ h g x
  rw [pE, den_neg]
  refine (ha.fz (ls := leak a) x fun i m => m).bind fun u v g1 h1 τ1 ev1 t1 r1 => ?_
  obtain ⟨d, fr⟩ := u
  cases d with
  | int i => rw [fz_int r1]; exact RO.val (tkS t1) (.int _)
  | _ => trivial
theorem ok_not (ha : EOk C PC a) : EOk C PC (.not a) := by
  intro n0 F Φ p e τ h g x
  rw [pE, den_not]
  refine (ha.fz (ls := leak a) x fun i m => m).bind fun u v g1 h1 τ1 ev1 t1 r1 => ?_
  have x1 := x.ev ev1 (tkS t1)
  refine RO.bind (RO.bool (tkS t1) fun k z => truP_ok (tok_sub x1 (tkS t1)) r1 z) fun k k' g2 h2 τ2 ev2 t2 r2 => ?_
  cases r2
  exact RO.val (tkS t2) (.bl _)
theorem ok_cmp {o : COp} (ha : EOk C PC a) (hb : EOk C PC b) : EOk C PC (.cmp o a b) := by
  intro n0 F Φ p e τ h g x
  rw [pE, den_cmp]
  refine (ha.fz (ls := leak a ++ leak b) x fun i m => List.mem_append_left _ m).bind fun u v g1 h1 τ1 ev1 t1 r1 => ?_
  refine (hb.fz (ls := leak a ++ leak b) (x.ev ev1 (tkS t1)) fun i m => List.mem_append_right _ m).bind fun u2 v2 g2 h2 τ2 ev2 t2 r2 => ?_
  refine RO.bind (RO.bool (tkS t2) fun k z => cmpP_ok (r1.ev ev2 fun _ _ z => z.elim) r2 z) fun k k' g3 h3 τ3 ev3 t3 r3 => ?_
  cases r3
  exact RO.val (tkS t3) (.bl _)
theorem ok_cmp2 {o o' : COp} (ha : EOk C PC a) (hb : EOk C PC b) (hc : EOk C PC c) : EOk C PC (.cmp2 o o' a b c) := by
  intro n0 F Φ p e τ h g x
  rw [pE, den_cmp2]
  refine (ha.fz (ls := leak a ++ (leak b ++ leak c)) x fun i m => List.mem_append_left _ m).bind fun u v g1 h1 τ1 ev1 t1 r1 => ?_
  refine (hb.fz (ls := leak a ++ (leak b ++ leak c)) (x.ev ev1 (tkS t1)) fun i m => List.mem_append_right _ (List.mem_append_left _ m)).bind fun u2 v2 g2 h2 τ2 ev2 t2 r2 => ?_
  refine RO.bind (RO.bool (tkS t2) fun k z => cmpP_ok (r1.ev ev2 fun _ _ z => z.elim) r2 z) fun k k' g3 h3 τ3 ev3 t3 r3 => ?_
  cases r3
  have x3 := ((x.ev ev1 (tkS t1)).ev ev2 (tkS t2)).ev ev3 (tkS t3)
  cases k with
  | false => exact RO.val (tkS t3) (.bl _)
  | true =>
    simp only [if_true]
    refine (hc.fz (ls := leak a ++ (leak b ++ leak c)) x3 fun i m => List.mem_append_right _ (List.mem_append_right _ m)).bind fun u4 v4 g4 h4 τ4 ev4 t4 r4 => ?_
    refine RO.bind (RO.bool (tkS t4) fun k z => cmpP_ok ((r2.ev ev3 fun _ _ z => z.elim).ev ev4 fun _ _ z => z.elim) r4 z) fun k k' g5 h5 τ5 ev5 t5 r5 => ?_
    cases r5
    exact RO.val (tkS t5) (.bl _)
theorem EOk.wk (ha : EOk C PC a) {ls : List Nat} {n : Nat} (x : Ctx n0 F Φ p e τ h g) (hn : n ≤ h.length) (hs : ∀ i, i ∈ leak a → i ∈ ls) : RO (FL Φ p e) τ h TV (RV (FX F p e ls) n) (pE PC a p g) (E.den C a e h) :=
  (ha n0 F Φ p e τ h g x).imp (fun _ _ _ z => z) fun τ' h' a b r => by
    rcases r with ⟨r1, r2⟩ | ⟨r1, l, o, r2, r3, r4, r5, r6⟩
    · exact .inl ⟨r1, r2.sub fun l z => z.mono hs⟩
    · exact .inr ⟨r1, l, o, r2, Nat.le_trans hn r3, r4, r5, r6.sub fun l z => z.imp (fun z => z.mono hs) id⟩
theorem ok_and (ha : EOk C PC a) (hb : EOk C PC b) : EOk C PC (.and a b) := by
  intro n0 F Φ p e τ h g x
  rw [pE, den_and, leak]
  refine (ha.fz (ls := leak a ++ leak b) x fun i m => List.mem_append_left _ m).bind fun u v g1 h1 τ1 ev1 t1 r1 => ?_
  have x1 := x.ev ev1 (tkS t1)
  refine RO.bind (RO.bool (tkS t1) fun k z => truP_ok (tok_sub x1 (tkS t1)) r1 z) fun k k' g2 h2 τ2 ev2 t2 r2 => ?_
  cases r2
  have x2 := x1.ev ev2 (tkS t2)
  cases k with
  | false => exact RO.val (tkS t2) (r1.ev ev2 fun _ _ z => z.elim)
  | true => exact hb.wk x2 (Nat.le_trans ev1.len ev2.len) fun i m => List.mem_append_right _ m
theorem ok_or (ha : EOk C PC a) (hb : EOk C PC b) : EOk C PC (.or a b) := by
  intro n0 F Φ p e τ h g x
  rw [pE, den_or, leak]
  refine (ha.fz (ls := leak a ++ leak b) x fun i m => List.mem_append_left _ m).bind fun u v g1 h1 τ1 ev1 t1 r1 => ?_
  have x1 := x.ev ev1 (tkS t1)
  refine RO.bind (RO.bool (tkS t1) fun k z => truP_ok (tok_sub x1 (tkS t1)) r1 z) fun k k' g2 h2 τ2 ev2 t2 r2 => ?_
  cases r2
  have x2 := x1.ev ev2 (tkS t2)
  cases k with
  | true => exact RO.val (tkS t2) (r1.ev ev2 fun _ _ z => z.elim)
  | false => exact hb.wk x2 (Nat.le_trans ev1.len ev2.len) fun i m => List.mem_append_right _ m
theorem ok_ite (hc : EOk C PC c) (ha : EOk C PC a) (hb : EOk C PC b) : EOk C PC (.ite c a b) := by
  intro n0 F Φ p e τ h g x
  rw [pE, den_ite, leak]
  refine (hc.fz (ls := leak c) x fun i m => m).bind fun u v g1 h1 τ1 ev1 t1 r1 => ?_
  have x1 := x.ev ev1 (tkS t1)
  refine RO.bind (RO.bool (tkS t1) fun k z => truP_ok (tok_sub x1 (tkS t1)) r1 z) fun k k' g2 h2 τ2 ev2 t2 r2 => ?_
  cases r2
  have x2 := x1.ev ev2 (tkS t2)
  cases k with
  | true => exact ha.wk x2 (Nat.le_trans ev1.len ev2.len) fun i m => List.mem_append_left _ m
  | false => exact hb.wk x2 (Nat.le_trans ev1.len ev2.len) fun i m => List.mem_append_right _ m
theorem ok_tup (hs : EsOk C PC es) : EOk C PC (.tup es) := by
  intro n0 F Φ p e τ h g x
  rw [pE, den_tup, leak]
  refine (hs n0 F Φ p e τ h g x).bind fun u v g1 h1 τ1 ev1 t1 r1 => ?_
  by_cases hz : u.length ≤ sizeLine
  · rw [if_pos hz, if_pos (by rw [Fzs.length r1]; exact hz)]
    exact RO.val (tkS t1) (.tup r1)
  · rw [if_neg hz]
    trivial
theorem ok_lst (hs : EsOk C PC es) : EOk C PC (.lst es) := by
  intro n0 F Φ p e τ h g x
  rw [pE, den_lst, leak]
  refine (hs n0 F Φ p e τ h g x).bind fun u v g1 h1 τ1 ev1 t1 r1 => ?_
  by_cases hz : u.length ≤ sizeLine
  · rw [if_pos hz, if_pos (by rw [Fzs.length r1]; exact hz)]
    exact RO.fin (r := some (.loc h1.length, h1 ++ [.lst v])) (q := some (.lst u, true)) (tkS t1) ev1.len fun d fr z => by
      cases z
      exact ⟨_, _, rfl, .lst r1⟩
  · rw [if_neg hz]
    trivial
theorem ixP_im {x y d : D} {g : GS} (e : ixP x y g = some d) : y.im = true := by
  cases y <;> first | (simp [D.im]; done) | (cases x <;> simp [ixP, ixPL, dGetP, keyP] at e)
theorem dGetP_im {x y : D} {o : Option D} (e : dGetP x y = some o) : y.im = true := by
  cases y <;> first | (simp [D.im]; done) | (cases x <;> simp [dGetP, keyP] at e)
theorem isDct_ok {F : Nat → Prop} {τ : List Nat} {h : MH} {x : MV} {d : D} (q : Fz F τ h x d) (e : d.isDct = true) : (dctO x h).isSome = true := by
  cases d with
  | dct ks ds =>
    obtain ⟨l, xs, rfl, _, _, e1, _⟩ := fz_dct q
    rw [dctO_of e1]
    rfl
  | _ => cases e
theorem ok_dnew : EOk C PC .dnew := by
  intro n0 F Φ p e τ h g x
  rw [pE, den_dnew]
  refine RO.fin (F := FX F p e []) (r := some (.loc h.length, h ++ [.dct [] []])) (q := some (.dct [] [], true)) x.tk (Nat.le_refl _) fun d fr z => ?_
  cases z
  exact ⟨_, _, rfl, .inr ⟨rfl, _, rfl, rfl, .dct .nil⟩⟩
theorem ok_dget (ha : EOk C PC a) (hb : EOk C PC b) : EOk C PC (.dget a b) := by
  intro n0 F Φ p e τ h g x
  rw [pE, den_dget, leak]
  refine (ha.fz (ls := leak a) x fun i m => m).bind fun u v g1 h1 τ1 ev1 t1 r1 => ?_
  have x1 := x.ev ev1 (tkS t1)
  by_cases hz : u.1.isDct = true
  · rw [if_pos hz, if_pos (isDct_ok r1 hz)]
    refine (hb.fz (ls := leak b) x1 fun i m => m).bind fun u2 v2 g2 h2 τ2 ev2 t2 r2 => ?_
    cases q : dGetP u.1 u2.1 with
    | none => trivial
    | some o =>
      have r1' := (r1.ev ev2 fun _ _ z => z.elim)
      obtain ⟨d, w, e1, e2, e3⟩ := dget_ok r1' (Fz.im (dGetP_im q) r2) q
      rw [e1, Option.bind_some, e2]
      cases o with
      | none => cases w with
        | none => exact RO.val (tkS t2) .non
        | some _ => exact e3.elim
      | some a => cases w with
        | none => exact e3.elim
        | some w => exact RO.val (tkS t2) e3
  · rw [if_neg hz]
    trivial
theorem ok_dget2 {c : E} (ha : EOk C PC a) (hb : EOk C PC b) (hc : EOk C PC c) : EOk C PC (.dget2 a b c) := by
  intro n0 F Φ p e τ h g x
  rw [pE, den_dget2, leak]
  refine (ha.fz (ls := leak a ++ leak c) x fun i m => List.mem_append_left _ m).bind fun u v g1 h1 τ1 ev1 t1 r1 => ?_
  have x1 := x.ev ev1 (tkS t1)
  by_cases hz : u.1.isDct = true
  · rw [if_pos hz, if_pos (isDct_ok r1 hz)]
    refine (hb.fz (ls := leak b) x1 fun i m => m).bind fun u2 v2 g2 h2 τ2 ev2 t2 r2 => ?_
    have x2 := x1.ev ev2 (tkS t2)
    refine (hc.fz (ls := leak a ++ leak c) x2 fun i m => List.mem_append_right _ m).bind fun u3 v3 g3 h3 τ3 ev3 t3 r3 => ?_
    cases q : dGetP u.1 u2.1 with
    | none => trivial
    | some o =>
      have r1' := (r1.ev ev2 fun _ _ z => z.elim).ev ev3 fun _ _ z => z.elim
      obtain ⟨d, w, e1, e2, e3⟩ := dget_ok r1' (Fz.im (dGetP_im q) ((show Fz (FX F p e (leak b)) τ2 h2 v2 u2.1 from r2).ev ev3 fun _ _ z => z.elim)) q
      rw [e1, Option.bind_some, e2]
      cases o with
      | none => cases w with
        | none => exact RO.val (tkS t3) r3
        | some _ => exact e3.elim
      | some a => cases w with
        | none => exact e3.elim
        | some w => exact RO.val (tkS t3) e3
  · rw [if_neg hz]
    trivial
theorem ok_ix (ha : EOk C PC a) (hb : EOk C PC b) : EOk C PC (.ix a b) := by
  intro n0 F Φ p e τ h g x
  rw [pE, den_ix, leak]
  refine (ha.fz (ls := leak a) x fun i m => m).bind fun u v g1 h1 τ1 ev1 t1 r1 => ?_
  have x1 := x.ev ev1 (tkS t1)
  refine (hb.fz (ls := leak b) x1 fun i m => m).bind fun u2 v2 g2 h2 τ2 ev2 t2 r2 => ?_
  have x2 := x1.ev ev2 (tkS t2)
  cases q : ixP u.1 u2.1 g2 with
  | none => trivial
  | some d =>
    have r1' := (r1.ev ev2 fun _ _ z => z.elim)
    have : ∃ w, ixO v v2 h2 = some w ∧ Fz (FX F p e (leak a)) τ2 h2 w d := ixP_ok (tok_sub x2 (tkS t2)) r1' (Fz.im (ixP_im q) (show Fz (FX F p e (leak b)) τ2 h2 v2 u2.1 from r2)) q
    obtain ⟨w, e1, r⟩ := this
    rw [e1]
    exact RO.val (tkS t2) r
theorem ok_sl {lo hi : Option E} (ha : EOk C PC a) (hl : EoOk C PC lo) (hh : EoOk C PC hi) : EOk C PC (.sl a lo hi) := by
  intro n0 F Φ p e τ h g x
  rw [pE, den_sl, leak]
  refine (ha.fz (ls := leak a) x fun i m => m).bind fun u v g1 h1 τ1 ev1 t1 r1 => ?_
  have x1 := x.ev ev1 (tkS t1)
  refine (hl n0 F Φ p e τ1 h1 g1 x1).bind fun u2 v2 g2 h2 τ2 ev2 t2 r2 => ?_
  have x2 := x1.ev ev2 (tkS t2)
  refine (hh n0 F Φ p e τ2 h2 g2 x2).bind fun u3 v3 g3 h3 τ3 ev3 t3 r3 => ?_
  cases r2
  cases r3
  exact RO.fin (tkS t3) (Nat.le_trans ev1.len (Nat.le_trans ev2.len ev3.len)) (slP_ok ((r1.ev ev2 fun _ _ z => z.elim).ev ev3 fun _ _ z => z.elim) _ _)
theorem ok_bi {b : Bi} (hs : EsOk C PC es) : EOk C PC (.bi b es) := by
  intro n0 F Φ p e τ h g x
  rw [pE, den_bi, leak]
  refine (hs n0 F Φ p e τ h g x).bind fun u v g1 h1 τ1 ev1 t1 r1 => ?_
  have x1 := x.ev ev1 (tkS t1)
  exact RO.fin (tkS t1) ev1.len (biP_ok (tok_sub x1 (tkS t1)) r1)
theorem ok_call (K : CallOk C PC) {f : Nat} (hs : EsOk C PC es) : EOk C PC (.call f es) := by
  intro n0 F Φ p e τ h g x
  rw [pE, den_call, leak]
  refine (hs n0 F Φ p e τ h g x).bind fun u v g1 h1 τ1 ev1 t1 r1 => ?_
  have x1 := x.ev ev1 (tkS t1)
  refine (K f (FX F p e (leaks es)) (FL Φ p e) τ1 h1 g1 v u (fun l z => ?_) (fun l z => x1.bL z) (tkS t1) r1).imp (fun _ _ _ z => z) fun τ' h' a b r => ?_
  · rcases z with z | ⟨j, _, o⟩
    · exact .inl (x.FΦ l z)
    · exact .inr ⟨j, by simp, o⟩
  · rcases r with ⟨r1, r2⟩ | ⟨r1, l, o, r2, r3, r4, r5, r6⟩
    · exact .inl ⟨r1, r2⟩
    · exact .inr ⟨r1, l, o, r2, Nat.le_trans ev1.len r3, r4, r5, r6⟩
theorem isLst_ok {F : Nat → Prop} {τ : List Nat} {h : MH} {x : MV} {d : D} (q : Fz F τ h x d) (e : d.isLst = true) : recvO .index x h = true := by
  cases d with
  | lst ds =>
    obtain ⟨l, xs, rfl, _, _, e1, _⟩ := fz_lst q
    simp only [recvO, e1]
  | _ => cases e
theorem flat_im {d : D} (e : d.flat = true) : d.im = true := by cases d <;> first | (simp [D.im]; done) | cases e
theorem idxP_im {x y d : D} (e : idxP x y = some d) : y.im = true := by
  unfold idxP at e
  split at e
  · split at e
    · rename_i hz
      exact flat_im hz.1
    · cases e
  · cases e
theorem ok_index (ha : EOk C PC a) (hb : EOk C PC b) : EOk C PC (.mt .index a [b]) := by
  intro n0 F Φ p e τ h g x
  rw [pE, den_mt]
  refine (ha.fz (ls := leak a) x fun i m => m).bind fun u v g1 h1 τ1 ev1 t1 r1 => ?_
  have x1 := x.ev ev1 (tkS t1)
  by_cases hz : u.1.isLst = true
  · rw [if_pos hz, if_pos (isLst_ok r1 hz)]
    have e1 : ((Es.den C [b] e h1).bind fun vs h2 => oP (mtO .index v vs h2)) = (E.den C b e h1).bind fun w h2 => oP (mtO .index v [w] h2) := by
      rw [dens_cons]
      cases E.den C b e h1 with
      | ok w h2 => simp only [Res.bind_ok, dens_nil]
      | exc _ _ => rfl
      | bad => rfl
    rw [e1]
    refine (hb.fz (ls := leak b) x1 fun i m => m).bind fun u2 v2 g2 h2 τ2 ev2 t2 r2 => ?_
    cases q : idxP u.1 u2.1 with
    | none => trivial
    | some d =>
      obtain ⟨l, k, rfl, _, e2, rfl⟩ := idxP_ok (r1.ev ev2 fun _ _ z => z.elim) (Fz.im (idxP_im q) (show Fz (FX F p e (leak b)) τ2 h2 v2 u2.1 from r2)) q
      rw [e2]
      exact RO.val (tkS t2) (.int _)
  · rw [if_neg hz]
    trivial
theorem ok_mt {m : Mt} (ha : EOk C PC a) (hb : ∀ b, b ∈ es → EOk C PC b) : EOk C PC (.mt m a es) := by
  by_cases hq : m = .index ∧ ∃ b, es = [b]
  · obtain ⟨rfl, b, rfl⟩ := hq
    exact ok_index ha (hb b (by simp))
  · intro n0 F Φ p e τ h g x
    have : pE PC (.mt m a es) p g = .bad := by
      cases m <;> first | (simp only [pE]; done) | skip
      cases es with
      | nil => simp only [pE]
      | cons b r => cases r with
        | nil => exact absurd ⟨rfl, b, rfl⟩ hq
        | cons _ _ => simp only [pE]
    rw [this]
    trivial
theorem ok_fld {cs : List Str} {f : Str} (ha : EOk C PC a) : EOk C PC (.fld cs a f) := by
  intro n0 F Φ p e τ h g x
  rw [pE, den_fld, leak]
  refine (ha.fz (ls := leak a) x fun i m => m).bind fun u v g1 h1 τ1 ev1 t1 r1 => ?_
  cases q : fldP cs u.1 f with
  | none => trivial
  | some d =>
    have : ∃ w, fldO cs v f h1 = some w ∧ Fz (FX F p e (leak a)) τ1 h1 w d := fldP_ok r1 q
    obtain ⟨w, e1, r⟩ := this
    rw [e1]
    exact RO.val (tkS t1) r
theorem ok_meth (K : CallOk C PC) {cs : List (Str × Nat)} {m : Str} (ha : EOk C PC a) (hs : EsOk C PC es) : EOk C PC (.meth cs m a es) := by
  intro n0 F Φ p e τ h g x
  rw [pE, den_meth, leak]
  refine (ha.fz (ls := leak a ++ leaks es) x fun i m => List.mem_append_left _ m).bind fun u v g1 h1 τ1 ev1 t1 r1 => ?_
  have x1 := x.ev ev1 (tkS t1)
  cases q : methP cs m u.1 with
  | none => trivial
  | some f =>
    rw [methP_ok r1 q]
    simp only
    refine (hs.fz (ls := leak a ++ leaks es) x1 fun i m => List.mem_append_right _ m).bind fun u2 v2 g2 h2 τ2 ev2 t2 r2 => ?_
    have x2 := x1.ev ev2 (tkS t2)
    have rr : Fzs (FX F p e (leak a ++ leaks es)) τ2 h2 (v :: v2) (u.1 :: u2) := .cons (r1.ev ev2 fun _ _ z => z.elim) r2
    refine (K f (FX F p e (leak a ++ leaks es)) (FL Φ p e) τ2 h2 g2 (v :: v2) (u.1 :: u2) (fun l z => ?_) (fun l z => x2.bL z) (tkS t2) rr).imp (fun _ _ _ z => z) fun τ' h' a b r => ?_
    · rcases z with z | ⟨j, _, o⟩
      · exact .inl (x.FΦ l z)
      · exact .inr ⟨j, by simp, o⟩
    · rcases r with ⟨r1, r2⟩ | ⟨r1, l, o, r2, r3, r4, r5, r6⟩
      · exact .inl ⟨r1, r2⟩
      · exact .inr ⟨r1, l, o, r2, Nat.le_trans ev1.len (Nat.le_trans ev2.len r3), r4, r5, r6⟩
theorem ok_tidx {v : MV} (ha : EOk C PC a) : EOk C PC (.tidx v a) := by
  intro n0 F Φ p e τ h g x
  rw [pE, den_tidx, leak]
  refine (ha.fz (ls := leak a) x fun i m => m).bind fun u w g1 h1 τ1 ev1 t1 r1 => ?_
  cases q : tidxP v u.1 with
  | none => trivial
  | some d =>
    have hi : u.1.im = true ∧ d.im = true := by
      unfold tidxP at q
      split at q
      · rename_i xs z hu
        obtain ⟨ss, _, q2⟩ := Option.bind_eq_some_iff.mp q
        obtain ⟨k, _, rfl⟩ := Option.map_eq_some_iff.mp q2
        rw [hu]
        exact ⟨by simp [D.im], by simp [D.im]⟩
      · cases q
    have : ∃ z, tidxO v w = some z ∧ Fz (FX F p e []) τ1 h1 z d := tidxP_ok (Fz.im hi.1 (show Fz (FX F p e (leak a)) τ1 h1 w u.1 from r1)) q
    obtain ⟨z, e1, r⟩ := this
    rw [e1]
    exact RO.val (tkS t1) r
theorem ok_allR {l : Nat} {y : Str × Option Str} {lo hi : Int} (ha : EOk C PC a) : EOk C PC (.allR l y lo hi a) := by
  intro n0 F Φ p e τ h g x
  rw [pE, den_allR, leak]
  refine (ha.fz (ls := leak a) x fun i m => m).bind fun u v g1 h1 τ1 ev1 t1 r1 => ?_
  have x1 := x.ev ev1 (tkS t1)
  refine RO.bind (RO.bool (tkS t1) fun k z => allRP_ok (tok_sub x1 (tkS t1)) r1 z) fun k k' g2 h2 τ2 ev2 t2 r2 => ?_
  cases r2
  exact RO.val (tkS t2) (.bl _)
theorem get_bind : ∀ {e : En} {i : Nat}, envGet e i = (e[i]?).bind id
  | [], i => by cases i <;> rfl
  | none :: _, 0 => rfl
  | some _ :: _, 0 => rfl
  | _ :: r, i + 1 => by
    rw [envGet_s, List.getElem?_cons_succ]
    exact get_bind
theorem ok_genQ {an : Bool} {l : Nat} {y : Str × Option Str} {q : QE} (ha : EOk C PC a) : EOk C PC (.genQ an l y q a) := by
  intro n0 F Φ p e τ h g x
  rw [pE, den_genQ, leak]
  refine (ha.fz (ls := leak a) x fun i m => m).bind fun u v g1 h1 τ1 ev1 t1 r1 => ?_
  have x1 := x.ev ev1 (tkS t1)
  refine RO.bind (RO.bool (tkS t1) fun k z => genP_ok (F := fun _ => False) ((tkS t1).sub' fun _ _ z => z.elim) (fun i d z => ?_) (r1.sub fun _ z => z.elim) z) fun k k' g2 h2 τ2 ev2 t2 r2 => ?_
  · obtain ⟨w, a, b⟩ := x1.en.get x1.bF z
    exact ⟨w, by rw [← get_bind]; exact a, b.sub fun _ z => z.elim⟩
  · cases r2
    exact RO.val (tkS t2) (.bl _)
theorem ok_disp (hs : EsOk C PC es) : EOk C PC (.disp es) := by
  intro n0 F Φ p e τ h g x
  rw [pE, den_disp, leak]
  refine (hs n0 F Φ p e τ h g x).bind fun u v g1 h1 τ1 ev1 t1 r1 => ?_
  refine RO.fin (F := FX F p e (leaks es)) (tkS t1) ev1.len fun d fr q => ?_
  unfold dispP at q
  split at q
  · rename_i hz
    obtain ⟨r, er, q2⟩ := Option.map_eq_some_iff.mp q
    cases q2
    obtain ⟨ws, e1, e2⟩ := dPairs_ok u.length (Nat.le_refl _) r1 (ks := []) (vs := []) (us := []) .nil er
    refine ⟨.loc h1.length, h1 ++ [.dct r.1 ws], ?_, .inr ⟨rfl, _, rfl, rfl, .dct e2⟩⟩
    unfold dispO
    rw [if_pos (by rw [Fzs.length r1]; exact hz), e1]
    rfl
  · cases q
theorem ok_comp {ws : List Nat} {t : Tg} {k : IK} (hs : EsOk C PC es) (ha : EOk C PC a) : EOk C PC (.comp ws t k es a) := by
  intro n0 F Φ p e τ h g x
  rw [pE, den_comp, leak]
  refine (hs n0 F Φ p e τ h g x).bind fun u v g1 h1 τ1 ev1 t1 r1 => ?_
  have x1 := x.ev ev1 (tkS t1)
  cases q : srcP k u with
  | none => trivial
  | some xs =>
    obtain ⟨src, ys, e1, qy, hsrc⟩ := srcP_ok r1 q
    rw [e1]
    simp only
    by_cases hw : okW t ws p = true
    · rw [if_pos hw]
      exact comp_ok x1 ev1.len hw qy hsrc (fun p' e' Φ' τ' h' g' c => RO.ok c.tk rfl) fun p' e' Φ' τ' h' g' c => ha.fz c fun i m => m
    · rw [if_neg hw]
      trivial
theorem ok_compIf {ws : List Nat} {t : Tg} {k : IK} (hs : EsOk C PC es) (hc : EOk C PC c) (ha : EOk C PC a) : EOk C PC (.compIf ws t k es c a) := by
  intro n0 F Φ p e τ h g x
  rw [pE, den_compIf, leak]
  refine (hs n0 F Φ p e τ h g x).bind fun u v g1 h1 τ1 ev1 t1 r1 => ?_
  have x1 := x.ev ev1 (tkS t1)
  cases q : srcP k u with
  | none => trivial
  | some xs =>
    obtain ⟨src, ys, e1, qy, hsrc⟩ := srcP_ok r1 q
    rw [e1]
    simp only
    by_cases hw : okW t ws p = true
    · rw [if_pos hw]
      exact comp_ok x1 ev1.len hw qy hsrc (fun p' e' Φ' τ' h' g' c => hc.tst c) fun p' e' Φ' τ' h' g' c => ha.fz c fun i m => m
    · rw [if_neg hw]
      trivial
theorem ok_dcomp {ws : List Nat} {t : Tg} {k : IK} (hs : EsOk C PC es) (ha : EOk C PC a) (hb : EOk C PC b) : EOk C PC (.dcomp ws t k es a b) := by
  intro n0 F Φ p e τ h g x
  rw [pE, den_dcomp, leak]
  refine (hs n0 F Φ p e τ h g x).bind fun u v g1 h1 τ1 ev1 t1 r1 => ?_
  have x1 := x.ev ev1 (tkS t1)
  cases q : srcP k u with
  | none => trivial
  | some xs =>
    obtain ⟨src, ys, e1, qy, hsrc⟩ := srcP_ok r1 q
    rw [e1]
    simp only
    by_cases hw : okW t ws p = true
    · rw [if_pos hw]
      refine dcomp_ok x1 ev1.len hw qy hsrc fun p' e' Φ' τ' h' g' c => ?_
      refine (ha.fz (ls := leak a ++ leak b) c fun i m => List.mem_append_left _ m).bind fun u2 v2 g2 h2 τ2 ev2 t2 r2 => ?_
      cases qk : keyP u2.1 with
      | none => trivial
      | some kk =>
        rw [keyP_ok r2 qk]
        simp only [oQ_some, oR_some, PR.bind_ok, Res.bind_ok]
        refine (hb.fz (ls := leak a ++ leak b) (c.ev ev2 (tkS t2)) fun i m => List.mem_append_right _ m).bind fun u3 v3 g3 h3 τ3 ev3 t3 r3 => ?_
        exact RO.ok (tkS t3) ⟨rfl, r3⟩
    · rw [if_neg hw]
      trivial
theorem ok_none : EoOk C PC none := by
  intro n0 F Φ p e τ h g x
  rw [pEo, Eo.den]
  exact RO.ok x.tk rfl
theorem ok_some (ha : EOk C PC a) : EoOk C PC (some a) := by
  intro n0 F Φ p e τ h g x
  rw [pEo, Eo.den]
  refine (ha.fz (ls := leak a) x fun i m => m).bind fun u v g1 h1 τ1 ev1 t1 r1 => ?_
  obtain ⟨d, fr⟩ := u
  cases d with
  | int i => rw [fz_int r1]; exact RO.ok (tkS t1) rfl
  | _ => trivial
theorem ok_nil : EsOk C PC [] := by
  intro n0 F Φ p e τ h g x
  rw [pEs, dens_nil]
  exact RO.ok x.tk .nil
theorem ok_cons (ha : EOk C PC a) (hs : EsOk C PC es) : EsOk C PC (a :: es) := by
  intro n0 F Φ p e τ h g x
  rw [pEs, dens_cons, leaks]
  refine (ha.fz (ls := leak a ++ leaks es) x fun i m => List.mem_append_left _ m).bind fun u v g1 h1 τ1 ev1 t1 r1 => ?_
  refine (hs.fz (ls := leak a ++ leaks es) (x.ev ev1 (tkS t1)) fun i m => List.mem_append_right _ m).bind fun u2 v2 g2 h2 τ2 ev2 t2 r2 => ?_
  exact RO.ok (tkS t2) (.cons (r1.ev ev2 fun _ _ z => z.elim) r2)
mutual
theorem pE_ok (K : CallOk C PC) : ∀ a : E, EOk C PC a
  | .var _ => ok_var
  | .lit _ => ok_lit
  | .bin _ a b => ok_bin (pE_ok K a) (pE_ok K b)
  | .neg a => ok_neg (pE_ok K a)
  | .not a => ok_not (pE_ok K a)
  | .cmp _ a b => ok_cmp (pE_ok K a) (pE_ok K b)
  | .cmp2 _ _ a b c => ok_cmp2 (pE_ok K a) (pE_ok K b) (pE_ok K c)
  | .and a b => ok_and (pE_ok K a) (pE_ok K b)
  | .or a b => ok_or (pE_ok K a) (pE_ok K b)
  | .ite c a b => ok_ite (pE_ok K c) (pE_ok K a) (pE_ok K b)
  | .tup es => ok_tup (pEs_ok K es)
  | .lst es => ok_lst (pEs_ok K es)
  | .ix a b => ok_ix (pE_ok K a) (pE_ok K b)
  | .sl a lo hi => ok_sl (pE_ok K a) (pEo_ok K lo) (pEo_ok K hi)
  | .call _ es => ok_call K (pEs_ok K es)
  | .bi _ es => ok_bi (pEs_ok K es)
  | .mt _ a es => ok_mt (pE_ok K a) (pEm_ok K es)
  | .comp _ _ _ es a => ok_comp (pEs_ok K es) (pE_ok K a)
  | .compIf _ _ _ es c a => ok_compIf (pEs_ok K es) (pE_ok K c) (pE_ok K a)
  | .dnew => ok_dnew
  | .dget a b => ok_dget (pE_ok K a) (pE_ok K b)
  | .dget2 a b c => ok_dget2 (pE_ok K a) (pE_ok K b) (pE_ok K c)
  | .fld _ a _ => ok_fld (pE_ok K a)
  | .meth _ _ a es => ok_meth K (pE_ok K a) (pEs_ok K es)
  | .tidx _ a => ok_tidx (pE_ok K a)
  | .allR _ _ _ _ a => ok_allR (pE_ok K a)
  | .genQ _ _ _ _ a => ok_genQ (pE_ok K a)
  | .disp es => ok_disp (pEs_ok K es)
  | .dcomp _ _ _ es a b => ok_dcomp (pEs_ok K es) (pE_ok K a) (pE_ok K b)
theorem pEm_ok (K : CallOk C PC) : ∀ es : List E, ∀ b, b ∈ es → EOk C PC b
  | [], _, m => nomatch m
  | a :: es, b, m => by
    rcases List.mem_cons.mp m with m | m
    · rw [m]; exact pE_ok K a
    · exact pEm_ok K es b m
theorem pEo_ok (K : CallOk C PC) : ∀ a : Option E, EoOk C PC a
  | none => ok_none
  | some a => ok_some (pE_ok K a)
theorem pEs_ok (K : CallOk C PC) : ∀ es : List E, EsOk C PC es
  | [] => ok_nil
  | a :: es => ok_cons (pE_ok K a) (pEs_ok K es)
end
end
end MQ
end
section
set_option Elab.async false
set_option linter.all false
set_option maxRecDepth 100000
set_option maxHeartbeats 4000000
/-! MQ, part e: statements. -/
namespace MQ
open PySem MP
/-- what slots of ms own -/
def MS (p : PEn) (e : En) (ms : List Nat) (l : Nat) : Prop := ∃ j, j ∈ ms ∧ OwnAt p e j l
structure NxOk (n0 : Nat) (F Φ : Nat → Prop) (M : Nat → Prop) (p : PEn) (e : En) (τ : List Nat) (h : MH) (p' : PEn) (e' : En) (τ' : List Nat) (h' : MH) (g' : GS) : Prop where
  ev : Ev M τ h τ' h'
  cx : Ctx n0 F Φ p' e' τ' h' g'
  kp : ∀ j l, OwnAt p' e' j l → l < h.length → OwnAt p e j l
def RS (n0 : Nat) (F Φ M : Nat → Prop) (p : PEn) (e : En) (τ : List Nat) (h : MH) (r : PSR) (m : SR) : Prop := match r with
  | .nx p' g' => ∃ e' h' τ', m = .nx e' h' ∧ NxOk n0 F Φ M p e τ h p' e' τ' h' g'
  | .bk p' g' => ∃ e' h' τ', m = .bk e' h' ∧ NxOk n0 F Φ M p e τ h p' e' τ' h' g'
  | .ct p' g' => ∃ e' h' τ', m = .ct e' h' ∧ NxOk n0 F Φ M p e τ h p' e' τ' h' g'
  | .rt d fr g' => ∃ v h' τ', m = .rt v h' ∧ Ev M τ h τ' h' ∧ TokR (fun x => Φ x ∨ TV (d, fr) v x) τ' h' g' ∧ VR F τ' h' n0 v d fr
  | .exc x p' g' => ∃ x' e' h' τ', m = .exc x' e' h' ∧ NxOk n0 F Φ M p e τ h p' e' τ' h' g' ∧ PXR F τ' h' x x'
  | .bad => True
section
variable {n0 n : Nat} {F F' Φ Φ' S M M' : Nat → Prop} {p p' p1 : PEn} {e e' e1 : En} {τ τ' τ1 : List Nat} {h h' h1 : MH} {g g' g1 : GS} {ls ls' : List Nat} {C : Cl} {PC : PCl}
theorem NxOk.refl (c : Ctx n0 F Φ p e τ h g) : NxOk n0 F Φ M p e τ h p e τ h g := ⟨.refl, c, fun _ _ o _ => o⟩
theorem Ev.trans' {M2 : Nat → Prop} {τ2 : List Nat} {h2 : MH} (x : Ev M τ h τ1 h1) (y : Ev M2 τ1 h1 τ2 h2) (hm : ∀ l, l < h.length → M2 l → M l) : Ev M τ h τ2 h2 := by
  refine ⟨?_, fun l m => ?_, Nat.le_trans x.len y.len, fun l hl n nm => ?_⟩
  · obtain ⟨t, e⟩ := x.pre
    obtain ⟨u, e'⟩ := y.pre
    exact ⟨t ++ u, by rw [e', e, List.append_assoc]⟩
  · rcases y.new l m with m | m
    · exact x.new l m
    · exact .inr (Nat.le_trans x.len m)
  · rw [y.fr l (Nat.lt_of_lt_of_le hl x.len) (x.old hl n) fun z => nm (hm l hl z), x.fr l hl n nm]
/-- from a later state -/
theorem RS.from {r : PSR} {m : SR} (k : NxOk n0 F Φ M p e τ h p1 e1 τ1 h1 g1) (q : RS n0 F Φ M' p1 e1 τ1 h1 r m) (hm : ∀ l, l < h.length → M' l → M l) : RS n0 F Φ M p e τ h r m := by
  have one : ∀ {p' e' τ' h' g'}, NxOk n0 F Φ M' p1 e1 τ1 h1 p' e' τ' h' g' → NxOk n0 F Φ M p e τ h p' e' τ' h' g' := fun w =>
    ⟨k.ev.trans' w.ev hm, w.cx, fun j l o hl => k.kp j l (w.kp j l o (Nat.lt_of_lt_of_le hl k.ev.len)) hl⟩
  cases r with
  | nx p' g' => obtain ⟨e', h', τ', rfl, w⟩ := q; exact ⟨e', h', τ', rfl, one w⟩
  | bk p' g' => obtain ⟨e', h', τ', rfl, w⟩ := q; exact ⟨e', h', τ', rfl, one w⟩
  | ct p' g' => obtain ⟨e', h', τ', rfl, w⟩ := q; exact ⟨e', h', τ', rfl, one w⟩
  | rt d fr g' => obtain ⟨v, h', τ', rfl, w, z⟩ := q; exact ⟨v, h', τ', rfl, k.ev.trans' w hm, z⟩
  | exc x p' g' => obtain ⟨x', e', h', τ', rfl, w, z⟩ := q; exact ⟨x', e', h', τ', rfl, one w, z⟩
  | bad => trivial
theorem RS.wk {r : PSR} {m : SR} (q : RS n0 F Φ M' p e τ h r m) (hm : ∀ l, l < h.length → M' l → M l) (c : Ctx n0 F Φ p e τ h g) : RS n0 F Φ M p e τ h r m := q.from (.refl c) hm
/-- an expression first -/
theorem RS.sr {α β : Type} {T : α → β → Nat → Prop} {R : List Nat → MH → α → β → Prop} {r : PR α} {m : Res β} {f : α → GS → PSR} {f' : β → MH → SR} (c : Ctx n0 F Φ p e τ h g) (q : RO (FL Φ p e) τ h T R r m)
    (k : ∀ a b g' h' τ', NxOk n0 F Φ M p e τ h p e τ' h' g' → TokR (fun x => FL Φ p e x ∨ T a b x) τ' h' g' → R τ' h' a b → RS n0 F Φ M p e τ' h' (f a g') (f' b h')) : RS n0 F Φ M p e τ h (r.sr p f) (m.sr e f') := by
  cases r with
  | bad => trivial
  | exc x g' =>
    obtain ⟨x', h', τ', rfl, a, b, w⟩ := q
    refine ⟨x', e, h', τ', rfl, ⟨a.wk fun _ _ z => z.elim, c.ev a b, fun _ _ o _ => o⟩, w.1, w.2.1, w.2.2.1.sub fun l z => .inl (c.FΦ l z), w.2.2.2⟩
  | ok a g' =>
    obtain ⟨b, h', τ', rfl, x, t, r⟩ := q
    have w : NxOk n0 F Φ M p e τ h p e τ' h' g' := ⟨x.wk fun _ _ z => z.elim, c.ev x (t.sub' fun _ _ z => .inl z), fun _ _ o _ => o⟩
    exact RS.from w (k a b g' h' τ' w t r) fun _ _ z => z
theorem RS.sr0 {α β : Type} {T : α → β → Nat → Prop} {R : List Nat → MH → α → β → Prop} {r : PR α} {m : Res β} {f : α → GS → PSR} {f' : β → MH → SR} (c : Ctx n0 F Φ p e τ h g) (q : RO (FL Φ p e) τ h T R r m)
    (k : ∀ a b g' h' τ', Ev NoM τ h τ' h' → TokR (fun x => FL Φ p e x ∨ T a b x) τ' h' g' → R τ' h' a b → RS n0 F Φ M p e τ h (f a g') (f' b h')) : RS n0 F Φ M p e τ h (r.sr p f) (m.sr e f') := by
  cases r with
  | bad => trivial
  | exc x g' =>
    obtain ⟨x', h', τ', rfl, a, b, w⟩ := q
    refine ⟨x', e, h', τ', rfl, ⟨a.wk fun _ _ z => z.elim, c.ev a b, fun _ _ o _ => o⟩, w.1, w.2.1, w.2.2.1.sub fun l z => .inl (c.FΦ l z), w.2.2.2⟩
  | ok a g' =>
    obtain ⟨b, h', τ', rfl, x, t, r⟩ := q
    exact k a b g' h' τ' x t r
/-! ### a value is stored -/
theorem Ctx.frz (c : Ctx n0 F Φ p e τ h g) (ls : List Nat) : Ctx n0 F Φ (frzP ls p) e τ h g ∧ (∀ j l, OwnAt (frzP ls p) e j l → j ∉ ls ∧ OwnAt p e j l) ∧ (∀ j l, j ∉ ls → OwnAt p e j l → OwnAt (frzP ls p) e j l) := by
  obtain ⟨a, b, k⟩ := c.en.frz c.bF ls
  refine ⟨⟨c.bF, c.FΦ, c.bΦ, c.hn, a, c.tk.sub' fun l _ z => ?_⟩, b, k⟩
  rcases z with z | ⟨j, hj, o⟩
  · exact .inl z
  · exact .inr ⟨j, hj, (b j l o).2⟩
/-- behind holdP the value may stand beside the slots -/
theorem Ctx.hold {d : D} {fr : Bool} {v : MV} (c : Ctx n0 F Φ p e τ h g) {N : Nat} (q : VR (FX F p e ls) τ' h' N v d fr) :
    Ctx n0 F Φ (holdP d fr ls p) e τ h g ∧ VR (FL F (holdP d fr ls p) e) τ' h' N v d fr ∧ (∀ j l, OwnAt (holdP d fr ls p) e j l → OwnAt p e j l) := by
  unfold holdP
  by_cases hc : clP d fr = true
  · rw [if_pos hc]
    refine ⟨c, ?_, fun _ _ o => o⟩
    rcases q with ⟨rfl, q⟩ | ⟨rfl, l, o, a, b, k, f, q⟩
    · exact .inl ⟨rfl, q.im (by cases d <;> exact hc)⟩
    · refine .inr ⟨rfl, l, o, a, b, k, f, ?_⟩
      cases q with
      | lst q => exact .lst (q.im hc)
      | dct q => exact .dct (q.im hc)
      | ins q => exact .ins (q.im hc)
  · rw [if_neg hc]
    obtain ⟨a, b, k⟩ := c.frz ls
    refine ⟨a, ?_, fun j l o => (b j l o).2⟩
    have sub : ∀ l, FL F (frzP ls p) e l → FX F p e ls l := fun l z => by
      rcases z with z | ⟨j, _, o⟩
      · exact .inl z
      · exact .inr ⟨j, (b j l o).1, (b j l o).2⟩
    rcases q with ⟨q1, q⟩ | ⟨q1, l, o, q2, q3, q4, q5, q⟩
    · exact .inl ⟨q1, q.sub sub⟩
    · exact .inr ⟨q1, l, o, q2, q3, q4, q5, q.sub fun x z => z.imp (sub x) id⟩
theorem Ctx.setFz (c : Ctx n0 F Φ p e τ h g) {i : Nat} {d : D} {v : MV} (q : Fz (FL F p e) τ h v d) : Ctx n0 F Φ (p.set i (some (d, false))) (e.set i (some v)) τ h g :=
  ⟨c.bF, c.FΦ, c.bΦ, c.hn, c.en.setFz q, c.tk.sub' fun l _ z => by
    rcases z with z | ⟨j, hj, o⟩
    · exact .inl z
    · exact .inr ⟨j, hj, (own_set o).2⟩⟩
theorem Ctx.tset (c : Ctx n0 F Φ p e τ h g) {t : Tg} {d : D} {v : MV} (q : Fz (FL F p e) τ h v d) (hp : tsetP t d p = some p') : ∃ e', t.set v e = some e' ∧ Ctx n0 F Φ p' e' τ h g ∧ (∀ j l, OwnAt p' e' j l → OwnAt p e j l) := by
  obtain ⟨e', a, b, k, _⟩ := tset_ok c.en q hp
  refine ⟨e', a, ⟨c.bF, c.FΦ, c.bΦ, c.hn, b, c.tk.sub' fun l _ z => ?_⟩, k⟩
  rcases z with z | ⟨j, hj, o⟩
  · exact .inl z
  · exact .inr ⟨j, hj, k j l o⟩
theorem own_setT {i j l l' : Nat} {d : D} (o : OwnAt (p.set i (some (d, true))) (e.set i (some (.loc l'))) j l) (hl : p.length = e.length) : (j = i ∧ l = l') ∨ (j ≠ i ∧ OwnAt p e j l) := by
  obtain ⟨a, b⟩ := o
  rw [ownP_set] at a
  rw [envGet_set] at b
  by_cases q : i = j
  · rw [if_pos q] at a b
    split at a
    · rw [if_pos (by rw [← hl]; assumption)] at b
      cases b
      exact .inl ⟨q.symm, rfl⟩
    · cases a
  · rw [if_neg q] at a b
    exact .inr ⟨fun z => q z.symm, a, b⟩
/-- a slot gets a new list of its own -/
theorem Ctx.setOw (c : Ctx n0 F Φ p e τ h g) {i l : Nat} {d : D} {o : MO} (ev : Ev NoM τ h τ' h') (tk : TokR (fun x => FL Φ p e x ∨ x = l) τ' h' g') (hl : h.length ≤ l) (nt : l ∉ τ') (ho : h'[l]? = some o) (q : Ob (fun x => FL F p e x ∨ x = l) τ' h' o d) :
    Ctx n0 F Φ (p.set i (some (d, true))) (e.set i (some (.loc l))) τ' h' g' ∧ (∀ j l', OwnAt (p.set i (some (d, true))) (e.set i (some (.loc l))) j l' → l' < h.length → OwnAt p e j l') := by
  have sp := c.en.len
  have cut : ∀ x, FL F (p.set i (some (d, true))) (e.set i (some (.loc l))) x → FL F p e x ∨ x = l := fun x z => by
    rcases z with z | ⟨j, hj, o⟩
    · exact .inl (.inl z)
    · rcases own_setT o sp with ⟨_, z⟩ | ⟨_, z⟩
      · exact .inr z
      · exact .inl (.inr ⟨j, hj, z⟩)
  have up : ∀ {v : MV} {d : D}, Fz (FL F p e) τ h v d → Fz (fun x => FL F p e x ∨ x = l) τ' h' v d := fun a =>
    (a.sub' (F' := fun x => FL F p e x ∨ x = l) fun x hx z => z.elim id fun z => by omega).ev ev fun _ _ z => z.elim
  have upO : ∀ {v : MO} {d : D}, Ob (FL F p e) τ h v d → Ob (fun x => FL F p e x ∨ x = l) τ' h' v d := fun a =>
    (a.sub' (F' := fun x => FL F p e x ∨ x = l) fun x hx z => z.elim id fun z => by omega).ev ev fun _ _ z => z.elim
  refine ⟨⟨c.bF, c.FΦ, fun x z => Nat.lt_of_lt_of_le (c.bΦ x z) ev.len, Nat.le_trans c.hn ev.len, ⟨by simp [sp], fun j u a b => ?_, fun j u a => ?_, fun j k x a b => ?_⟩, tk.sub' fun x _ z => ?_⟩, fun j l' o hl' => ?_⟩
  · rw [getP_set] at a
    rw [ownP_set] at b
    rw [envGet_set]
    by_cases hq : i = j
    · rw [if_pos hq] at a b
      by_cases hi : i < p.length
      · rw [if_pos hi] at b
        cases b
      · rw [if_neg hi] at a
        cases a
    · rw [if_neg hq] at a b ⊢
      obtain ⟨w, k, z⟩ := c.en.fz j u a b
      exact ⟨w, k, (up z).sub cut⟩
  · rw [ownP_set] at a
    rw [envGet_set]
    by_cases hq : i = j
    · rw [if_pos hq] at a ⊢
      by_cases hi : i < p.length
      · rw [if_pos hi] at a
        cases a
        rw [if_pos (by rw [← sp]; exact hi)]
        exact ⟨l, o, rfl, Nat.le_trans c.hn hl, nt, ho, q.sub cut⟩
      · rw [if_neg hi] at a
        cases a
    · rw [if_neg hq] at a ⊢
      obtain ⟨x, o', b, k, f, w, z⟩ := c.en.ow j u a
      exact ⟨x, o', b, k, ev.old (lt_of_get w) f, by rw [ev.fr x (lt_of_get w) f id]; exact w, (upO z).sub cut⟩
  · rcases own_setT a sp with ⟨h1, h2⟩ | ⟨_, a'⟩ <;> rcases own_setT b sp with ⟨h3, h4⟩ | ⟨_, b'⟩
    · rw [h1, h3]
    · have := (OwnAt.lt c.en b').1; omega
    · have := (OwnAt.lt c.en a').1; omega
    · exact c.en.inj j k x a' b'
  · rcases z with z | ⟨j, hj, o⟩
    · exact .inl (.inl z)
    · rcases own_setT o sp with ⟨_, z⟩ | ⟨_, z⟩
      · exact .inr z
      · exact .inl (.inr ⟨j, hj, z⟩)
  · rcases own_setT o sp with ⟨_, z⟩ | ⟨_, z⟩
    · omega
    · exact z
/-- a slot's own list changes -/
theorem TokR.chg (t : TokR S τ h g) {l : Nat} {o : MO} (nt : l ∉ τ) (hS : S l) : TokR S τ (h.set l o) g := by
  have ev : Ev (fun x => x = l) τ h τ (h.set l o) := ⟨⟨[], by simp⟩, fun _ m => .inl m, by simp, fun x hx _ nx => List.getElem?_set_ne fun z => nx z.symm⟩
  refine ⟨t.len, t.nd, fun n u e => ?_, t.tb⟩
  obtain ⟨l', mo, a, b, c⟩ := t.obj n u e
  refine ⟨l', mo, a, by rw [List.getElem?_set_ne fun z => nt (by rw [z]; exact List.mem_of_getElem? a)]; exact b, ?_⟩
  cases mo <;> cases u <;> first | exact Fzs.ev ev (fun x _ z => by rw [z]; exact hS) c | exact c | exact c.elim
theorem Ctx.chOw (c : Ctx n0 F Φ p e τ h g) {i l : Nat} {d : D} {o : MO} (ow : OwnAt p e i l) (q : Ob (FL F p e) τ h o d) :
    NxOk n0 F Φ (MS p e [i]) p e τ h (p.set i (some (d, true))) e τ (h.set l o) g := by
  obtain ⟨w1, w2, w3⟩ := OwnAt.lt c.en ow
  have ev : Ev (fun x => x = l) τ h τ (h.set l o) := ⟨⟨[], by simp⟩, fun _ m => .inl m, by simp, fun x hx _ nx => List.getElem?_set_ne fun z => nx z.symm⟩
  have fl : FL F p e l := .inr ⟨i, by simp, ow⟩
  have ed : ∀ j x, OwnAt (p.set i (some (d, true))) e j x → OwnAt p e j x := fun j x z => by
    obtain ⟨a, b⟩ := z
    rw [ownP_set] at a
    by_cases hq : i = j
    · subst hq
      exact ⟨ow.1, b⟩
    · rw [if_neg hq] at a
      exact ⟨a, b⟩
  have cut : ∀ x, FL F (p.set i (some (d, true))) e x → FL F p e x := fun x z => by
    rcases z with z | ⟨j, hj, o⟩
    · exact .inl z
    · exact .inr ⟨j, hj, ed j x o⟩
  refine ⟨ev.wk fun x hx z => ⟨i, by simp, by rw [z]; exact ow⟩, ⟨c.bF, c.FΦ, fun x z => Nat.lt_of_lt_of_le (c.bΦ x z) ev.len, Nat.le_trans c.hn ev.len, ⟨by simp [c.en.len], fun j u a b => ?_, fun j u a => ?_, fun j k x a b => c.en.inj j k x (ed j x a) (ed k x b)⟩, ?_⟩, fun j x o _ => ed j x o⟩
  · rw [getP_set] at a
    rw [ownP_set] at b
    by_cases hq : i = j
    · rw [if_pos hq] at a b
      by_cases hi : i < p.length
      · rw [if_pos hi] at b
        cases b
      · rw [if_neg hi] at a
        cases a
    · rw [if_neg hq] at a b
      obtain ⟨w, k, z⟩ := c.en.fz j u a b
      exact ⟨w, k, (z.ev ev fun x _ z => by rw [z]; exact fl).sub cut⟩
  · rw [ownP_set] at a
    by_cases hq : i = j
    · subst hq
      rw [if_pos rfl] at a
      split at a
      · cases a
        exact ⟨l, o, ow.2, w2, w3, List.getElem?_set_self w1, (q.ev ev fun x _ z => by rw [z]; exact fl).sub cut⟩
      · cases a
    · rw [if_neg hq] at a
      obtain ⟨x, o', b, k, f, w, z⟩ := c.en.ow j u a
      have nx : l ≠ x := fun z => by
        subst z
        exact hq (c.en.inj i j l ow ⟨by rw [a]; rfl, b⟩)
      exact ⟨x, o', b, k, f, by rw [List.getElem?_set_ne nx]; exact w, (z.ev ev fun x _ z => by rw [z]; exact fl).sub cut⟩
  · refine (TokR.chg c.tk w3 (.inr ⟨i, by simp, ow⟩)).sub' fun x _ z => ?_
    rcases z with z | ⟨j, hj, o⟩
    · exact .inl z
    · exact .inr ⟨j, hj, ed j x o⟩
/-- an object changes -/
theorem Ctx.chTok (c : Ctx n0 F Φ p e τ h g) {n l : Nat} {xs : List MV} {ds : List D} (hn : τ[n]? = some l) (q : Fzs (FL Φ p e) τ h xs ds) :
    NxOk n0 F Φ M p e τ h p e τ (h.set l (.lst xs)) (g.set n (.lst ds)) := by
  have ml := List.mem_of_getElem? hn
  have ev : Ev NoM τ h τ (h.set l (.lst xs)) := ⟨⟨[], by simp⟩, fun _ m => .inl m, by simp, fun x hx m _ => List.getElem?_set_ne fun z => m (by rw [← z]; exact ml)⟩
  refine ⟨ev.wk fun _ _ z => z.elim, c.ev ev ⟨by simp [c.tk.len], c.tk.nd, fun m u e => ?_, fun m y e => ?_⟩, fun _ _ o _ => o⟩
  rotate_left
  · by_cases hm : n = m
    · subst hm
      have hg : n < g.length := by rw [← c.tk.len]; exact lt_of_get hn
      rw [List.getElem?_set_self hg] at e
      cases e
    · rw [List.getElem?_set_ne hm] at e
      exact c.tk.tb m y e
  by_cases hm : n = m
  · subst hm
    have hg : n < g.length := by rw [← c.tk.len]; exact lt_of_get hn
    rw [List.getElem?_set_self hg] at e
    cases e
    exact ⟨l, .lst xs, hn, List.getElem?_set_self (c.tk.lt ml), Fzs.ev ev (fun _ _ z => z.elim) q⟩
  · rw [List.getElem?_set_ne hm] at e
    obtain ⟨l', mo, a, b, k⟩ := c.tk.obj m u e
    have nl : l ≠ l' := fun z => by
      subst z
      obtain ⟨i1, e1⟩ := List.getElem?_eq_some_iff.mp hn
      obtain ⟨i2, e2⟩ := List.getElem?_eq_some_iff.mp a
      exact hm (nd_inj c.tk.nd i1 i2 (e1.trans e2.symm))
    refine ⟨l', mo, a, by rw [List.getElem?_set_ne nl]; exact b, ?_⟩
    cases mo <;> cases u <;> first | exact Fzs.ev ev (fun _ _ z => z.elim) k | exact k | exact k.elim
/-- a new object -/
theorem Ctx.newTok (c : Ctx n0 F Φ p e τ h g) {i l : Nat} {xs : List MV} {ds : List D} (ev : Ev NoM τ h τ' h') (tk : TokR (fun x => FL Φ p e x ∨ x = l) τ' h' g') (hl : h.length ≤ l) (nt : l ∉ τ') (ho : h'[l]? = some (.lst xs)) (q : Fzs (fun x => FL Φ p e x ∨ x = l) τ' h' xs ds) :
    NxOk n0 F Φ M p e τ h (p.set i (some (.tok g'.length, false))) (e.set i (some (.loc l))) (τ' ++ [l]) h' (g' ++ [.lst ds]) := by
  have ev' : Ev NoM τ h (τ' ++ [l]) h' := by
    refine ⟨?_, fun x m => ?_, ev.len, ev.fr⟩
    · obtain ⟨t, rfl⟩ := ev.pre
      exact ⟨t ++ [l], by rw [List.append_assoc]⟩
    · rcases List.mem_append.mp m with m | m
      · exact ev.new x m
      · rw [List.mem_singleton.mp m]
        exact .inr hl
  have go : ∀ {xs : List MV} {ds : List D}, Fzs (fun x => FL Φ p e x ∨ x = l) τ' h' xs ds → Fzs (FL Φ p e) (τ' ++ [l]) h' xs ds := fun q =>
    q.mono (fun x o a b z => ⟨fun w => a (.inl w), fun m => by
      rcases List.mem_append.mp m with m | m
      · exact b m
      · exact a (.inr (List.mem_singleton.mp m)), z⟩) fun n x z => by rw [List.getElem?_append_left (lt_of_get z)]; exact z
  have t' : TokR (FL Φ p e) (τ' ++ [l]) h' (g' ++ [.lst ds]) := by
    refine ⟨by simp [tk.len], ?_, fun m u z => ?_, fun m y z => ?_⟩
    · rw [List.nodup_append]
      exact ⟨tk.nd, by simp, fun a ha b hb => by rw [List.mem_singleton.mp hb]; exact fun z => nt (z ▸ ha)⟩
    · by_cases hm : m < g'.length
      · rw [List.getElem?_append_left hm] at z
        obtain ⟨l', mo, a, b, k⟩ := tk.obj m u z
        refine ⟨l', mo, by rw [List.getElem?_append_left (lt_of_get a)]; exact a, b, ?_⟩
        cases mo <;> cases u <;> first | exact go k | exact k | exact k.elim
      · have hmm : m = g'.length := by
          have := lt_of_get z
          simp at this
          omega
        subst hmm
        rw [List.getElem?_concat_length] at z
        cases z
        exact ⟨l, .lst xs, by rw [← tk.len, List.getElem?_concat_length], ho, go q⟩
    · by_cases hm : m < g'.length
      · rw [List.getElem?_append_left hm] at z
        have a := tk.tb m y z
        rw [List.getElem?_append_left (lt_of_get a)]
        exact a
      · have hmm : m = g'.length := by
          have := lt_of_get z
          simp at this
          omega
        subst hmm
        rw [List.getElem?_concat_length] at z
        cases z
  have c2 := c.ev ev' t'
  exact ⟨ev'.wk fun _ _ z => z.elim, c2.setFz (.tok (by rw [← tk.len, List.getElem?_concat_length])), fun j x o _ => (own_set o).2⟩
end
end MQ
end
section
set_option Elab.async false
set_option linter.all false
set_option maxRecDepth 100000
set_option maxHeartbeats 4000000
/-! MQ, part f: statements, all. -/
namespace MQ
open PySem MP
def SOk (C : Cl) (PC : PCl) (tk : List Nat) (s : S) : Prop := ∀ (n0 : Nat) (F Φ : Nat → Prop) (p : PEn) (e : En) (τ : List Nat) (h : MH) (g : GS), ((∀ i ∈ tk, 1000 ≤ i) ∨ ∀ l, Φ l → F l) → Ctx n0 F Φ p e τ h g → RS n0 F Φ (MS p e (mutd s)) p e τ h (pS PC tk s p g) (S.den C s e h)
def SsOk (C : Cl) (PC : PCl) (tk : List Nat) (ss : List S) : Prop := ∀ (n0 : Nat) (F Φ : Nat → Prop) (p : PEn) (e : En) (τ : List Nat) (h : MH) (g : GS), ((∀ i ∈ tk, 1000 ≤ i) ∨ ∀ l, Φ l → F l) → Ctx n0 F Φ p e τ h g → RS n0 F Φ (MS p e (mutds ss)) p e τ h (pSs PC tk ss p g) (Ss.den C ss e h)
section
variable {n0 n : Nat} {F F' Φ Φ' T M M' : Nat → Prop} {p p' p1 : PEn} {e e' e1 : En} {τ τ' τ1 : List Nat} {h h' h1 : MH} {g g' g1 : GS} {ls ls' tk : List Nat} {C : Cl} {PC : PCl} {a b c : E} {es : List E}
theorem appOf_eq {i : Nat} {x : E} (q : appOf a = some (i, x)) : a = .mt .append (.var i) [x] := by
  unfold appOf at q
  split at q
  · cases q; rfl
  · cases q
theorem popOf_eq {i : Nat} (q : popOf a = some i) : a = .mt .pop (.var i) [] := by
  unfold popOf at q
  split at q
  · cases q; rfl
  · cases q
theorem varOf_eq {i : Nat} (q : varOf a = some i) : a = .var i := by
  unfold varOf at q
  split at q
  · cases q; rfl
  · cases q
theorem ownL_ok {i : Nat} (q : ownL p i = true) : ∃ ds, ownP p i = some (.lst ds) := by
  unfold ownL at q
  split at q
  · rename_i ds e; exact ⟨ds, e⟩
  · cases q
theorem ownC_ok {i : Nat} (q : ownC p i = true) : ∃ d, ownP p i = some d := by
  unfold ownC at q
  split at q
  · rename_i ds e; exact ⟨_, e⟩
  · rename_i ks ds e; exact ⟨_, e⟩
  · cases q
theorem setL_set {o i v : MV} {h r : MH} (e : setL o i v h = some r) : setIxO o i v h = some r := by
  unfold setIxO
  rw [e]
  rfl
theorem setD_set {l : Nat} {i v : MV} {h : MH} {ks : List L2.Key} {xs : List MV} {k : L2.Key} (e : h[l]? = some (.dct ks xs)) (ek : keyO i = some k) (hz : ks.length < sizeLine) : setIxO (.loc l) i v h = some (h.set l (dPut ks xs k v)) := by
  have e1 : setL (.loc l) i v h = none := by cases i <;> simp [setL, e]
  unfold setIxO
  rw [e1, Option.none_or]
  unfold setD
  simp only
  rw [dctO_of e, Option.bind_some, ek, Option.bind_some, if_pos hz]
theorem dPut_ob {F : Nat → Prop} {τ : List Nat} {h : MH} {ks : List L2.Key} {xs : List MV} {ds : List D} {k : L2.Key} {v : MV} {d : D} (q : Fzs F τ h xs ds) (r : Fz F τ h v d) : Ob F τ h (dPut ks xs k v) (dPutP ks ds k d) := by
  unfold dPut dPutP
  cases kIx ks k with
  | some i => exact .dct (q.set r i)
  | none => exact .dct (q.append (.one r))
theorem EnR.dct (r : EnR n0 F τ h p e) {i : Nat} {ks : List L2.Key} {ds : List D} (q : ownP p i = some (.dct ks ds)) : ∃ l xs, envGet e i = some (.loc l) ∧ OwnAt p e i l ∧ h[l]? = some (.dct ks xs) ∧ Fzs (FL F p e) τ h xs ds := by
  obtain ⟨l, o, a, _, _, b, c⟩ := r.ow i _ q
  cases c with
  | dct c => exact ⟨l, _, a, ⟨by rw [q]; rfl, a⟩, b, c⟩
theorem EnR.lst (r : EnR n0 F τ h p e) {i : Nat} {ds : List D} (q : ownP p i = some (.lst ds)) : ∃ l xs, envGet e i = some (.loc l) ∧ OwnAt p e i l ∧ h[l]? = some (.lst xs) ∧ Fzs (FL F p e) τ h xs ds := by
  obtain ⟨l, o, a, _, _, b, c⟩ := r.ow i _ q
  cases c with
  | lst c => exact ⟨l, _, a, ⟨by rw [q]; rfl, a⟩, b, c⟩
theorem hold_own {d : D} {fr : Bool} {i : Nat} {d' : D} (q : ownP (holdP d fr ls p) i = some d') : ownP p i = some d' := by
  unfold holdP at q
  split at q
  · exact q
  · rw [ownP_frz] at q
    split at q
    · cases q
    · exact q
theorem s_expr (K : CallOk C PC) : SOk C PC tk (.expr a) := by
  intro n0 F Φ p e τ h g ht c
  rw [pS, run_expr, mutd]
  cases q : appOf a with
  | none =>
    simp only
    refine RS.sr c (pE_ok K a n0 F Φ p e τ h g c) fun a b g' h' τ' k t r => ?_
    exact ⟨e, h', τ', rfl, .refl k.cx⟩
  | some ix =>
    obtain ⟨i, x⟩ := ix
    have := appOf_eq q
    subst this
    simp only
    by_cases ho : ownL p i = true
    · rw [if_pos ho]
      obtain ⟨ds, ow⟩ := ownL_ok ho
      obtain ⟨l, xs, a1, a2, a3, a4⟩ := c.en.lst ow
      rw [den_mt, den_var, a1]
      simp only [oR_some, Res.bind_ok]
      rw [if_pos (recv_loc a3), dens_cons]
      have e1 : ((E.den C x e h).bind fun v h1 => (Es.den C [] e h1).bind fun vs h2 => Res.ok (v :: vs) h2).bind (fun vs h2 => oP (mtO .append (.loc l) vs h2)) = (E.den C x e h).bind fun v h1 => oP (mtO .append (.loc l) [v] h1) := by
        cases E.den C x e h with
        | ok v h1 => simp only [Res.bind_ok, dens_nil]
        | exc _ _ => rfl
        | bad => rfl
      rw [e1]
      have e2 : ((E.den C x e h).bind fun v h1 => oP (mtO .append (.loc l) [v] h1)).sr e (fun _ h1 => .nx e h1) = (E.den C x e h).sr e fun v h1 => (oP (mtO .append (.loc l) [v] h1)).sr e fun _ h1 => .nx e h1 := by
        cases E.den C x e h <;> rfl
      rw [e2]
      refine RS.sr c (pE_ok K x n0 F Φ p e τ h g c) fun u v g' h' τ' k t r => ?_
      obtain ⟨d, fr⟩ := u
      obtain ⟨c2, r2, -⟩ := k.cx.hold (ls := leak x) r
      unfold appP
      split
      · rename_i ds2 q2
        have : ds2 = ds := by
          have := hold_own q2
          rw [ow] at this
          cases this
          rfl
        subst this
        split
        · rename_i hz
          obtain ⟨l2, xs2, b1, b2, b3, b4⟩ := c2.en.lst q2
          have : l2 = l := by rw [a1] at b1; cases b1; rfl
          subst this
          rw [append_loc b3 (by rw [b4.length]; exact hz)]
          have w := c2.chOw b2 (.lst (b4.append (.one (r2.fz fun l z => by
            rcases z with z | ⟨j, _, o⟩
            · exact Nat.lt_of_lt_of_le (c.bF l z) c.hn
            · exact (OwnAt.lt c.en (⟨by
                obtain ⟨o1, o2⟩ := o
                cases hq : ownP (holdP d fr (leak x) p) j with
                | none => rw [hq] at o1; cases o1
                | some dd => rw [hold_own hq]; rfl, o.2⟩ : OwnAt p e j l)).1))))
          refine ⟨e, _, τ', rfl, w.ev.wk fun x hx z => ⟨i, by simp [optL], a2.1, ?_⟩, w.cx, fun j y o hl => ?_⟩
          · obtain ⟨j, hj, o⟩ := z
            rw [List.mem_singleton.mp hj] at o
            exact o.2
          · have o := w.kp j y o hl
            obtain ⟨o1, o2⟩ := o
            cases hq : ownP (holdP d fr (leak x) p) j with
            | none => rw [hq] at o1; cases o1
            | some dd => exact ⟨by rw [hold_own hq]; rfl, o2⟩
        · trivial
      · trivial
    · rw [if_neg ho]
      trivial
theorem hold_at {d : D} {fr : Bool} {j l : Nat} (o : OwnAt (holdP d fr ls p) e j l) : OwnAt p e j l := by
  obtain ⟨o1, o2⟩ := o
  cases hq : ownP (holdP d fr ls p) j with
  | none => rw [hq] at o1; cases o1
  | some dd => exact ⟨by rw [hold_own hq]; rfl, o2⟩
theorem hold_lt {d : D} {fr : Bool} {l : Nat} (c : Ctx n0 F Φ p e τ h g) (z : FL F (holdP d fr ls p) e l) : l < h.length := by
  rcases z with z | ⟨j, _, o⟩
  · exact Nat.lt_of_lt_of_le (c.bF l z) c.hn
  · exact (OwnAt.lt c.en (hold_at o)).1
theorem stE_eq {j : Nat} : ∀ {a : E}, stE a = some j → a = .lst [.lit (.int 0), .lit (.int 0), .bi .list [.var j], .lit (.int 1)] := by
  intro a h
  unfold stE at h
  split at h
  · cases h; rfl
  · cases h
/-- the laws' own state becomes an object -/
theorem st_ok {t : Tg} (c : Ctx n0 F Φ p e τ h g) : RS n0 F Φ (MS p e []) p e τ h (stP t a p g) ((E.den C a e h).sr e fun v h1 => match t.setH v h1 e with
    | some e' => .nx e' h1
    | none => .bad) := by
  unfold stP
  split
  · rename_i i j hj
    have := stE_eq hj
    subst this
    split
    · rename_i xs hg
      by_cases him : Ds.im xs = true
      · rw [if_pos him]
        have hno : ownP p j = none := by
          cases ho : ownP p j with
          | none => rfl
          | some d =>
            have e1 := ownP_get ho
            rw [hg] at e1
            cases e1
            obtain ⟨l, o, _, _, _, _, q⟩ := c.en.ow j _ ho
            cases q
        obtain ⟨v, ev, qv⟩ := c.en.fz j _ hg hno
        cases qv with
        | loc _ _ _ o => cases o
        | rol qv =>
          rename_i ys
          have hit : biO .list [.rol ys] h = some (.loc h.length, h ++ [.lst ys]) := rfl
          have hsz : [MV.int 0, .int 0, .loc h.length, .int 1].length ≤ sizeLine := by show 4 ≤ _; decide
          rw [den_lst, dens_cons, den_lit]
          simp only [Res.bind_ok]
          rw [dens_cons, den_lit]
          simp only [Res.bind_ok]
          rw [dens_cons, den_bi, dens_cons, den_var, ev]
          simp only [oR_some, Res.bind_ok]
          rw [dens_nil]
          simp only [Res.bind_ok]
          rw [hit]
          simp only [oP_some, Res.bind_ok]
          rw [dens_cons, den_lit]
          simp only [Res.bind_ok]
          rw [dens_nil]
          simp only [Res.bind_ok]
          rw [if_pos hsz]
          simp only [Res.sr_ok, setH_nm]
          have nt : ∀ k, h.length ≤ k → k ∉ τ := fun k hk m => by
            have := c.tk.lt m
            omega
          have eh : ∀ l o, h[l]? = some o → (h ++ [MO.lst ys] ++ [.lst [.int 0, .int 0, .loc h.length, .int 1]])[l]? = some o := fun l o z => by
            have := lt_of_get z
            rw [List.append_assoc, List.getElem?_append_left this]
            exact z
          have evv : Ev NoM τ h τ (h ++ [MO.lst ys] ++ [.lst [.int 0, .int 0, .loc h.length, .int 1]]) := ⟨⟨[], by simp⟩, fun _ m => .inl m, (by rw [List.length_append, List.length_append]; omega), fun l hl _ _ => by
            rw [List.append_assoc, List.getElem?_append_left hl]⟩
          have tk0 : TokR (fun x => FL Φ p e x ∨ x = (h ++ [MO.lst ys]).length) τ h g := c.tk.sub' fun l hl z => by
            rcases z with z | z
            · exact z
            · simp at z
              omega
          have w := c.newTok (M := MS p e []) (i := i) (l := (h ++ [MO.lst ys]).length) (xs := [.int 0, .int 0, .loc h.length, .int 1]) (ds := [.int 0, .int 0, .lst xs, .int 1]) evv tk0.add.add (by simp) (nt _ (by simp)) (by rw [List.getElem?_concat_length]) (.cons (.int 0) (.cons (.int 0) (.cons (.loc (fun z => by
              rcases z with z | z
              · have := c.bL z
                omega
              · simp at z) (nt _ (Nat.le_refl _)) (by simp) (.lst (qv.im him))) (.cons (.int 1) .nil))))
          exact ⟨_, _, _, rfl, w.ev, w.cx, fun j x o hl => w.kp j x o hl⟩
      · rw [if_neg him]; trivial
    · trivial
  · trivial
theorem s_asg (K : CallOk C PC) {t : Tg} : SOk C PC tk (.asg t a) := by
  intro n0 F Φ p e τ h g ht c
  rw [pS, run_asg, mutd]
  cases q : popOf a with
  | some i =>
    have := popOf_eq q
    subst this
    simp only
    unfold popP
    split
    · rename_i ds ow
      obtain ⟨l, xs, a1, a2, a3, a4⟩ := c.en.lst ow
      split
      · rename_i y hy
        rw [den_mt, den_var, a1]
        simp only [oR_some, Res.bind_ok]
        rw [if_pos (recv_loc a3), dens_nil]
        simp only [Res.bind_ok]
        obtain ⟨v, hv, qv⟩ := a4.get hy
        have em : mtO .pop (.loc l) [] h = some (v, h.set l (.lst xs.dropLast)) := by
          simp only [mtO, a3]
          rw [a4.length, hv]
        rw [em]
        have w := c.chOw a2 (.lst a4.dropLast)
        simp only [oP_some, Res.sr_ok]
        have evx : Ev (fun x => x = l) τ h τ (h.set l (.lst xs.dropLast)) := ⟨⟨[], by simp⟩, fun _ m => .inl m, by simp, fun x hx _ nx => List.getElem?_set_ne fun z => nx z.symm⟩
        have qv2 : Fz (FL F (p.set i (some (.lst ds.dropLast, true))) e) τ (h.set l (.lst xs.dropLast)) v y := (qv.ev evx fun x _ z => by rw [z]; exact .inr ⟨i, by simp, a2⟩).sub fun x z => by
          rcases z with z | ⟨j, hj, o⟩
          · exact .inl z
          · by_cases hl : x < h.length
            · exact .inr ⟨j, hj, w.kp j x o hl⟩
            · have := (OwnAt.lt w.cx.en o).1
              simp at this
              omega
        cases hp : tsetP t y (p.set i (some (.lst ds.dropLast, true))) with
        | none => trivial
        | some p' =>
          obtain ⟨e', s1, s2, s3⟩ := w.cx.tset qv2 hp
          rw [setH_of s1]
          exact ⟨e', _, τ, rfl, w.ev, s2, fun j x o hl => w.kp j x (s3 j x o) hl⟩
      · trivial
    · trivial
  | none =>
    simp only
    by_cases hst : stK tk t = true
    · rw [if_pos hst]
      exact st_ok c
    rw [if_neg hst]
    refine RS.sr0 c (pE_ok K a n0 F Φ p e τ h g c) fun u v g' h' τ' ev t2 r => ?_
    obtain ⟨d, fr⟩ := u
    obtain ⟨c1, r2, -⟩ := c.hold (ls := leak a) r
    simp only
    generalize hp0 : holdP d fr (leak a) p = pf at c1 r2
    have hat : ∀ j l, OwnAt pf e j l → OwnAt p e j l := fun j l o => by rw [← hp0] at o; exact hold_at o
    have bl : ∀ l, FL F pf e l → l < h.length := fun l z => by rw [← hp0] at z; exact hold_lt c z
    have tF : TokR (FL Φ pf e) τ' h' g' := t2.sub' fun x _ z => by
      rcases z with z | ⟨j, hj, z⟩
      · exact .inl (.inl z)
      · exact .inl (.inr ⟨j, hj, hat j x z⟩)
    have c2 := c1.ev ev tF
    have plain : Fz (FL F pf e) τ' h' v d := r2.fz bl
    have t3 : ∀ l, v = .loc l → fr = true → TokR (fun x => FL Φ pf e x ∨ x = l) τ' h' g' := fun l hv hf => t2.sub' fun x _ z => by
      rcases z with (z | ⟨j, hj, z⟩) | z
      · exact .inl (.inl z)
      · exact .inl (.inr ⟨j, hj, hat j x z⟩)
      · exact .inr ⟨hf, by rw [hv, z]⟩
    have evM : Ev (MS p e []) τ h τ' h' := ev.wk fun _ _ z => z.elim
    have fin : ∀ {p' e'}, Ctx n0 F Φ p' e' τ' h' g' → (∀ j l, OwnAt p' e' j l → OwnAt pf e j l) → NxOk n0 F Φ (MS p e []) p e τ h p' e' τ' h' g' := fun x y => ⟨evM, x, fun j l o _ => hat j l (y j l o)⟩
    cases t with
    | nm i =>
      unfold asgP
      simp only [setH_nm]
      have same : NxOk n0 F Φ (MS p e []) p e τ h (pf.set i (some (d, false))) (e.set i (some v)) τ' h' g' := fin (c2.setFz plain) fun j l o => (own_set o).2
      by_cases hk : tkB tk i = true
      · rw [if_pos hk]
        split
        · rename_i _ _ xs
          rcases r2 with ⟨w1, _⟩ | ⟨_, l, o, rfl, w2, w3, w4, w5⟩
          · cases w1
          · cases w5 with
            | lst w5 =>
              have hΦ : ∀ l, Φ l → F l := ht.resolve_left fun z => by
                unfold tkB at hk
                rw [Bool.and_eq_true, List.contains_iff_mem, decide_eq_true_iff] at hk
                have := z i hk.1
                omega
              have w := c1.newTok (M := MS p e []) (i := i) ev (t3 l rfl rfl) w2 w3 w4 (w5.sub fun x z => by
                rcases z with (z | z) | z
                · exact .inl (.inl (hΦ x z))
                · exact .inl (.inr z)
                · exact .inr z)
              exact ⟨_, _, _, rfl, w.ev, w.cx, fun j x o hl => hat j x (w.kp j x o hl)⟩
        · exact ⟨_, _, _, rfl, same⟩
      · rw [if_neg hk]
        rcases r2 with ⟨w1, _⟩ | ⟨w0, l, o, w1, w2, w3, w4, w5⟩
        · subst w1
          exact ⟨_, _, _, rfl, same⟩
        · subst w0 w1
          obtain ⟨w, wk⟩ := c1.setOw (i := i) ev (t3 l rfl rfl) w2 w3 w4 w5
          exact ⟨_, _, _, rfl, evM, w, fun j x o hl => hat j x (wk j x o hl)⟩
    | tp is =>
      unfold asgP
      simp only
      split
      · rename_i xs
        cases hs : setsP is xs pf with
        | none => trivial
        | some p' =>
          obtain ⟨e', s1, s2, s3⟩ := c2.tset (t := .tp is) plain hs
          rw [setH_of s1]
          exact ⟨_, _, _, rfl, fin s2 s3⟩
      · rename_i xs
        cases hs : setsP is xs pf with
        | none => trivial
        | some p' =>
          obtain ⟨l, zs, rfl, _, _, e1, q2⟩ := fz_lst plain
          obtain ⟨e', s1, s2, s3⟩ := c2.tset (t := .tp is) (d := .tup xs) (v := .tup zs) (.tup q2) hs
          have s4 : (Tg.tp is).setH (.loc l) h' e = some e' := by
            unfold Tg.setH
            simp only [e1]
            exact s1
          rw [s4]
          exact ⟨_, _, _, rfl, fin s2 s3⟩
      · trivial
theorem set_same {e : En} {i : Nat} {v : MV} (q : envGet e i = some v) : e.set i (some v) = e := by
  induction e generalizing i with
  | nil => rfl
  | cons x r ih =>
    cases i with
    | zero =>
      cases x with
      | none => cases q
      | some y =>
        cases q
        rfl
    | succ i =>
      rw [envGet_s] at q
      rw [List.set_cons_succ, ih q]
theorem mutd_aug {i : Nat} {o : BOp} : mutd (.aug i o a) = match o with
    | .add => [i]
    | _ => [] := by cases o <;> simp [mutd]
theorem s_aug (K : CallOk C PC) {i : Nat} {o : BOp} : SOk C PC tk (.aug i o a) := by
  intro n0 F Φ p e τ h g ht c
  rw [pS, run_aug, mutd_aug]
  by_cases hq : o = .add ∧ ownL p i = true
  · rw [if_pos hq]
    obtain ⟨rfl, ho⟩ := hq
    by_cases hk : (leak a).contains i = true
    · rw [if_pos hk]
      trivial
    · rw [if_neg hk]
      obtain ⟨ds, ow⟩ := ownL_ok ho
      obtain ⟨l, xs, a1, a2, a3, a4⟩ := c.en.lst ow
      rw [a1]
      simp only [oR_some, Res.sr_ok]
      refine RS.sr c (pE_ok K a n0 F Φ p e τ h g c) fun u v g' h' τ' k t r => ?_
      obtain ⟨d, fr⟩ := u
      obtain ⟨c2, r2, -⟩ := k.cx.hold (ls := leak a) r
      unfold extP
      split
      · rename_i ds2 ys q2 qd
        have qd : d = .lst ys := qd
        subst qd
        have : ds2 = ds := by
          have := hold_own q2
          rw [ow] at this
          cases this
          rfl
        subst this
        split
        · rename_i hz
          obtain ⟨l2, xs2, b1, b2, b3, b4⟩ := c2.en.lst q2
          have : l2 = l := by rw [a1] at b1; cases b1; rfl
          subst this
          have rz := r2.fz fun l z => hold_lt c z
          obtain ⟨l3, zs, rfl, _, _, e3, qz⟩ := fz_lst rz
          have em : augO .add (.loc l2) (.loc l3) h' = some (.loc l2, h'.set l2 (.lst (xs2 ++ zs))) := by
            simp only [augO, b3, e3]
            rw [if_pos (by rw [b4.length, qz.length]; exact hz)]
          rw [em]
          simp only [oP_some, Res.sr_ok]
          have w := c2.chOw b2 (.lst (b4.append qz))
          rw [set_same a1]
          refine ⟨e, _, τ', rfl, w.ev.wk fun x hx z => ⟨i, by simp, a2.1, ?_⟩, w.cx, fun j y o hl => ?_⟩
          · obtain ⟨j, hj, o⟩ := z
            rw [List.mem_singleton.mp hj] at o
            exact o.2
          · exact hold_at (w.kp j y o hl)
        · trivial
      · trivial
  rw [if_neg hq]
  cases q : getP p i with
  | none => trivial
  | some x =>
    obtain ⟨v, a1, a2⟩ := c.en.get c.bF q
    rw [a1]
    simp only [oQ_some, PR.sr_ok, oR_some, Res.sr_ok]
    refine RS.sr c (pE_ok K a n0 F Φ p e τ h g c) fun u w g' h' τ' k t r => ?_
    cases q2 : augP o x u.1 with
    | none => trivial
    | some z =>
      have a3 : Fz (fun _ => False) τ' h' v x := by
        unfold augP at q2
        split at q2
        · rw [fz_int a2]; exact .int _
        · rw [fz_int a2]; exact .int _
        · rw [fz_int a2]; exact .int _
        · cases q2
      have a4 : Fz (fun _ => False) τ' h' w u.1 := by
        have r' := r.fz (fun l z => c.bX z)
        unfold augP at q2
        split at q2
        · rename_i hu; rw [hu] at r' ⊢; rw [fz_int r']; exact .int _
        · rename_i hu; rw [hu] at r' ⊢; rw [fz_int r']; exact .int _
        · rename_i hu; rw [hu] at r' ⊢; rw [fz_int r']; exact .int _
        · cases q2
      obtain ⟨j, rfl, e2⟩ := augP_ok a3 a4 q2
      rw [e2]
      exact ⟨_, _, _, rfl, .refl, k.cx.setFz (.int _), fun j l o _ => (own_set o).2⟩
theorem s_ret (K : CallOk C PC) : SOk C PC tk (.ret a) := by
  intro n0 F Φ p e τ h g ht c
  rw [pS, run_ret, mutd]
  cases q : (varOf a).bind fun j => ownP p j with
  | none =>
    simp only
    refine RS.sr c (pE_ok K a n0 F Φ p e τ h g c) fun u v g' h' τ' k t r => ?_
    obtain ⟨d, fr⟩ := u
    refine ⟨v, h', τ', rfl, .refl, t.sub' fun x _ z => ?_, ?_⟩
    · rcases z with z | z
      · exact .inl (.inl z)
      · exact .inr z
    · rcases r with ⟨r1, r2⟩ | ⟨r1, l, o, r2, r3, r4, r5, r6⟩
      · exact .inl ⟨r1, r2.sub fun l z => .inl z⟩
      · exact .inr ⟨r1, l, o, r2, Nat.le_trans c.hn r3, r4, r5, r6.sub fun l z => z.imp .inl id⟩
  | some d =>
    cases q1 : varOf a with
    | none => rw [q1] at q; cases q
    | some j =>
      rw [q1] at q
      have := varOf_eq q1
      subst this
      have q : ownP p j = some d := q
      obtain ⟨l, o, a1, a2, a3, a4, a5⟩ := c.en.ow j d q
      have ow : OwnAt p e j l := ⟨by rw [q]; rfl, a1⟩
      rw [den_var, a1]
      refine ⟨_, _, τ, rfl, .refl, c.tk.sub' fun x _ z => ?_, .inr ⟨rfl, l, o, rfl, a2, a3, a4, a5.sub fun x z => ?_⟩⟩
      · rcases z with z | ⟨_, z⟩
        · exact .inl z
        · cases z; exact .inr ⟨j, by simp, ow⟩
      · rcases z with z | z
        · exact .inl z
        · rw [z]; exact .inr ⟨j, by simp, ow⟩
theorem s_setIx (K : CallOk C PC) : SOk C PC tk (.setIx a b c) := by
  intro n0 F Φ p e τ h g ht cx
  rw [pS, run_setIx, mutd]
  cases q : (varOf a).bind fun j => if ownC p j = true then some j else none with
  | none =>
    simp only
    refine RS.sr cx (pE_ok K c n0 F Φ p e τ h g cx) fun u v g1 h1 τ1 k1 t1 r1 => ?_
    have r1' := r1.fz fun l z => cx.bX z
    refine RS.sr k1.cx (pE_ok K a n0 F Φ p e τ1 h1 g1 k1.cx) fun u2 v2 g2 h2 τ2 k2 t2 r2 => ?_
    have r2' := r2.fz fun l z => k1.cx.bX z
    refine RS.sr k2.cx (pE_ok K b n0 F Φ p e τ2 h2 g2 k2.cx) fun u3 v3 g3 h3 τ3 k3 t3 r3 => ?_
    have r3' := r3.fz fun l z => k2.cx.bX z
    by_cases hc : clP u.1 u.2 = true
    · rw [if_pos hc]
      unfold setT
      split
      · rename_i n m hx hy
        have e2 : ∃ l, v2 = .loc l ∧ τ3[n]? = some l := by
          rw [hx] at r2'
          obtain ⟨l, x1, x2⟩ := fz_tok r2'
          exact ⟨l, x1, k3.ev.tat x2⟩
        have e3 : v3 = .int m := by rw [hy] at r3'; exact fz_int r3'
        obtain ⟨l, rfl, e2⟩ := e2
        subst e3
        split
        · rename_i ds hg
          obtain ⟨l', xs, x1, x2, x3⟩ := k3.cx.tk.lst hg
          rw [e2] at x1
          cases x1
          cases hi : L2.ixN ds.length m with
          | none => trivial
          | some j =>
            have em : setIxO (.loc l) (.int m) v h3 = some (h3.set l (.lst (xs.set j v))) := by
              refine setL_set ?_
              simp only [setL, x2]
              rw [x3.length, hi]
              rfl
            rw [em]
            have mM : ∀ l, MS p e (optL (varOf a)) l → FL Φ p e l := fun l z => by
              obtain ⟨j, _, o⟩ := z
              exact .inr ⟨j, by simp, o⟩
            have qv1 : Fz (FL Φ p e) τ1 h1 v u.1 := by
              rcases r1 with ⟨z1, z⟩ | ⟨z1, l, o, z2, z3, z4, z5, z6⟩
              · rw [z1] at hc
                exact z.im (by revert hc; cases u.1 <;> exact id)
              · rw [z1] at hc
                rw [z2]
                refine .loc (fun z => ?_) z4 z5 ?_
                · have := cx.bL z
                  omega
                · revert z6 hc
                  generalize u.1 = ud
                  intro hc z6
                  cases z6 with
                  | lst z6 => exact .lst (z6.im hc)
                  | dct z6 => exact .dct (z6.im hc)
                  | ins z6 => exact .ins (z6.im hc)
            have qv : Fz (FL Φ p e) τ3 h3 v u.1 := (qv1.ev k2.ev fun l _ z => mM l z).ev k3.ev fun l _ z => mM l z
            have w := k3.cx.chTok (M := MS p e (optL (varOf a))) e2 (x3.set qv j)
            exact ⟨_, _, _, rfl, w⟩
        · trivial
      · trivial
    · rw [if_neg hc]
      trivial
  | some j =>
    cases q1 : varOf a with
    | none => rw [q1] at q; cases q
    | some j' =>
      rw [q1] at q
      have := varOf_eq q1
      subst this
      have q : (if ownC p j' = true then some j' else none) = some j := q
      by_cases ho : ownC p j' = true
      · rw [if_pos ho] at q
        cases q
        obtain ⟨d0, ow⟩ := ownC_ok ho
        simp only
        obtain ⟨l, o0, a1, _, _, a3, a4⟩ := cx.en.ow _ d0 ow
        refine RS.sr cx (pE_ok K c n0 F Φ p e τ h g cx) fun u v g1 h1 τ1 k1 t1 r1 => ?_
        rw [den_var, a1]
        simp only [oR_some, Res.sr_ok]
        refine RS.sr k1.cx (pE_ok K b n0 F Φ p e τ1 h1 g1 k1.cx) fun u3 v3 g3 h3 τ3 k3 t3 r3 => ?_
        have r3' := r3.fz fun l z => k1.cx.bX z
        obtain ⟨d, fr⟩ := u
        obtain ⟨c3, r2, -⟩ := k3.cx.hold (ls := leak c) r1
        simp only
        generalize hp0 : holdP d fr (leak c) p = pf at c3 r2
        have hat : ∀ j l, OwnAt pf e j l → OwnAt p e j l := fun j l o => by rw [← hp0] at o; exact hold_at o
        have bl : ∀ l, FL F pf e l → l < h.length := fun l z => by rw [← hp0] at z; exact hold_lt cx z
        unfold setP
        split
        · rename_i ds2 m q2 hm
          have e3 : v3 = .int m := by
            have : Fz (FX F p e (leak b)) τ3 h3 v3 u3.1 := r3'
            rw [hm] at this
            exact fz_int this
          subst e3
          obtain ⟨l2, xs2, b1, b2, b3, b4⟩ := c3.en.lst q2
          have : l2 = l := by rw [a1] at b1; cases b1; rfl
          subst this
          cases hi : L2.ixN ds2.length m with
          | none => trivial
          | some j2 =>
            have em : setIxO (.loc l2) (.int m) v h3 = some (h3.set l2 (.lst (xs2.set j2 v))) := by
              refine setL_set ?_
              simp only [setL, b3]
              rw [b4.length, hi]
              rfl
            rw [em]
            have qv : Fz (FL F pf e) τ3 h3 v d := (r2.fz bl).ev k3.ev fun x _ z => by
              obtain ⟨j, hj, o⟩ := z
              rw [List.mem_singleton.mp hj] at o
              exact .inr ⟨_, by simp, ⟨by rw [q2]; rfl, o.2⟩⟩
            have w := c3.chOw b2 (.lst (b4.set qv j2))
            refine ⟨e, _, τ3, rfl, w.ev.wk fun x hx z => ?_, w.cx, fun j y o hl => hat j y (w.kp j y o hl)⟩
            obtain ⟨j, hj, o⟩ := z
            exact ⟨j, hj, hat j x o⟩
        · rename_i ks2 ds2 q2
          obtain ⟨l2, xs2, b1, b2, b3, b4⟩ := c3.en.dct q2
          have : l2 = l := by rw [a1] at b1; cases b1; rfl
          subst this
          cases ek : keyP u3.1 with
          | none => trivial
          | some k =>
            simp only
            by_cases hz : ks2.length < sizeLine
            · rw [if_pos hz]
              have r3'' : Fz (FX F p e (leak b)) τ3 h3 v3 u3.1 := r3'
              have em := setD_set (v := v) b3 (keyP_ok r3'' ek) hz
              rw [em]
              have qv : Fz (FL F pf e) τ3 h3 v d := (r2.fz bl).ev k3.ev fun x _ z => by
                obtain ⟨j, hj, o⟩ := z
                rw [List.mem_singleton.mp hj] at o
                exact .inr ⟨_, by simp, ⟨by rw [q2]; rfl, o.2⟩⟩
              have w := c3.chOw b2 (dPut_ob (ks := ks2) (k := k) b4 qv)
              refine ⟨e, _, τ3, rfl, w.ev.wk fun x hx z => ?_, w.cx, fun j y o hl => hat j y (w.kp j y o hl)⟩
              obtain ⟨j, hj, o⟩ := z
              exact ⟨j, hj, hat j x o⟩
            · rw [if_neg hz]
              trivial
        · trivial
      · rw [if_neg ho] at q
        cases q
theorem s_iff (K : CallOk C PC) {xs ys : List S} (hx : SsOk C PC tk xs) (hy : SsOk C PC tk ys) : SOk C PC tk (.iff a xs ys) := by
  intro n0 F Φ p e τ h g ht c
  rw [pS, run_iff, mutd]
  refine RS.sr c ((pE_ok K a).tst c) fun u v g' h' τ' k t r => ?_
  cases r
  cases u with
  | true => exact (hx n0 F Φ p e τ' h' g' ht k.cx).wk (fun l _ z => by
      obtain ⟨j, hj, o⟩ := z
      exact ⟨j, List.mem_append_left _ hj, o⟩) k.cx
  | false => exact (hy n0 F Φ p e τ' h' g' ht k.cx).wk (fun l _ z => by
      obtain ⟨j, hj, o⟩ := z
      exact ⟨j, List.mem_append_right _ hj, o⟩) k.cx
/-- the turns of a loop -/
theorem ms_from {ms : List Nat} (k : NxOk n0 F Φ M p e τ h p1 e1 τ1 h1 g1) : ∀ l, l < h.length → MS p1 e1 ms l → MS p e ms l := fun l hl z => by
  obtain ⟨j, hj, o⟩ := z
  exact ⟨j, hj, k.kp j l o hl⟩
theorem whl_go (K : CallOk C PC) {b : List S} (hb : SsOk C PC tk b) (ht : (∀ i ∈ tk, 1000 ≤ i) ∨ ∀ l, Φ l → F l) : ∀ (n i : Nat) (p : PEn) (e : En) (τ : List Nat) (h : MH) (g : GS), Ctx n0 F Φ p e τ h g →
    RS n0 F Φ (MS p e (mutds b)) p e τ h (loopN .bad (whileTurnP PC a (fun p g => pSs PC tk b p g)) n i (p, g)) (loop .bad (MP.whileTurn C a (fun e h => Ss.den C b e h)) i (e, h))
  | 0, i, p, e, τ, h, g, c => trivial
  | n + 1, i, p, e, τ, h, g, c => by
    have kt := (pE_ok K a).tst c
    rw [loop_eq]
    unfold loopN whileTurnP
    simp only [MP.whileTurn]
    cases hq : pT PC a p g with
    | bad => trivial
    | exc x g1 =>
      rw [hq] at kt
      obtain ⟨x', h', τ', e1, a1, b1, w⟩ := kt
      rw [e1]
      exact ⟨x', e, h', τ', rfl, ⟨a1.wk fun _ _ z => z.elim, c.ev a1 b1, fun _ _ o _ => o⟩, w.1, w.2.1, w.2.2.1.sub fun l z => .inl (c.FΦ l z), w.2.2.2⟩
    | ok u g1 =>
      rw [hq] at kt
      obtain ⟨v, h', τ', e1, a1, b1, w⟩ := kt
      rw [e1]
      cases w
      have b1' : TokR (FL Φ p e) τ' h' g1 := b1.sub' fun _ _ z => .inl z
      have k1 : NxOk n0 F Φ (MS p e (mutds b)) p e τ h p e τ' h' g1 := ⟨a1.wk fun _ _ z => z.elim, c.ev a1 b1', fun _ _ o _ => o⟩
      cases u with
      | false => exact ⟨e, h', τ', rfl, k1⟩
      | true =>
        simp only
        have w := hb n0 F Φ p e τ' h' g1 ht k1.cx
        cases hr : pSs PC tk b p g1 with
        | bad => trivial
        | nx p2 g2 =>
          rw [hr] at w
          obtain ⟨e2, h2, τ2, e3, k2⟩ := w
          rw [e3]
          exact RS.from k1 (RS.from k2 (whl_go K hb ht n (i + 1) p2 e2 τ2 h2 g2 k2.cx) (ms_from k2)) (ms_from k1)
        | ct p2 g2 =>
          rw [hr] at w
          obtain ⟨e2, h2, τ2, e3, k2⟩ := w
          rw [e3]
          exact RS.from k1 (RS.from k2 (whl_go K hb ht n (i + 1) p2 e2 τ2 h2 g2 k2.cx) (ms_from k2)) (ms_from k1)
        | bk p2 g2 =>
          rw [hr] at w
          obtain ⟨e2, h2, τ2, e3, k2⟩ := w
          rw [e3]
          exact RS.from k1 (r := .nx p2 g2) ⟨e2, h2, τ2, rfl, k2⟩ (ms_from k1)
        | rt d fr g2 =>
          rw [hr] at w
          obtain ⟨v2, h2, τ2, e3, k2⟩ := w
          rw [e3]
          exact RS.from k1 (r := .rt d fr g2) (M' := MS p e (mutds b)) ⟨v2, h2, τ2, rfl, k2⟩ (ms_from k1)
        | exc x p2 g2 =>
          rw [hr] at w
          obtain ⟨x', e2, h2, τ2, e3, k2⟩ := w
          rw [e3]
          exact RS.from k1 (r := .exc x p2 g2) (M' := MS p e (mutds b)) ⟨x', e2, h2, τ2, rfl, k2⟩ (ms_from k1)
theorem s_whl (K : CallOk C PC) {b : List S} (hb : SsOk C PC tk b) : SOk C PC tk (.whl a b) := by
  intro n0 F Φ p e τ h g ht c
  rw [pS, run_whl, mutd]
  cases Classical.em (loop .bad (whileTurnP PC a (fun p g => pSs PC tk b p g)) 0 (p, g) = PSR.bad) with
  | inl q => rw [q]; trivial
  | inr q =>
    obtain ⟨n, e1⟩ := of_loop q
    rw [← e1]
    exact whl_go K hb ht n 0 p e τ h g c
theorem for_go {b : List S} (hb : SsOk C PC tk b) (ht : (∀ i ∈ tk, 1000 ≤ i) ∨ ∀ l, Φ l → F l) {t : Tg} {src : Src} {ys : List MV} {xs : List D} {p0 : PEn} {e0 : En} {τ0 : List Nat} {h0 : MH} {g0 : GS} {Ψ : Nat → Prop} (c0 : Ctx n0 F Φ p0 e0 τ0 h0 g0)
    (q : Fzs Ψ τ0 h0 ys xs) (hM : ∀ l, MS p0 e0 (mutds b) l → Ψ l) (lk : Ds.im xs = true ∨ ∀ l, FL F p0 e0 l → Ψ l)
    (hs : ∀ i τc hc, Ev (MS p0 e0 (mutds b)) τ0 h0 τc hc → src i hc = some ys[i]?) :
    ∀ (rs : List D) (i : Nat) (p : PEn) (e : En) (τ : List Nat) (h : MH) (g : GS), xs.drop i = rs → NxOk n0 F Φ (MS p0 e0 (mutds b)) p0 e0 τ0 h0 p e τ h g →
      RS n0 F Φ (MS p0 e0 (mutds b)) p0 e0 τ0 h0 (forP t (fun p g => pSs PC tk b p g) rs p g) (loop .bad (MP.forTurn src t (fun e h => Ss.den C b e h)) i (e, h)) := by
  intro rs
  induction rs with
  | nil =>
    intro i p e τ h g hd k
    have hi : xs.length ≤ i := List.drop_eq_nil_iff.mp hd
    have hy : ys[i]? = none := List.getElem?_eq_none (by rw [q.length]; exact hi)
    rw [loop_eq]
    simp only [MP.forTurn, hs i τ h k.ev, hy, forP]
    exact ⟨e, h, τ, rfl, k⟩
  | cons d rs ih =>
    intro i p e τ h g hd k
    have hi : xs[i]? = some d := by
      have := congrArg (fun z => z[0]?) hd
      simpa using this
    have hd' : xs.drop (i + 1) = rs := by
      have := congrArg List.tail hd
      simpa using this
    obtain ⟨v, hv, qv⟩ := q.get hi
    have qv2 : Fz (FL F p e) τ h v d := by
      rcases lk with lk | lk
      · refine Fz.ev (M := MS p0 e0 (mutds b)) (τ := τ0) (h := h0) k.ev ?_ ?_ |>.sub (F' := FL F p e) (F := fun l => FL F p e l ∨ MS p0 e0 (mutds b) l) fun l z => .inl z
        · exact fun l _ z => .inr z
        · refine Fz.im ?_ qv
          have : ∀ {xs : List D} {i : Nat} {d : D}, Ds.im xs = true → xs[i]? = some d → d.im = true := by
            intro xs
            induction xs with
            | nil => intro i d _ e; cases e
            | cons y ys ih =>
              intro i d a b
              rw [Ds.im, Bool.and_eq_true] at a
              cases i with
              | zero => cases b; exact a.1
              | succ i => exact ih a.2 (by simpa using b)
          exact this lk hi
      · have a1 : Fz (fun l => FL F p e l ∨ Ψ l) τ0 h0 v d := qv.sub' fun l hl z => by
          rcases z with (z | ⟨j, hj, o⟩) | z
          · exact lk l (.inl z)
          · exact lk l (.inr ⟨j, hj, k.kp j l o hl⟩)
          · exact z
        exact (a1.ev k.ev fun l _ z => .inr (hM l z)).sub fun l z => .inl z
    rw [loop_eq]
    unfold forP
    cases hp : tsetP t d p with
    | none => trivial
    | some p' =>
      obtain ⟨e', s1, s2, s3⟩ := k.cx.tset (t := t) qv2 hp
      simp only [MP.forTurn, hs i τ h k.ev, hv, s1]
      have k1 : NxOk n0 F Φ (MS p0 e0 (mutds b)) p0 e0 τ0 h0 p' e' τ h g := ⟨k.ev, s2, fun j l o hl => k.kp j l (s3 j l o) hl⟩
      have w := hb n0 F Φ p' e' τ h g ht s2
      cases hr : pSs PC tk b p' g with
      | bad => trivial
      | nx p2 g2 =>
        rw [hr] at w
        obtain ⟨e2, h2, τ2, e3, k2⟩ := w
        rw [e3]
        refine ih (i + 1) p2 e2 τ2 h2 g2 hd' ⟨k1.ev.trans' k2.ev (ms_from k1), k2.cx, fun j l o hl => k1.kp j l (k2.kp j l o (Nat.lt_of_lt_of_le hl k1.ev.len)) hl⟩
      | ct p2 g2 =>
        rw [hr] at w
        obtain ⟨e2, h2, τ2, e3, k2⟩ := w
        rw [e3]
        refine ih (i + 1) p2 e2 τ2 h2 g2 hd' ⟨k1.ev.trans' k2.ev (ms_from k1), k2.cx, fun j l o hl => k1.kp j l (k2.kp j l o (Nat.lt_of_lt_of_le hl k1.ev.len)) hl⟩
      | bk p2 g2 =>
        rw [hr] at w
        obtain ⟨e2, h2, τ2, e3, k2⟩ := w
        rw [e3]
        exact RS.from k1 (r := .nx p2 g2) ⟨e2, h2, τ2, rfl, k2⟩ (ms_from k1)
      | rt d fr g2 =>
        rw [hr] at w
        obtain ⟨v2, h2, τ2, e3, k2⟩ := w
        rw [e3]
        exact RS.from k1 (r := .rt d fr g2) (M' := MS p' e' (mutds b)) ⟨v2, h2, τ2, rfl, k2⟩ (ms_from k1)
      | exc x p2 g2 =>
        rw [hr] at w
        obtain ⟨x', e2, h2, τ2, e3, k2⟩ := w
        rw [e3]
        exact RS.from k1 (r := .exc x p2 g2) (M' := MS p' e' (mutds b)) ⟨x', e2, h2, τ2, rfl, k2⟩ (ms_from k1)
/-- over a copy of immutable things -/
theorem s_forL (K : CallOk C PC) {t : Tg} {b : List S} (hb : SsOk C PC tk b) {xs : List D} {g1 : GS} {p : PEn} {g : GS} (hv : pE PC (.bi .list [a]) p g = .ok (.lst xs, true) g1) (him : Ds.im xs = true) {n0 : Nat} {F Φ : Nat → Prop} {e : En} {τ : List Nat} {h : MH} (ht : (∀ i ∈ tk, 1000 ≤ i) ∨ ∀ l, Φ l → F l) (c : Ctx n0 F Φ p e τ h g) :
    RS n0 F Φ (MS p e (mutds b)) p e τ h (forP t (fun p g => pSs PC tk b p g) xs p g1) (S.den C (.for_ t .val [.bi .list [a]] b) e h) := by
  have w := pE_ok K (.bi .list [a]) n0 F Φ p e τ h g c
  rw [hv] at w
  obtain ⟨v, h', τ', e1, ev, t2, r⟩ := w
  rcases r with ⟨r, _⟩ | ⟨_, l, o, rfl, r3, r4, r5, r6⟩
  · cases r
  cases r6 with
  | lst r6 =>
    rename_i zs
    have tF : TokR (FL Φ p e) τ' h' g1 := t2.sub' fun x _ z => .inl z
    have c0 : Ctx n0 F Φ p e τ' h' g1 := c.ev ev tF
    rw [run_for, dens_cons, e1]
    simp only [Res.bind_ok, dens_nil, Res.sr_ok]
    rw [src_l r5]
    simp only
    have w := for_go (C := C) (PC := PC) hb ht (t := t) (src := srcL l) (Ψ := MS p e (mutds b)) c0 (Fzs.im him r6) (fun _ z => z) (.inl him) (fun i τc hc ev2 => by
      have : hc[l]? = some (.lst zs) := by
        rw [ev2.fr l (lt_of_get r5) r4 fun z => ?_]
        · exact r5
        · obtain ⟨j, _, z⟩ := z
          have := (OwnAt.lt c.en z).1
          omega
      simp only [srcL, this]) xs 0 _ _ _ _ _ rfl (.refl c0)
    have kx : NxOk n0 F Φ (MS p e (mutds b)) p e τ h p e τ' h' g1 := ⟨ev.wk fun _ _ z => z.elim, c0, fun j l o _ => o⟩
    exact RS.from kx w (ms_from kx)
theorem s_for0 (K : CallOk C PC) {t : Tg} {k : IK} {b : List S} (hb : SsOk C PC tk b) {n0 : Nat} {F Φ : Nat → Prop} {p : PEn} {e : En} {τ : List Nat} {h : MH} {g : GS} (ht : (∀ i ∈ tk, 1000 ≤ i) ∨ ∀ l, Φ l → F l) (c : Ctx n0 F Φ p e τ h g) : RS n0 F Φ (MS p e (mutds b)) p e τ h (forD PC t k es b (fun p g => pSs PC tk b p g) p g) (S.den C (.for_ t k es b) e h) := by
  unfold forD
  rw [run_for]
  refine RS.sr c (pEs_ok K es n0 F Φ p e τ h g c) fun u v g' h' τ' kk t' r => ?_
  cases q : srcP k u with
  | none => trivial
  | some xs =>
    simp only
    obtain ⟨src, ys, e1, qy, hsrc⟩ := srcP_ok r q
    rw [e1]
    simp only
    by_cases hd : disj (leaks es) (mutds b) = true
    · rw [if_pos hd]
      have dj : ∀ j, j ∈ mutds b → j ∉ leaks es := fun j hj m => by
        unfold disj at hd
        rw [List.all_eq_true] at hd
        have := hd j m
        simp at this
        exact this hj
      obtain ⟨rl, ol1, ol2, lk⟩ := kk.cx.en.lock kk.cx.bF qy
      have c0 : Ctx n0 F Φ (lockP xs (leaks es) p) e τ' h' g' := ⟨kk.cx.bF, kk.cx.FΦ, kk.cx.bΦ, kk.cx.hn, rl, kk.cx.tk.sub' fun l _ z => by
        rcases z with z | ⟨j, hj, o⟩
        · exact .inl z
        · exact .inr ⟨j, hj, ol1 j l o⟩⟩
      have hM : ∀ l, MS (lockP xs (leaks es) p) e (mutds b) l → FX F p e (leaks es) l := fun l z => by
        obtain ⟨j, hj, o⟩ := z
        exact .inr ⟨j, dj j hj, ol1 j l o⟩
      have w := for_go (C := C) (PC := PC) hb ht (t := t) (src := src) c0 qy hM lk (fun i τc hc ev => by
        rcases hsrc with hs | ⟨l, zs, a, b', c, f⟩
        · exact hs i hc
        · exact f i hc (by rw [ev.fr l (lt_of_get c) b' fun z => a (hM l z)]; exact c)) xs 0 _ _ _ _ _ rfl (.refl c0)
      have kx : NxOk n0 F Φ (MS p e (mutds b)) p e τ' h' (lockP xs (leaks es) p) e τ' h' g' := ⟨.refl, c0, fun j l o _ => ol1 j l o⟩
      exact RS.from kx w (ms_from kx)
    · rw [if_neg hd]
      trivial
theorem s_for (K : CallOk C PC) {t : Tg} {k : IK} {b : List S} (hb : SsOk C PC tk b) : SOk C PC tk (.for_ t k es b) := by
  intro n0 F Φ p e τ h g ht c
  rw [pS, mutd]
  split
  · rename_i a hl
    obtain ⟨rfl, rfl⟩ := lstOf_eq hl
    split
    · rename_i xs g1 hv
      by_cases him : Ds.im xs = true
      · rw [if_pos him]
        exact s_forL K hb hv him ht c
      · rw [if_neg him]
        exact s_for0 K hb ht c
    · exact s_for0 K hb ht c
  · exact s_for0 K hb ht c
theorem s_nil : SsOk C PC tk [] := by
  intro n0 F Φ p e τ h g ht c
  rw [pSs, run_nil]
  exact ⟨e, h, τ, rfl, .refl c⟩
theorem s_cons {s : S} {ss : List S} (hs : SOk C PC tk s) (hr : SsOk C PC tk ss) : SsOk C PC tk (s :: ss) := by
  intro n0 F Φ p e τ h g ht c
  rw [pSs, run_cons, mutds]
  have w := (hs n0 F Φ p e τ h g ht c).wk (M := MS p e (mutd s ++ mutds ss)) (fun l _ z => by
    obtain ⟨j, hj, o⟩ := z
    exact ⟨j, List.mem_append_left _ hj, o⟩) c
  cases hq : pS PC tk s p g with
  | bad => trivial
  | nx p2 g2 =>
    rw [hq] at w
    obtain ⟨e2, h2, τ2, e3, k2⟩ := w
    rw [e3]
    refine RS.from k2 (hr n0 F Φ p2 e2 τ2 h2 g2 ht k2.cx) fun l hl z => ?_
    obtain ⟨j, hj, o⟩ := z
    exact ⟨j, List.mem_append_right _ hj, k2.kp j l o hl⟩
  | ct p2 g2 => rw [hq] at w; obtain ⟨e2, h2, τ2, e3, k2⟩ := w; rw [e3]; exact ⟨e2, h2, τ2, rfl, k2⟩
  | bk p2 g2 => rw [hq] at w; obtain ⟨e2, h2, τ2, e3, k2⟩ := w; rw [e3]; exact ⟨e2, h2, τ2, rfl, k2⟩
  | rt d fr g2 => rw [hq] at w; obtain ⟨v2, h2, τ2, e3, k2⟩ := w; rw [e3]; exact ⟨v2, h2, τ2, rfl, k2⟩
  | exc x p2 g2 => rw [hq] at w; obtain ⟨x', e2, h2, τ2, e3, k2⟩ := w; rw [e3]; exact ⟨x', e2, h2, τ2, rfl, k2⟩
theorem fPut_ob {F : Nat → Prop} {τ : List Nat} {h : MH} {c : Str} {ns : List Str} {xs : List MV} {ds : List D} {f : Str} {v : MV} {d : D} (q : Fzs F τ h xs ds) (r : Fz F τ h v d) : Ob F τ h (fPut c ns xs f v) (fPutP c ns ds f d) := by
  unfold fPut fPutP
  cases nIx ns f with
  | some i => exact .ins (q.set r i)
  | none => exact .ins (q.append (.one r))
theorem EnR.ins (r : EnR n0 F τ h p e) {i : Nat} {c : Str} {ns : List Str} {ds : List D} (q : ownP p i = some (.ins c ns ds)) : ∃ l xs, envGet e i = some (.loc l) ∧ OwnAt p e i l ∧ h[l]? = some (.ins c ns xs) ∧ Fzs (FL F p e) τ h xs ds := by
  obtain ⟨l, o, a, _, _, b, c⟩ := r.ow i _ q
  cases c with
  | ins c => exact ⟨l, _, a, ⟨by rw [q]; rfl, a⟩, b, c⟩
theorem ownI_ok {i : Nat} (q : ownI p i = true) : ∃ c ns ds, ownP p i = some (.ins c ns ds) := by
  unfold ownI at q
  split at q
  · rename_i c ns ds e; exact ⟨c, ns, ds, e⟩
  · cases q
theorem s_setFld (K : CallOk C PC) {cs : List Str} {f : Str} : SOk C PC tk (.setFld cs b f a) := by
  intro n0 F Φ p e τ h g ht c
  rw [pS, run_setFld, mutd]
  cases q : (varOf b).bind fun j => if ownI p j = true then some j else none with
  | none => trivial
  | some j =>
    cases q1 : varOf b with
    | none => rw [q1] at q; cases q
    | some j' =>
      rw [q1] at q
      have := varOf_eq q1
      subst this
      have q : (if ownI p j' = true then some j' else none) = some j := q
      split at q
      · rename_i hi
        cases q
        obtain ⟨cc, ns, ds, ow⟩ := ownI_ok hi
        obtain ⟨l, xs, a1, a2, a3, a4⟩ := c.en.ins ow
        refine RS.sr c (pE_ok K a n0 F Φ p e τ h g c) fun u v g' h' τ' k t r => ?_
        rw [den_var, a1]
        simp only [oR_some, Res.sr_ok]
        obtain ⟨d, fr⟩ := u
        obtain ⟨c2, r2, -⟩ := k.cx.hold (ls := leak a) r
        unfold setFP
        split
        · rename_i cc2 ns2 ds2 q2
          have := hold_own q2
          rw [ow] at this
          cases this
          split
          · rename_i hz
            obtain ⟨l2, xs2, b1, b2, b3, b4⟩ := c2.en.ins q2
            have : l2 = l := by rw [a1] at b1; cases b1; rfl
            subst this
            have em : setFldO cs (.loc l2) f v h' = some (h'.set l2 (fPut cc ns xs2 f v)) := by
              unfold setFldO
              simp only
              rw [insO_of b3, Option.bind_some, if_pos hz]
            rw [em]
            simp only
            have w := c2.chOw b2 (fPut_ob (c := cc) (ns := ns) (f := f) b4 (r2.fz fun l z => hold_lt c z))
            refine ⟨e, _, τ', rfl, w.ev.wk fun x hx z => ⟨j, by simp [optL, varOf], a2.1, ?_⟩, w.cx, fun j y o hl => hold_at (w.kp j y o hl)⟩
            obtain ⟨j, hj, o⟩ := z
            rw [List.mem_singleton.mp hj] at o
            exact o.2
          · trivial
        · trivial
      · cases q
mutual
theorem pS_ok (K : CallOk C PC) (tk : List Nat) : ∀ s : S, SOk C PC tk s
  | .expr _ => s_expr K
  | .asg _ _ => s_asg K
  | .aug _ _ _ => s_aug K
  | .setIx _ _ _ => s_setIx K
  | .ret _ => s_ret K
  | .iff _ a b => s_iff K (pSs_ok K tk a) (pSs_ok K tk b)
  | .whl _ b => s_whl K (pSs_ok K tk b)
  | .for_ _ _ _ b => s_for K (pSs_ok K tk b)
  | .brk => fun n0 F Φ p e τ h g _ c => by rw [pS, run_brk]; exact ⟨e, h, τ, rfl, .refl c⟩
  | .cont => fun n0 F Φ p e τ h g _ c => by rw [pS, run_cont]; exact ⟨e, h, τ, rfl, .refl c⟩
  | .pass => fun n0 F Φ p e τ h g _ c => by rw [pS, run_pass]; exact ⟨e, h, τ, rfl, .refl c⟩
  | .bad => fun n0 F Φ p e τ h g _ c => by rw [pS]; trivial
  | .setFld _ _ _ _ => s_setFld K
theorem pSs_ok (K : CallOk C PC) (tk : List Nat) : ∀ ss : List S, SsOk C PC tk ss
  | [] => s_nil
  | s :: ss => s_cons (pS_ok K tk s) (pSs_ok K tk ss)
end
end
/-! ### defs -/
theorem getP_start : ∀ {ds : List D} {m i : Nat} {d : D}, getP (ds.map (fun d => some (d, false)) ++ List.replicate m none) i = some d → ds[i]? = some d
  | [], m, i, d, e => by
    simp only [List.map_nil, List.nil_append] at e
    induction m generalizing i with
    | zero => cases e
    | succ m ih =>
      cases i with
      | zero => cases e
      | succ i => rw [List.replicate_succ, getP_s] at e; have := ih _ e; simp at this
  | x :: ds, m, 0, d, e => by cases e; rfl
  | x :: ds, m, i + 1, d, e => by
    rw [List.map_cons, List.cons_append, getP_s] at e
    simpa using getP_start e
theorem ownP_start : ∀ {ds : List D} {m i : Nat}, ownP (ds.map (fun d => some (d, false)) ++ List.replicate m none) i = none
  | [], m, i => by
    simp only [List.map_nil, List.nil_append]
    induction m generalizing i with
    | zero => rfl
    | succ m ih =>
      cases i with
      | zero => rfl
      | succ i => rw [List.replicate_succ, ownP_s]; exact ih _
  | x :: ds, m, 0 => rfl
  | x :: ds, m, i + 1 => by
    rw [List.map_cons, List.cons_append, ownP_s]
    exact ownP_start
theorem envGet_start : ∀ {vs : List MV} {r : En} {i : Nat} {v : MV}, vs[i]? = some v → envGet (vs.map some ++ r) i = some v
  | x :: vs, r, 0, v, e => by cases e; rfl
  | x :: vs, r, i + 1, v, e => by
    rw [List.map_cons, List.cons_append, envGet_s]
    exact envGet_start (by simpa using e)
theorem callD_succ {T : List Fn} {d f : Nat} {vs : List MV} {h : MH} : callD T (d + 1) f vs h = match T[f]? with
    | some fn => if vs.length = fn.ps.length then (match fn.mkr with
      | none => (Ss.den (callD T d) fn.body (fn.start vs) h).res
      | some (c, j) => (callD T d j (.loc h.length :: vs) (h ++ [MO.ins c [] []])).bind fun v h1 => if v.isNon = true then .ok (.loc h.length) h1 else .bad) else .bad
    | none => .bad := by rw [callD] <;> rfl
mutual
theorem keep0_ok {C : Cl} : ∀ {s : S} {e e' : En} {h h' : MH}, keep0 s = true → S.den C s e h = .nx e' h' → envGet e' 0 = envGet e 0
  | .setFld cs o f a, e, e', h, h', _, q => by
    rw [run_setFld] at q
    cases h1 : E.den C a e h with
    | ok v h2 =>
      rw [h1] at q
      simp only [Res.sr_ok] at q
      cases h3 : E.den C o e h2 with
      | ok x h4 =>
        rw [h3] at q
        simp only [Res.sr_ok] at q
        split at q <;> cases q
        rfl
      | exc _ _ => rw [h3] at q; cases q
      | bad => rw [h3] at q; cases q
    | exc _ _ => rw [h1] at q; cases q
    | bad => rw [h1] at q; cases q
  | .iff c a b, e, e', h, h', k, q => by
    rw [keep0, Bool.and_eq_true] at k
    rw [run_iff] at q
    cases h1 : E.tst C c e h with
    | ok v h2 =>
      rw [h1] at q
      simp only [Res.sr_ok] at q
      split at q
      · exact keep0s_ok k.1 q
      · exact keep0s_ok k.2 q
    | exc _ _ => rw [h1] at q; cases q
    | bad => rw [h1] at q; cases q
  | .asg (.nm i) a, e, e', h, h', k, q => by
    have k : (i != 0) = true := by simpa [keep0] using k
    rw [run_asg] at q
    cases h1 : E.den C a e h with
    | ok v h2 =>
      rw [h1] at q
      cases q
      rw [envGet_set, if_neg (by simpa using k)]
    | exc _ _ => rw [h1] at q; cases q
    | bad => rw [h1] at q; cases q
  | .asg (.tp _) a, _, _, _, _, k, _ => by simp [keep0] at k
  | .expr a, e, e', h, h', _, q => by
    rw [run_expr] at q
    cases h1 : E.den C a e h with
    | ok v h2 =>
      rw [h1] at q
      cases q
      rfl
    | exc _ _ => rw [h1] at q; cases q
    | bad => rw [h1] at q; cases q
  | .pass, e, e', h, h', _, q => by
    rw [run_pass] at q
    cases q
    rfl
  | .bad, e, e', h, h', _, q => by
    simp only [S.den] at q
    cases q
  | .aug _ _ _, _, _, _, _, k, _ => by simp [keep0] at k
  | .setIx _ _ _, _, _, _, _, k, _ => by simp [keep0] at k
  | .ret _, _, _, _, _, k, _ => by simp [keep0] at k
  | .whl _ _, _, _, _, _, k, _ => by simp [keep0] at k
  | .for_ _ _ _ _, _, _, _, _, k, _ => by simp [keep0] at k
  | .brk, _, _, _, _, k, _ => by simp [keep0] at k
  | .cont, _, _, _, _, k, _ => by simp [keep0] at k
theorem keep0s_ok {C : Cl} : ∀ {ss : List S} {e e' : En} {h h' : MH}, keep0s ss = true → Ss.den C ss e h = .nx e' h' → envGet e' 0 = envGet e 0
  | [], e, e', h, h', _, q => by
    rw [run_nil] at q
    cases q
    rfl
  | s :: r, e, e', h, h', k, q => by
    rw [keep0s, Bool.and_eq_true] at k
    rw [run_cons] at q
    cases h1 : S.den C s e h with
    | nx e1 h2 =>
      rw [h1] at q
      simp only [SR.seq_nx] at q
      rw [keep0s_ok k.2 q, keep0_ok k.1 h1]
    | _ => rw [h1] at q; cases q
end
/-- making an instance -/
theorem made_ok {T : List Fn} {tk : Nat → List Nat} {d2 j : Nat} {fj : Fn} {c : Str} {F Φ : Nat → Prop} {τ : List Nat} {h : MH} {g : GS} {vs : List MV} {ds : List D} (K : CallOk (callD T d2) (callP T tk d2)) (hf : T[j]? = some fj) (hz : ds.length + 1 = fj.ps.length) (hm : fj.mkr = none) (hk : keep0s fj.body = true)
    (hF : ∀ l, F l → Φ l) (hΦ : ∀ l, Φ l → l < h.length) (t : TokR Φ τ h g) (q : Fzs F τ h vs ds) :
    RO Φ τ h TV (RV F h.length) (pSs (callP T tk d2) [] fj.body (startI fj c ds) g).made ((callD T (d2 + 1) j (.loc h.length :: vs) (h ++ [MO.ins c [] []])).bind fun v h1 => if v.isNon = true then .ok (.loc h.length) h1 else .bad) := by
  rw [callD_succ, hf]
  simp only [hm]
  rw [if_pos (by rw [List.length_cons, q.length]; exact hz)]
  have o0 : ∀ {i l : Nat}, OwnAt (startI fj c ds) (fj.start (.loc h.length :: vs)) i l → i = 0 ∧ l = h.length := fun {i l} o => by
    obtain ⟨a, b⟩ := o
    cases i with
    | zero =>
      unfold Fn.start at b
      cases b
      exact ⟨rfl, rfl⟩
    | succ i =>
      unfold startI at a
      rw [ownP_s, ownP_start] at a
      cases a
  have own0 : OwnAt (startI fj c ds) (fj.start (.loc h.length :: vs)) 0 h.length := ⟨rfl, rfl⟩
  have fl : ∀ l, l < h.length → FL F (startI fj c ds) (fj.start (.loc h.length :: vs)) l → F l := fun l hl z => by
    rcases z with z | ⟨i, _, o⟩
    · exact z
    · have := (o0 o).2
      omega
  have nt : h.length ∉ τ := fun m => Nat.lt_irrefl _ (t.lt m)
  have cx : Ctx h.length F Φ (startI fj c ds) (fj.start (.loc h.length :: vs)) τ (h ++ [MO.ins c [] []]) g := by
    refine ⟨fun l z => hΦ l (hF l z), hF, fun l z => ?_, by simp, ⟨?_, fun i d a b => ?_, fun i d a => ?_, fun i k l a b => by rw [(o0 a).1, (o0 b).1]⟩, ?_⟩
    · have := hΦ l z
      simp
      omega
    · simp [startI, Fn.start, q.length]
    · cases i with
      | zero => cases b
      | succ i =>
        unfold startI at a
        rw [getP_s] at a
        obtain ⟨v, e1, q1⟩ := q.get (getP_start a)
        refine ⟨v, ?_, (q1.sub' fun l hl z => fl l hl z).ev (M := NoM) .add fun _ _ z => z.elim⟩
        unfold Fn.start
        rw [List.map_cons, List.cons_append, envGet_s]
        exact envGet_start e1
    · cases i with
      | zero =>
        cases a
        exact ⟨h.length, .ins c [] [], rfl, Nat.le_refl _, nt, by simp, .ins .nil⟩
      | succ i =>
        unfold startI at a
        rw [ownP_s, ownP_start] at a
        cases a
    · refine (t.sub' (F' := FL Φ (startI fj c ds) (fj.start (.loc h.length :: vs))) fun l hl z => ?_).add
      rcases z with z | ⟨i, _, o⟩
      · exact z
      · have := (o0 o).2
        omega
  have w := pSs_ok K [] fj.body h.length F Φ _ _ τ _ g (.inl (fun _ m => nomatch m)) cx
  cases hr : pSs (callP T tk d2) [] fj.body (startI fj c ds) g with
  | nx p2 g2 =>
    rw [hr] at w
    obtain ⟨e2, h2, τ2, e3, k2⟩ := w
    unfold PSR.made
    simp only
    cases ho : ownP p2 0 with
    | none => trivial
    | some o =>
      rw [e3]
      simp only [SR.res_nx, Res.bind_ok]
      have ge : envGet e2 0 = some (.loc h.length) := keep0s_ok hk e3
      obtain ⟨l, oo, a1, a2, a3, a4, a5⟩ := k2.cx.en.ow 0 o ho
      rw [ge] at a1
      cases a1
      have ow : OwnAt p2 e2 0 h.length := ⟨by rw [ho]; rfl, ge⟩
      refine ⟨.loc h.length, h2, τ2, rfl, ?_, k2.cx.tk.sub' fun x _ z => ?_, .inr ⟨rfl, h.length, oo, rfl, Nat.le_refl _, a3, a4, a5.sub fun x z => ?_⟩⟩
      · refine Ev.trans' (M := NoM) .add k2.ev fun l hl z => ?_
        obtain ⟨i, _, o⟩ := z
        have := (o0 o).2
        omega
      · rcases z with z | ⟨_, z⟩
        · exact .inl z
        · cases z
          exact .inr ⟨0, by simp, ow⟩
      · rcases z with z | z
        · exact .inl z
        · rw [z]
          exact .inr ⟨0, by simp, ow⟩
  | _ => trivial
theorem callP_all (T : List Fn) (tk : Nat → List Nat) : ∀ n d : Nat, d ≤ n → CallOk (callD T d) (callP T tk d)
  | _, 0, _ => fun f F Φ τ h g vs ds _ _ _ _ => trivial
  | 0, d + 1, hn => absurd hn (by omega)
  | n + 1, d + 1, hn => fun f F Φ τ h g vs ds hF hΦ t q => by
    have K := callP_all T tk n d (by omega)
    rw [callD_succ]
    unfold callP
    cases hf : T[f]? with
    | none => trivial
    | some fn =>
      simp only
      by_cases hl : ds.length = fn.ps.length
      · rw [if_pos hl, if_pos (show vs.length = fn.ps.length by rw [q.length]; exact hl)]
        cases hm : fn.mkr with
        | some cj =>
          obtain ⟨c, j⟩ := cj
          simp only
          cases d with
          | zero => trivial
          | succ d2 =>
            simp only
            cases hj : T[j]? with
            | none => trivial
            | some fj =>
              simp only
              by_cases hz : ds.length + 1 = fj.ps.length ∧ fj.mkr.isNone = true ∧ keep0s fj.body = true
              · rw [if_pos hz]
                exact made_ok (callP_all T tk n d2 (by omega)) hj hz.1 (Option.isNone_iff_eq_none.mp hz.2.1) hz.2.2 hF hΦ t q
              · rw [if_neg hz]
                trivial
        | none =>
        simp only
        have key : ∀ (F' : Nat → Prop) (tk' : List Nat), (∀ l, F l → F' l) → (∀ l, F' l → Φ l) → ((∀ i ∈ tk', 1000 ≤ i) ∨ ∀ l, Φ l → F' l) → Fzs F' τ h vs ds →
            RO Φ τ h TV (RV F h.length) ((pSs (callP T tk d) tk' fn.body (startP fn ds) g).res) ((Ss.den (callD T d) fn.body (fn.start vs) h).res) := by
          intro F' tk' h1 h2 h3 q
          have no : ∀ j l, ¬OwnAt (startP fn ds) (fn.start vs) j l := fun j l o => by
            have := o.1
            unfold startP at this
            rw [ownP_start] at this
            cases this
          have c : Ctx h.length F' Φ (startP fn ds) (fn.start vs) τ h g := by
            refine ⟨fun l z => hΦ l (h2 l z), h2, hΦ, Nat.le_refl _, ⟨by simp [startP, Fn.start, q.length], fun i d a _ => ?_, fun i d a => ?_, fun i j l a => absurd a (no i l)⟩, t.sub' fun l _ z => ?_⟩
            · obtain ⟨v, e1, q1⟩ := q.get (getP_start a)
              exact ⟨v, envGet_start e1, q1.sub fun l z => by
                rcases z with z | ⟨j, _, o⟩
                · exact z
                · exact absurd o (no j l)⟩
            · unfold startP at a
              rw [ownP_start] at a
              cases a
            · rcases z with z | ⟨j, _, o⟩
              · exact z
              · exact absurd o (no j l)
          have w := pSs_ok K tk' fn.body h.length F' Φ (startP fn ds) (fn.start vs) τ h g h3 c
          have evN : ∀ {τ' h'}, Ev (MS (startP fn ds) (fn.start vs) (mutds fn.body)) τ h τ' h' → Ev NoM τ h τ' h' := fun x => x.wk fun l _ z => by
            obtain ⟨j, _, o⟩ := z
            exact no j l o
          cases hr : pSs (callP T tk d) tk' fn.body (startP fn ds) g with
          | bad => trivial
          | bk _ _ => trivial
          | ct _ _ => trivial
          | nx p2 g2 =>
            rw [hr] at w
            obtain ⟨e2, h2', τ2, e3, k2⟩ := w
            rw [e3]
            refine ⟨.non, h2', τ2, rfl, evN k2.ev, k2.cx.tk.sub' fun l _ z => ?_, .inl ⟨rfl, .non⟩⟩
            rcases z with z | ⟨z, _⟩
            · exact .inl z
            · cases z
          | rt d fr g2 =>
            rw [hr] at w
            obtain ⟨v2, h2', τ2, e3, k2, k3, k4⟩ := w
            rw [e3]
            refine ⟨v2, h2', τ2, rfl, evN k2, k3, ?_⟩
            rcases k4 with ⟨r1, r2⟩ | ⟨r1, l, o, r2, r3, r4, r5, r6⟩
            · exact .inl ⟨r1, r2.sub h1⟩
            · exact .inr ⟨r1, l, o, r2, r3, r4, r5, r6.sub fun l z => z.imp (h1 l) id⟩
          | exc x p2 g2 =>
            rw [hr] at w
            obtain ⟨x', e2, h2', τ2, e3, k2, k3⟩ := w
            rw [e3]
            refine ⟨x', h2', τ2, rfl, evN k2.ev, k2.cx.tk.sub' fun l _ z => .inl z, k3.1, k3.2.1, k3.2.2.1.im k3.2.2.2, k3.2.2.2⟩
        by_cases hi : Ds.im ds = true
        · rw [if_pos hi]
          exact key Φ (tk f) hF (fun _ z => z) (.inr fun _ z => z) (q.im hi)
        · rw [if_neg hi]
          exact key F _ (fun _ z => z) hF (.inl fun i m => by
            obtain ⟨j, _, rfl⟩ := List.mem_map.mp m
            omega) q
      · rw [if_neg hl]
        trivial
theorem callP_ok (T : List Fn) (tk : Nat → List Nat) (d : Nat) : CallOk (callD T d) (callP T tk d) := callP_all T tk d d (Nat.le_refl _)
/-- a law: from plain data to the small language -/
theorem law_runT {T : List Fn} {tk : Nat → List Nat} {d i : Nat} {ns : List Int} {tabs : List (Str × Option Str)} {g : GS} (q : callP T tk d i [.rol (ns.map .int)] (tabs.map .tbl) = .ok (.bl true, false) g) : ∃ h', callD T d i [.rol (ns.map .int)] (tabs.map MO.tbl) = .ok (.bl true) h' := by
  have w := callP_ok T tk d i (fun _ => False) (fun _ => False) (List.range tabs.length) (tabs.map MO.tbl) (tabs.map .tbl) [.rol (ns.map .int)] [.rol (ns.map .int)] (fun _ z => z) (fun _ z => z.elim) ⟨by simp, List.nodup_range, fun n o e => ?_, fun n x e => ?_⟩ (.one (.rol fzs_ints))
  · rw [q] at w
    obtain ⟨v, h', τ', e1, _, _, r⟩ := w
    rcases r with ⟨_, r⟩ | ⟨r, _⟩
    · rw [fz_bl r] at e1
      exact ⟨h', e1⟩
    · cases r
  · rw [List.getElem?_map] at e
    obtain ⟨x, ex, rfl⟩ := Option.map_eq_some_iff.mp e
    refine ⟨n, .tbl x, ?_, by rw [List.getElem?_map, ex]; rfl, rfl⟩
    have := lt_of_get ex
    rw [List.getElem?_range this]
  · have := lt_of_get e
    rw [List.getElem?_range (by simpa using this)]
theorem law_run {T : List Fn} {tk : Nat → List Nat} {d i : Nat} {ns : List Int} {g : GS} (q : callP T tk d i [.rol (ns.map .int)] [] = .ok (.bl true, false) g) : ∃ h', callD T d i [.rol (ns.map .int)] [] = .ok (.bl true) h' := law_runT (tabs := []) q
end MQ
end
section
set_option Elab.async false
set_option linter.all false
set_option maxRecDepth 100000
set_option maxHeartbeats 4000000
/-! MQ, part g: rules for running the small language over plain data. -/
namespace MQ
open PySem MP
noncomputable instance : DecidableEq D := fun a b => Classical.propDecidable (a = b)
section
variable {C : PCl} {tk : List Nat} {p : PEn} {g : GS} {a b c : E} {es : List E} {xs ys ss : List S} {s : S}
@[simp] theorem pE_var {i : Nat} : pE C (.var i) p g = oQ g ((getP p i).map fun d => (d, false)) := by rw [pE]
@[simp] theorem pE_lit {v : MV} : pE C (.lit v) p g = oQ g ((mvD v).map fun d => (d, false)) := by rw [pE]
@[simp] theorem pE_bin {o : BOp} : pE C (.bin o a b) p g = (pE C a p g).bind fun x g1 => (pE C b p g1).bind fun y g2 => oQ g2 (binP o x.1 y.1) := by rw [pE]
def negP : D → Option (D × Bool)
  | .int i => some (.int (-i), false)
  | _ => none
@[simp] theorem negP_i {i : Int} : negP (.int i) = some (.int (-i), false) := rfl
@[simp] theorem pE_neg : pE C (.neg a) p g = (pE C a p g).bind fun x g1 => oQ g1 (negP x.1) := by
  rw [pE]
  congr 1
  funext x g1
  obtain ⟨d, fr⟩ := x
  cases d <;> rfl
@[simp] theorem pE_not : pE C (.not a) p g = (pE C a p g).bind fun x g1 => (oQ g1 (truP x.1 g1)).bind fun k g2 => .ok (.bl (!k), false) g2 := by rw [pE]
@[simp] theorem pE_cmp {o : COp} : pE C (.cmp o a b) p g = (pE C a p g).bind fun x g1 => (pE C b p g1).bind fun y g2 => (oQ g2 (cmpP o x.1 y.1)).bind fun k g3 => .ok (.bl k, false) g3 := by rw [pE]
@[simp] theorem pE_cmp2 {o o' : COp} : pE C (.cmp2 o o' a b c) p g = (pE C a p g).bind fun x g1 => (pE C b p g1).bind fun y g2 => (oQ g2 (cmpP o x.1 y.1)).bind fun k g3 =>
      if k = true then (pE C c p g3).bind fun z g4 => (oQ g4 (cmpP o' y.1 z.1)).bind fun k g5 => .ok (.bl k, false) g5 else .ok (.bl false, false) g3 := by rw [pE]
@[simp] theorem pE_and : pE C (.and a b) p g = (pE C a p g).bind fun x g1 => (oQ g1 (truP x.1 g1)).bind fun k g2 => if k = true then pE C b p g2 else .ok (x.1, false) g2 := by rw [pE]
@[simp] theorem pE_or : pE C (.or a b) p g = (pE C a p g).bind fun x g1 => (oQ g1 (truP x.1 g1)).bind fun k g2 => if k = true then .ok (x.1, false) g2 else pE C b p g2 := by rw [pE]
@[simp] theorem pE_ite : pE C (.ite c a b) p g = (pE C c p g).bind fun x g1 => (oQ g1 (truP x.1 g1)).bind fun k g2 => if k = true then pE C a p g2 else pE C b p g2 := by rw [pE]
def tupQ (vs : List D) (g : GS) : PR (D × Bool) := if vs.length ≤ sizeLine then .ok (.tup vs, false) g else .bad
def lstQ (vs : List D) (g : GS) : PR (D × Bool) := if vs.length ≤ sizeLine then .ok (.lst vs, true) g else .bad
theorem tupQ_ok {vs : List D} (h : vs.length ≤ 16777216) : tupQ vs g = .ok (.tup vs, false) g := if_pos h
theorem lstQ_ok {vs : List D} (h : vs.length ≤ 16777216) : lstQ vs g = .ok (.lst vs, true) g := if_pos h
@[simp] theorem tupQ_0 : tupQ [] g = .ok (.tup [], false) g := tupQ_ok (by decide)
@[simp] theorem tupQ_1 {x : D} : tupQ [x] g = .ok (.tup [x], false) g := tupQ_ok (by show 1 ≤ _; decide)
@[simp] theorem tupQ_2 {x y : D} : tupQ [x, y] g = .ok (.tup [x, y], false) g := tupQ_ok (by show 2 ≤ _; decide)
@[simp] theorem tupQ_3 {x y z : D} : tupQ [x, y, z] g = .ok (.tup [x, y, z], false) g := tupQ_ok (by show 3 ≤ _; decide)
@[simp] theorem tupQ_4 {x y z u : D} : tupQ [x, y, z, u] g = .ok (.tup [x, y, z, u], false) g := tupQ_ok (by show 4 ≤ _; decide)
@[simp] theorem tupQ_5 {x y z u v : D} : tupQ [x, y, z, u, v] g = .ok (.tup [x, y, z, u, v], false) g := tupQ_ok (by show 5 ≤ _; decide)
@[simp] theorem tupQ_6 {x y z u v w : D} : tupQ [x, y, z, u, v, w] g = .ok (.tup [x, y, z, u, v, w], false) g := tupQ_ok (by show 6 ≤ _; decide)
@[simp] theorem lstQ_0 : lstQ [] g = .ok (.lst [], true) g := lstQ_ok (by decide)
@[simp] theorem lstQ_1 {x : D} : lstQ [x] g = .ok (.lst [x], true) g := lstQ_ok (by show 1 ≤ _; decide)
@[simp] theorem lstQ_2 {x y : D} : lstQ [x, y] g = .ok (.lst [x, y], true) g := lstQ_ok (by show 2 ≤ _; decide)
@[simp] theorem lstQ_3 {x y z : D} : lstQ [x, y, z] g = .ok (.lst [x, y, z], true) g := lstQ_ok (by show 3 ≤ _; decide)
@[simp] theorem lstQ_4 {x y z u : D} : lstQ [x, y, z, u] g = .ok (.lst [x, y, z, u], true) g := lstQ_ok (by show 4 ≤ _; decide)
@[simp] theorem lstQ_5 {x y z u v : D} : lstQ [x, y, z, u, v] g = .ok (.lst [x, y, z, u, v], true) g := lstQ_ok (by show 5 ≤ _; decide)
@[simp] theorem lstQ_6 {x y z u v w : D} : lstQ [x, y, z, u, v, w] g = .ok (.lst [x, y, z, u, v, w], true) g := lstQ_ok (by show 6 ≤ _; decide)
@[simp] theorem pE_tup : pE C (.tup es) p g = (pEs C es p g).bind fun vs g1 => tupQ vs g1 := by rw [pE]; rfl
@[simp] theorem pE_lst : pE C (.lst es) p g = (pEs C es p g).bind fun vs g1 => lstQ vs g1 := by rw [pE]; rfl
@[simp] theorem pE_ix : pE C (.ix a b) p g = (pE C a p g).bind fun x g1 => (pE C b p g1).bind fun y g2 => oQ g2 ((ixP x.1 y.1 g2).map fun d => (d, false)) := by rw [pE]
@[simp] theorem pE_sl {lo hi : Option E} : pE C (.sl a lo hi) p g = (pE C a p g).bind fun x g1 => (pEo C lo p g1).bind fun l g2 => (pEo C hi p g2).bind fun u g3 => oQ g3 (slP x.1 l u g3) := by rw [pE]
@[simp] theorem pE_call {f : Nat} : pE C (.call f es) p g = (pEs C es p g).bind fun vs g1 => C f vs g1 := by rw [pE]
@[simp] theorem pE_dnew : pE C .dnew p g = .ok (.dct [] [], true) g := by rw [pE]
@[simp] theorem pE_dget : pE C (.dget a b) p g = (pE C a p g).bind fun x g1 => if x.1.isDct = true then (pE C b p g1).bind fun y g2 => oQ g2 ((dGetP x.1 y.1).map fun o => (o.getD .non, false)) else .bad := by rw [pE]
@[simp] theorem pE_dget2 : pE C (.dget2 a b c) p g = (pE C a p g).bind fun x g1 => if x.1.isDct = true then (pE C b p g1).bind fun y g2 => (pE C c p g2).bind fun z g3 => oQ g3 ((dGetP x.1 y.1).map fun o => (o.getD z.1, false)) else .bad := by rw [pE]
@[simp] theorem pE_fld {cs : List Str} {f : Str} : pE C (.fld cs a f) p g = (pE C a p g).bind fun x g1 => oQ g1 ((fldP cs x.1 f).map fun d => (d, false)) := by rw [pE]
noncomputable def methQ (C : PCl) (x : D) (es : List E) (p : PEn) (g : GS) : Option Nat → PR (D × Bool)
  | some f => (pEs C es p g).bind fun vs g2 => C f (x :: vs) g2
  | none => .bad
@[simp] theorem methQ_s {x : D} {f : Nat} : methQ C x es p g (some f) = (pEs C es p g).bind fun vs g2 => C f (x :: vs) g2 := rfl
@[simp] theorem pE_meth {cs : List (Str × Nat)} {m : Str} : pE C (.meth cs m a es) p g = (pE C a p g).bind fun x g1 => methQ C x.1 es p g1 (methP cs m x.1) := by
  (rw [pE]) <;> (first | rfl | (congr 1; done) | (congr 1; funext x g1; cases methP cs m x.1 <;> rfl))
@[simp] theorem pE_tidx {v : MV} : pE C (.tidx v a) p g = (pE C a p g).bind fun y g1 => oQ g1 ((tidxP v y.1).map fun d => (d, false)) := by rw [pE]
/-- a dict's comprehension, its test of slots apart -/
noncomputable def dcompQ (ok : Bool) (t : Tg) (elt : PEn → GS → PR (L2.Key × D)) (s : Option (List D)) (f : List D → PEn) (g : GS) : PR (D × Bool) := match s with
  | none => .bad
  | some xs => if ok = true then dcompP t (f xs) elt xs [] [] g else .bad
@[simp] theorem dcompQ_t {t : Tg} {elt : PEn → GS → PR (L2.Key × D)} {xs : List D} {f : List D → PEn} : dcompQ true t elt (some xs) f g = dcompP t (f xs) elt xs [] [] g := rfl
noncomputable def kvP (C : PCl) (key val : E) (p : PEn) (g : GS) : PR (L2.Key × D) := (pE C key p g).bind fun y g1 => (oQ g1 (keyP y.1)).bind fun k g2 => (pE C val p g2).bind fun z g3 => .ok (k, z.1) g3
theorem pE_dcomp {ws : List Nat} {t : Tg} {k : IK} {key val : E} : pE C (.dcomp ws t k es key val) p g = (pEs C es p g).bind fun vs g1 => dcompQ (okW t ws p) t (fun p g => kvP C key val p g) (srcP k vs) (fun xs => wipeP (lockP xs (leaks es) p) ws) g1 := by
  rw [pE]
  congr 1
@[simp] theorem pE_genQ {an : Bool} {l : Nat} {x : Str × Option Str} {q : QE} : pE C (.genQ an l x q a) p g = (pE C a p g).bind fun v g1 => (oQ g1 (genP an l x q p v.1 g1)).bind fun k g2 => .ok (.bl k, false) g2 := by rw [pE]
@[simp] theorem pE_allR {l : Nat} {x : Str × Option Str} {lo hi : Int} : pE C (.allR l x lo hi a) p g = (pE C a p g).bind fun v g1 => (oQ g1 (allRP l x lo hi v.1 g1)).bind fun k g2 => .ok (.bl k, false) g2 := by rw [pE]
@[simp] theorem pE_disp : pE C (.disp es) p g = (pEs C es p g).bind fun vs g1 => oQ g1 (dispP vs) := by rw [pE]
@[simp] theorem pE_index : pE C (.mt .index a [b]) p g = (pE C a p g).bind fun x g1 => if x.1.isLst = true then (pE C b p g1).bind fun y g2 => oQ g2 ((idxP x.1 y.1).map fun d => (d, false)) else .bad := by rw [pE]
@[simp] theorem pE_bi {k : Bi} : pE C (.bi k es) p g = (pEs C es p g).bind fun vs g1 => oQ g1 (biP k vs g1) := by rw [pE]
/-- a comprehension over known items -/
def compQ (ok : Bool) (t : Tg) (p : PEn) (tst : PEn → GS → PR Bool) (elt : PEn → GS → PR (D × Bool)) (q : Option (List D)) (f : List D → PEn) (g : GS) : PR (D × Bool) := match q with
  | none => .bad
  | some xs => if ok = true then compP t (f xs) tst elt xs [] g else .bad
@[simp] theorem compQ_t {t : Tg} {tst : PEn → GS → PR Bool} {elt : PEn → GS → PR (D × Bool)} {xs : List D} {f : List D → PEn} : compQ true t p tst elt (some xs) f g = compP t (f xs) tst elt xs [] g := rfl
theorem pE_comp {ws : List Nat} {t : Tg} {k : IK} : pE C (.comp ws t k es a) p g = (pEs C es p g).bind fun vs g1 => compQ (okW t ws p) t p (fun _ g => .ok true g) (fun p g => pE C a p g) (srcP k vs) (fun xs => wipeP (lockP xs (leaks es) p) ws) g1 := by
  rw [pE]
  rfl
theorem pE_compIf {ws : List Nat} {t : Tg} {k : IK} : pE C (.compIf ws t k es c a) p g = (pEs C es p g).bind fun vs g1 => compQ (okW t ws p) t p (fun p g => pT C c p g) (fun p g => pE C a p g) (srcP k vs) (fun xs => wipeP (lockP xs (leaks es) p) ws) g1 := by
  rw [pE]
  rfl
@[simp] theorem pEo_none : pEo C none p g = .ok none g := by rw [pEo]
def intQ : D → Option (Option Int)
  | .int i => some (some i)
  | _ => none
@[simp] theorem intQ_i {i : Int} : intQ (.int i) = some (some i) := rfl
@[simp] theorem pEo_some : pEo C (some a) p g = (pE C a p g).bind fun x g1 => oQ g1 (intQ x.1) := by
  rw [pEo]
  congr 1
  funext x g1
  obtain ⟨d, fr⟩ := x
  cases d <;> rfl
@[simp] theorem pEs_nil : pEs C [] p g = .ok [] g := by rw [pEs]
@[simp] theorem pEs_cons : pEs C (a :: es) p g = (pE C a p g).bind fun v g1 => (pEs C es p g1).bind fun vs g2 => .ok (v.1 :: vs) g2 := by rw [pEs]
theorem pT_eq : pT C a p g = (pE C a p g).bind fun x g1 => oQ g1 (truP x.1 g1) := rfl
@[simp] theorem pSs_nil : pSs C tk [] p g = .nx p g := by rw [pSs]
@[simp] theorem pSs_cons : pSs C tk (s :: ss) p g = (pS C tk s p g).seq fun p g => pSs C tk ss p g := by rw [pSs]
theorem pS_expr0 (h : appOf a = none) : pS C tk (.expr a) p g = (pE C a p g).sr p fun _ g1 => .nx p g1 := by rw [pS, h]
@[simp] theorem pS_app {i : Nat} : pS C tk (.expr (.mt .append (.var i) [a])) p g = if ownL p i = true then (pE C a p g).sr p fun v g1 => appP i v.1 (holdP v.1 v.2 (leak a) p) g1 else .bad := by rw [pS]; rfl
theorem pS_asg0 {t : Tg} (h : popOf a = none) : pS C tk (.asg t a) p g = if stK tk t = true then stP t a p g else (pE C a p g).sr p fun v g1 => asgP tk t v.1 v.2 (holdP v.1 v.2 (leak a) p) g1 := by rw [pS, h]
@[simp] theorem popOf_var {i : Nat} : popOf (.var i) = none := rfl
@[simp] theorem popOf_lit {v : MV} : popOf (.lit v) = none := rfl
@[simp] theorem popOf_bin {o : BOp} : popOf (.bin o a b) = none := rfl
@[simp] theorem popOf_neg : popOf (.neg a) = none := rfl
@[simp] theorem popOf_not : popOf (.not a) = none := rfl
@[simp] theorem popOf_cmp {o : COp} : popOf (.cmp o a b) = none := rfl
@[simp] theorem popOf_cmp2 {o o' : COp} : popOf (.cmp2 o o' a b c) = none := rfl
@[simp] theorem popOf_and : popOf (.and a b) = none := rfl
@[simp] theorem popOf_or : popOf (.or a b) = none := rfl
@[simp] theorem popOf_ite : popOf (.ite c a b) = none := rfl
@[simp] theorem popOf_tup : popOf (.tup es) = none := rfl
@[simp] theorem popOf_lst : popOf (.lst es) = none := rfl
@[simp] theorem popOf_ix : popOf (.ix a b) = none := rfl
@[simp] theorem popOf_sl {lo hi : Option E} : popOf (.sl a lo hi) = none := rfl
@[simp] theorem popOf_call {f : Nat} : popOf (.call f es) = none := rfl
@[simp] theorem popOf_bi {f : Bi} : popOf (.bi f es) = none := rfl
@[simp] theorem popOf_comp {ws : List Nat} {t : Tg} {k : IK} : popOf (.comp ws t k es a) = none := rfl
@[simp] theorem popOf_compIf {ws : List Nat} {t : Tg} {k : IK} : popOf (.compIf ws t k es c a) = none := rfl
@[simp] theorem popOf_dnew : popOf .dnew = none := rfl
@[simp] theorem popOf_dget : popOf (.dget a b) = none := rfl
@[simp] theorem popOf_dget2 : popOf (.dget2 a b c) = none := rfl
@[simp] theorem popOf_fld {cs : List Str} {f : Str} : popOf (.fld cs a f) = none := rfl
@[simp] theorem popOf_meth {cs : List (Str × Nat)} {m : Str} : popOf (.meth cs m a es) = none := rfl
@[simp] theorem popOf_tidx {v : MV} : popOf (.tidx v a) = none := rfl
@[simp] theorem popOf_dcomp {ws : List Nat} {t : Tg} {k : IK} {key val : E} : popOf (.dcomp ws t k es key val) = none := rfl
@[simp] theorem popOf_genQ {an : Bool} {l : Nat} {x : Str × Option Str} {q : QE} : popOf (.genQ an l x q a) = none := rfl
@[simp] theorem popOf_allR {l : Nat} {x : Str × Option Str} {lo hi : Int} : popOf (.allR l x lo hi a) = none := rfl
@[simp] theorem popOf_disp : popOf (.disp es) = none := rfl
@[simp] theorem popOf_index : popOf (.mt .index a es) = none := rfl
@[simp] theorem appOf_meth {cs : List (Str × Nat)} {m : Str} : appOf (.meth cs m a es) = none := rfl
@[simp] theorem pS_setFld {cs : List Str} {f : Str} {j : Nat} : pS C tk (.setFld cs (.var j) f a) p g = if ownI p j = true then (pE C a p g).sr p fun v g1 => setFP cs f j v.1 (holdP v.1 v.2 (leak a) p) g1 else .bad := by
  rw [pS]
  by_cases h : ownI p j = true
  · simp only [varOf, Option.bind_some, h, if_true]
  · simp only [varOf, Option.bind_some, h]
    rfl
@[simp] theorem appOf_call {f : Nat} : appOf (.call f es) = none := rfl
@[simp] theorem appOf_bi {f : Bi} : appOf (.bi f es) = none := rfl
@[simp] theorem stK_nil {t : Tg} : stK [] t = false := by cases t <;> rfl
theorem pS_asg {t : Tg} : pS C tk (.asg t a) p g = match popOf a with
    | some i => popP t i p g
    | none => if stK tk t = true then stP t a p g else (pE C a p g).sr p fun v g1 => asgP tk t v.1 v.2 (holdP v.1 v.2 (leak a) p) g1 := by
  (rw [pS]) <;> (cases popOf a <;> rfl)
@[simp] theorem pS_pop {t : Tg} {i : Nat} : pS C tk (.asg t (.mt .pop (.var i) [])) p g = popP t i p g := by rw [pS]; rfl
@[simp] theorem pS_aug {i : Nat} {o : BOp} : pS C tk (.aug i o a) p g = if o = .add ∧ ownL p i = true then (if (leak a).contains i = true then .bad else (pE C a p g).sr p fun v g1 => extP i v.1 (holdP v.1 v.2 (leak a) p) g1)
    else (oQ g (getP p i)).sr p fun x _ => (pE C a p g).sr p fun y g1 => (oQ g1 (augP o x y.1)).sr p fun z g2 => .nx (p.set i (some (z, false))) g2 := by rw [pS]
/-- a store -/
def stoP (C : PCl) (o : E) (p : PEn) (v k : D × Bool) (ls : List Nat) (x : PR (D × Bool)) (g : GS) : PSR := .bad
@[simp] theorem pS_setIx {j : Nat} : pS C tk (.setIx (.var j) b c) p g = if ownC p j = true then (pE C c p g).sr p fun v g1 => (pE C b p g1).sr p fun k g2 => setP j k.1 v.1 (holdP v.1 v.2 (leak c) p) g2
    else (pE C c p g).sr p fun v g1 => (pE C (.var j) p g1).sr p fun x g2 => (pE C b p g2).sr p fun k g3 => if clP v.1 v.2 = true then setT x.1 k.1 v.1 p g3 else .bad := by
  rw [pS]
  by_cases h : ownC p j = true
  · simp only [varOf, Option.bind_some, h, if_true]
  · simp only [varOf, Option.bind_some, h]
    rfl
def retO (a : E) (p : PEn) : Option D := (varOf a).bind fun j => ownP p j
def retQ (g : GS) (r : PSR) : Option D → PSR
  | some d => .rt d true g
  | none => r
@[simp] theorem retQ_s {r : PSR} {d : D} : retQ g r (some d) = .rt d true g := rfl
@[simp] theorem retQ_n {r : PSR} : retQ g r none = r := rfl
@[simp] theorem pS_ret : pS C tk (.ret a) p g = retQ g ((pE C a p g).sr p fun v g1 => .rt v.1 v.2 g1) (retO a p) := by
  rw [pS]
  unfold retO
  cases (varOf a).bind fun j => ownP p j <;> rfl
@[simp] theorem retO_var {i : Nat} : retO (.var i) p = ownP p i := rfl
@[simp] theorem retO_lit {v : MV} : retO (.lit v) p = none := rfl
@[simp] theorem retO_bin {o : BOp} : retO (.bin o a b) p = none := rfl
@[simp] theorem retO_neg : retO (.neg a) p = none := rfl
@[simp] theorem retO_not : retO (.not a) p = none := rfl
@[simp] theorem retO_cmp {o : COp} : retO (.cmp o a b) p = none := rfl
@[simp] theorem retO_cmp2 {o o' : COp} : retO (.cmp2 o o' a b c) p = none := rfl
@[simp] theorem retO_and : retO (.and a b) p = none := rfl
@[simp] theorem retO_or : retO (.or a b) p = none := rfl
@[simp] theorem retO_ite : retO (.ite c a b) p = none := rfl
@[simp] theorem retO_tup : retO (.tup es) p = none := rfl
@[simp] theorem retO_lst : retO (.lst es) p = none := rfl
@[simp] theorem retO_ix : retO (.ix a b) p = none := rfl
@[simp] theorem retO_sl {lo hi : Option E} : retO (.sl a lo hi) p = none := rfl
@[simp] theorem retO_call {f : Nat} : retO (.call f es) p = none := rfl
@[simp] theorem retO_bi {f : Bi} : retO (.bi f es) p = none := rfl
@[simp] theorem retO_comp {ws : List Nat} {t : Tg} {k : IK} : retO (.comp ws t k es a) p = none := rfl
@[simp] theorem retO_compIf {ws : List Nat} {t : Tg} {k : IK} : retO (.compIf ws t k es c a) p = none := rfl
@[simp] theorem retO_fld {cs : List Str} {f : Str} : retO (.fld cs a f) p = none := rfl
@[simp] theorem retO_meth {cs : List (Str × Nat)} {m : Str} : retO (.meth cs m a es) p = none := rfl
@[simp] theorem retO_tidx {v : MV} : retO (.tidx v a) p = none := rfl
@[simp] theorem retO_dcomp {ws : List Nat} {t : Tg} {k : IK} {key val : E} : retO (.dcomp ws t k es key val) p = none := rfl
@[simp] theorem retO_genQ {an : Bool} {l : Nat} {x : Str × Option Str} {q : QE} : retO (.genQ an l x q a) p = none := rfl
@[simp] theorem retO_allR {l : Nat} {x : Str × Option Str} {lo hi : Int} : retO (.allR l x lo hi a) p = none := rfl
@[simp] theorem retO_disp : retO (.disp es) p = none := rfl
@[simp] theorem retO_mt {m : Mt} : retO (.mt m a es) p = none := rfl
@[simp] theorem retO_dnew : retO .dnew p = none := rfl
@[simp] theorem retO_dget : retO (.dget a b) p = none := rfl
@[simp] theorem retO_dget2 : retO (.dget2 a b c) p = none := rfl
@[simp] theorem pS_iff : pS C tk (.iff a xs ys) p g = (pT C a p g).sr p fun k g1 => if k = true then pSs C tk xs p g1 else pSs C tk ys p g1 := by rw [pS]
theorem pS_whl : pS C tk (.whl a xs) p g = loop .bad (whileTurnP C a (fun p g => pSs C tk xs p g)) 0 (p, g) := by rw [pS]
/-- a for over known items -/
def forQ (ok : Bool) (t : Tg) (b : PEn → GS → PSR) (q : Option (List D)) (f : List D → PEn) (g : GS) : PSR := match q with
  | none => .bad
  | some xs => if ok = true then forP t b xs (f xs) g else .bad
@[simp] theorem forQ_t {t : Tg} {b : PEn → GS → PSR} {xs : List D} {f : List D → PEn} : forQ true t b (some xs) f g = forP t b xs (f xs) g := rfl
noncomputable def forL (q : Option E) (C : PCl) (t : Tg) (b : PEn → GS → PSR) (p : PEn) (g : GS) (old : PSR) : PSR := match q with
  | none => old
  | some a => match pE C (.bi .list [a]) p g with
    | .ok (.lst xs, true) g1 => if Ds.im xs = true then forP t b xs p g1 else old
    | _ => old
@[simp] theorem forL_none {t : Tg} {b : PEn → GS → PSR} {old : PSR} : forL none C t b p g old = old := rfl
theorem pS_for {t : Tg} {k : IK} : pS C tk (.for_ t k es xs) p g = forL (lstOf k es) C t (fun p g => pSs C tk xs p g) p g ((pEs C es p g).sr p fun vs g1 => forQ (disj (leaks es) (mutds xs)) t (fun p g => pSs C tk xs p g) (srcP k vs) (fun ys => lockP ys (leaks es) p) g1) := by
  rw [pS]
  cases lstOf k es <;> rfl
theorem pS_forL {t : Tg} {ys : List D} {g1 : GS} (hv : pE C (.bi .list [a]) p g = .ok (.lst ys, true) g1) (him : Ds.im ys = true) : pS C tk (.for_ t .val [.bi .list [a]] xs) p g = forP t (fun p g => pSs C tk xs p g) ys p g1 := by
  rw [pS]
  simp only [lstOf, hv]
  rw [if_pos him]
@[simp] theorem lstOf_1 : lstOf .rng1 es = none := rfl
@[simp] theorem lstOf_2 : lstOf .rng2 es = none := rfl
@[simp] theorem lstOf_r : lstOf .rev es = none := rfl
@[simp] theorem lstOf_var {i : Nat} : lstOf .val [.var i] = none := rfl
@[simp] theorem lstOf_lit {v : MV} : lstOf .val [.lit v] = none := rfl
@[simp] theorem lstOf_call {f : Nat} {es : List E} : lstOf .val [.call f es] = none := rfl
@[simp] theorem lstOf_ix : lstOf .val [.ix a b] = none := rfl
@[simp] theorem lstOf_sl {lo hi : Option E} : lstOf .val [.sl a lo hi] = none := rfl
@[simp] theorem lstOf_bin {o : BOp} : lstOf .val [.bin o a b] = none := rfl
@[simp] theorem lstOf_tup {es : List E} : lstOf .val [.tup es] = none := rfl
@[simp] theorem lstOf_lst {es : List E} : lstOf .val [.lst es] = none := rfl
@[simp] theorem lstOf_comp {ws : List Nat} {t : Tg} {k : IK} {es : List E} : lstOf .val [.comp ws t k es a] = none := rfl
@[simp] theorem lstOf_compIf {ws : List Nat} {t : Tg} {k : IK} {es : List E} : lstOf .val [.compIf ws t k es c a] = none := rfl
@[simp] theorem lstOf_sorted {es : List E} : lstOf .val [.bi .sorted es] = none := rfl
@[simp] theorem lstOf_lrng {es : List E} : lstOf .val [.bi .lrng es] = none := rfl
@[simp] theorem lstOf_sset {es : List E} : lstOf .val [.bi .sset es] = none := rfl
@[simp] theorem lstOf_zip {es : List E} : lstOf .zip es = none := by unfold lstOf; cases es with | nil => rfl | cons a r => rfl
@[simp] theorem lstOf_fld {cs : List Str} {f : Str} : lstOf .val [.fld cs a f] = none := rfl
@[simp] theorem lstOf_meth {cs : List (Str × Nat)} {m : Str} {es : List E} : lstOf .val [.meth cs m a es] = none := rfl
@[simp] theorem lstOf_dget : lstOf .val [.dget a b] = none := rfl
@[simp] theorem lstOf_ite : lstOf .val [.ite c a b] = none := rfl
@[simp] theorem pS_brk : pS C tk .brk p g = .bk p g := by rw [pS]
@[simp] theorem pS_cont : pS C tk .cont p g = .ct p g := by rw [pS]
@[simp] theorem pS_pass : pS C tk .pass p g = .nx p g := by rw [pS]
theorem call_eq {T : List Fn} {tk : Nat → List Nat} {d f : Nat} {vs : List D} {fn : Fn} (hf : T[f]? = some fn) (hl : vs.length = fn.ps.length) (hm : fn.mkr = none := by rfl) : callP T tk (d + 1) f vs g = (pSs (callP T tk d) (if Ds.im vs = true then tk f else (tk f).map (· + 1000)) fn.body (startP fn vs) g).res := by
  rw [callP, hf]
  simp only [hl, if_true, hm]
theorem run_appP : ∀ (xs ys : List S) (p : PEn) (g : GS), pSs C tk (xs ++ ys) p g = (pSs C tk xs p g).seq fun p g => pSs C tk ys p g
  | [], ys, p, g => by rw [pSs_nil, PSR.seq_nx]; rfl
  | x :: xs, ys, p, g => by
    rw [List.cons_append, pSs_cons, pSs_cons]
    cases q : pS C tk x p g with
    | nx p2 g2 => rw [PSR.seq_nx, PSR.seq_nx, run_appP xs ys]
    | _ => rfl
end
/-! ### leaks -/
section
variable {a b c : E} {es : List E}
@[simp] theorem lk_var {i : Nat} : leak (.var i) = [i] := by rw [leak]
@[simp] theorem lk_lit {v : MV} : leak (.lit v) = [] := by rw [leak]
@[simp] theorem lk_bin {o : BOp} : leak (.bin o a b) = leak a ++ leak b := by rw [leak]
@[simp] theorem lk_neg : leak (.neg a) = [] := by rw [leak]
@[simp] theorem lk_not : leak (.not a) = [] := by rw [leak]
@[simp] theorem lk_cmp {o : COp} : leak (.cmp o a b) = [] := by rw [leak]
@[simp] theorem lk_cmp2 {o o' : COp} : leak (.cmp2 o o' a b c) = [] := by rw [leak]
@[simp] theorem lk_and : leak (.and a b) = leak a ++ leak b := by rw [leak]
@[simp] theorem lk_or : leak (.or a b) = leak a ++ leak b := by rw [leak]
@[simp] theorem lk_ite : leak (.ite c a b) = leak a ++ leak b := by rw [leak]
@[simp] theorem lk_tup : leak (.tup es) = leaks es := by rw [leak]
@[simp] theorem lk_lst : leak (.lst es) = leaks es := by rw [leak]
@[simp] theorem lk_ix : leak (.ix a b) = leak a := by rw [leak]
@[simp] theorem lk_sl {lo hi : Option E} : leak (.sl a lo hi) = leak a := by rw [leak]
@[simp] theorem lk_call {f : Nat} : leak (.call f es) = leaks es := by rw [leak]
@[simp] theorem lk_bi {f : Bi} : leak (.bi f es) = leaks es := by rw [leak]
@[simp] theorem lk_comp {ws : List Nat} {t : Tg} {k : IK} : leak (.comp ws t k es a) = leaks es ++ leak a := by rw [leak]
@[simp] theorem lk_compIf {ws : List Nat} {t : Tg} {k : IK} : leak (.compIf ws t k es c a) = leaks es ++ leak a := by rw [leak]
@[simp] theorem lk_fld {cs : List Str} {f : Str} : leak (.fld cs a f) = leak a := by rw [leak]
@[simp] theorem lk_meth {cs : List (Str × Nat)} {m : Str} : leak (.meth cs m a es) = leak a ++ leaks es := by rw [leak]
@[simp] theorem lk_tidx {v : MV} : leak (.tidx v a) = [] := by rw [leak]
@[simp] theorem lk_dcomp {ws : List Nat} {t : Tg} {k : IK} {key val : E} : leak (.dcomp ws t k es key val) = leaks es ++ (leak key ++ leak val) := by rw [leak]
@[simp] theorem lk_genQ {an : Bool} {l : Nat} {x : Str × Option Str} {q : QE} : leak (.genQ an l x q a) = [] := by rw [leak]
@[simp] theorem lk_allR {l : Nat} {x : Str × Option Str} {lo hi : Int} : leak (.allR l x lo hi a) = [] := by rw [leak]
@[simp] theorem lk_disp : leak (.disp es) = leaks es := by rw [leak]
@[simp] theorem lk_mt {m : Mt} : leak (.mt m a es) = leak a ++ leaks es := by rw [leak]
@[simp] theorem lk_dnew : leak .dnew = [] := by rw [leak]
@[simp] theorem lk_dget : leak (.dget a b) = leak a := by rw [leak]
@[simp] theorem lk_dget2 : leak (.dget2 a b c) = leak a ++ leak c := by rw [leak]
@[simp] theorem lks_nil : leaks [] = [] := by rw [leaks]
@[simp] theorem lks_cons : leaks (a :: es) = leak a ++ leaks es := by rw [leaks]
@[simp] theorem tslots_nm {i : Nat} : tslots (.nm i) = [i] := rfl
@[simp] theorem tslots_tp {is : List Nat} : tslots (.tp is) = is := rfl
end
/-! ### slots -/
@[simp] theorem getP_0 {d : D} {b : Bool} {r : PEn} : getP (some (d, b) :: r) 0 = some d := rfl
@[simp] theorem getP_s2 {x : Option (D × Bool)} {r : PEn} {n : Nat} : getP (x :: r) (n + 1) = getP r n := getP_s
@[simp] theorem ownP_s2 {x : Option (D × Bool)} {r : PEn} {n : Nat} : ownP (x :: r) (n + 1) = ownP r n := ownP_s
@[simp] theorem ownP_t {d : D} {r : PEn} : ownP (some (d, true) :: r) 0 = some d := rfl
@[simp] theorem ownP_f {d : D} {r : PEn} : ownP (some (d, false) :: r) 0 = none := rfl
@[simp] theorem ownP_n {r : PEn} : ownP (none :: r) 0 = none := rfl
@[simp] theorem frzP_nil {p : PEn} : frzP [] p = p := rfl
@[simp] theorem frzP_cons {i : Nat} {is : List Nat} {p : PEn} : frzP (i :: is) p = frzP is (frz1 i p) := rfl
@[simp] theorem frz1_0 {d : D} {b : Bool} {r : PEn} : frz1 0 (some (d, b) :: r) = some (d, false) :: r := rfl
@[simp] theorem frz1_0n {r : PEn} : frz1 0 (none :: r) = none :: r := rfl
@[simp] theorem frz1_s {x : Option (D × Bool)} {n : Nat} {r : PEn} : frz1 (n + 1) (x :: r) = x :: frz1 n r := rfl
@[simp] theorem wipeP_nil {p : PEn} : wipeP p [] = p := rfl
@[simp] theorem wipeP_cons {p : PEn} {v : Nat} {vs : List Nat} : wipeP p (v :: vs) = (wipeP p vs).set v none := rfl
def rngD (lo : Int) (n : Nat) : List D := (List.range n).map fun (k : Nat) => .int (lo + k)
theorem hold_im {d : D} {fr : Bool} {ls : List Nat} {p : PEn} (h : clP d fr = true) : holdP d fr ls p = p := if_pos h
theorem hold_no {d : D} {fr : Bool} {ls : List Nat} {p : PEn} (h : clP d fr = false) : holdP d fr ls p = frzP ls p := by
  unfold holdP
  rw [if_neg (by rw [h]; decide)]
theorem lock_im {xs : List D} {ls : List Nat} {p : PEn} (h : Ds.im xs = true) : lockP xs ls p = p := if_pos h
theorem lock_no {xs : List D} {ls : List Nat} {p : PEn} (h : Ds.im xs = false) : lockP xs ls p = frzP ls p := by
  unfold lockP
  rw [if_neg (by rw [h]; decide)]
@[simp] theorem lock_nil {xs : List D} {p : PEn} : lockP xs [] p = p := by
  unfold lockP
  split <;> rfl
@[simp] theorem hold_nil {d : D} {fr : Bool} {p : PEn} : holdP d fr [] p = p := by
  unfold holdP
  split <;> rfl
@[simp] theorem clP_f {d : D} : clP d false = d.im := by cases d <;> rfl
@[simp] theorem clP_t {xs : List D} : clP (.lst xs) true = Ds.im xs := rfl
@[simp] theorem im_int {i : Int} : (D.int i).im = true := by simp [D.im]
@[simp] theorem im_bl {i : Bool} : (D.bl i).im = true := by simp [D.im]
@[simp] theorem im_str {i : Str} : (D.str i).im = true := by simp [D.im]
@[simp] theorem im_non : D.non.im = true := by simp [D.im]
@[simp] theorem im_tok {n : Nat} : (D.tok n).im = true := by simp [D.im]
@[simp] theorem im_tup {xs : List D} : (D.tup xs).im = Ds.im xs := by simp [D.im]
@[simp] theorem im_rol {xs : List D} : (D.rol xs).im = Ds.im xs := by simp [D.im]
@[simp] theorem im_lst {xs : List D} : (D.lst xs).im = false := by simp [D.im]
@[simp] theorem ims_nil : Ds.im [] = true := by simp [Ds.im]
@[simp] theorem ims_cons {x : D} {xs : List D} : Ds.im (x :: xs) = (x.im && Ds.im xs) := by simp [Ds.im]
theorem ims_all : ∀ {xs : List D}, Ds.im xs = xs.all D.im
  | [] => by simp
  | x :: xs => by simp [ims_all (xs := xs)]
theorem ims_of {xs : List D} (h : ∀ x ∈ xs, x.im = true) : Ds.im xs = true := by
  rw [ims_all, List.all_eq_true]
  exact h
theorem ims_map {α : Type} {f : α → D} {xs : List α} (h : ∀ x, (f x).im = true) : Ds.im (xs.map f) = true := ims_of fun x m => by
  obtain ⟨y, _, rfl⟩ := List.mem_map.mp m
  exact h y
@[simp] theorem ims_ints {xs : List Int} : Ds.im (xs.map .int) = true := ims_map fun _ => im_int
@[simp] theorem ims_append {xs ys : List D} : Ds.im (xs ++ ys) = (Ds.im xs && Ds.im ys) := by
  rw [ims_all, ims_all, ims_all, List.all_append]
@[simp] theorem hold_int {i : Int} {ls : List Nat} {p : PEn} : holdP (.int i) false ls p = p := hold_im (by simp)
@[simp] theorem hold_bl {i : Bool} {ls : List Nat} {p : PEn} : holdP (.bl i) false ls p = p := hold_im (by simp)
@[simp] theorem hold_str {i : Str} {ls : List Nat} {p : PEn} : holdP (.str i) false ls p = p := hold_im (by simp)
@[simp] theorem hold_tok {i : Nat} {ls : List Nat} {p : PEn} : holdP (.tok i) false ls p = p := hold_im (by simp)
@[simp] theorem hold_non {ls : List Nat} {p : PEn} : holdP .non false ls p = p := hold_im (by simp)
@[simp] theorem hold_l0 {ls : List Nat} {p : PEn} : holdP (.lst []) true ls p = p := hold_im (by simp)
@[simp] theorem hold_ints {xs : List Int} {ls : List Nat} {p : PEn} : holdP (.lst (xs.map .int)) true ls p = p := hold_im (by simp)
@[simp] theorem lock_ints {xs : List Int} {ls : List Nat} {p : PEn} : lockP (xs.map .int) ls p = p := lock_im (by simp)
@[simp] theorem lock_rng {lo : Int} {n : Nat} {ls : List Nat} {p : PEn} : lockP (rngD lo n) ls p = p := lock_im (by
  unfold rngD
  exact ims_map fun _ => im_int)
@[simp] theorem hold_f {d : D} {ls : List Nat} {p : PEn} (h : d.im = true) : holdP d false ls p = p := hold_im (by rw [clP_f]; exact h)
@[simp] theorem hold_t {xs : List D} {ls : List Nat} {p : PEn} (h : Ds.im xs = true) : holdP (.lst xs) true ls p = p := hold_im (by rw [clP_t]; exact h)
@[simp] theorem hold_fn {d : D} {ls : List Nat} {p : PEn} (h : d.im = false) : holdP d false ls p = frzP ls p := hold_no (by rw [clP_f]; exact h)
@[simp] theorem hold_tn {xs : List D} {ls : List Nat} {p : PEn} (h : Ds.im xs = false) : holdP (.lst xs) true ls p = frzP ls p := hold_no (by rw [clP_t]; exact h)
@[simp] theorem lock_tn {xs : List D} {ls : List Nat} {p : PEn} (h : Ds.im xs = false) : lockP xs ls p = frzP ls p := lock_no h
@[simp] theorem lock_t {xs : List D} {ls : List Nat} {p : PEn} (h : Ds.im xs = true) : lockP xs ls p = p := lock_im h
/-! ### stores -/
@[simp] theorem asgP_nm {i : Nat} {d : D} {fr : Bool} {p : PEn} {g : GS} : asgP [] (.nm i) d fr p g = .nx (p.set i (some (d, fr))) g := rfl
theorem asgP_tk {tk : List Nat} {i : Nat} {xs : List D} {p : PEn} {g : GS} (h : tkB tk i = true) : asgP tk (.nm i) (.lst xs) true p g = .nx (p.set i (some (.tok g.length, false))) (g ++ [.lst xs]) := by
  unfold asgP
  simp only
  rw [if_pos h]
theorem asgP_nt {tk : List Nat} {i : Nat} {d : D} {fr : Bool} {p : PEn} {g : GS} (h : tk.contains i = false) : asgP tk (.nm i) d fr p g = .nx (p.set i (some (d, fr))) g := by
  unfold asgP
  simp only
  rw [if_neg (by unfold tkB; rw [h]; simp)]
def nxO (q : Option PEn) (g : GS) : PSR := match q with
  | some p => .nx p g
  | none => .bad
@[simp] theorem nxO_some {p : PEn} {g : GS} : nxO (some p) g = .nx p g := rfl
@[simp] theorem asgP_tp {tk is : List Nat} {xs : List D} {fr : Bool} {p : PEn} {g : GS} : asgP tk (.tp is) (.tup xs) fr p g = nxO (setsP is xs p) g := by
  unfold asgP
  simp only
  cases setsP is xs p <;> rfl
@[simp] theorem asgP_tl {tk is : List Nat} {xs : List D} {fr : Bool} {p : PEn} {g : GS} : asgP tk (.tp is) (.lst xs) fr p g = nxO (setsP is xs p) g := by
  unfold asgP
  simp only
  cases setsP is xs p <;> rfl
@[simp] theorem setsP_nil {p : PEn} : setsP [] [] p = some p := rfl
@[simp] theorem setsP_cons {i : Nat} {is : List Nat} {v : D} {vs : List D} {p : PEn} : setsP (i :: is) (v :: vs) p = setsP is vs (p.set i (some (v, false))) := rfl
@[simp] theorem tsetP_nm {i : Nat} {v : D} {p : PEn} : tsetP (.nm i) v p = some (p.set i (some (v, false))) := rfl
@[simp] theorem tsetP_tp {is : List Nat} {xs : List D} {p : PEn} : tsetP (.tp is) (.tup xs) p = setsP is xs p := rfl
def appL (i : Nat) (d : D) (p : PEn) (g : GS) : Option D → PSR
  | some (.lst xs) => if xs.length < sizeLine then .nx (p.set i (some (.lst (xs ++ [d]), true))) g else .bad
  | _ => .bad
@[simp] theorem appP_eq {i : Nat} {d : D} {p : PEn} {g : GS} : appP i d p g = appL i d p g (ownP p i) := by
  unfold appP appL
  rfl
theorem appL_ok {i : Nat} {d : D} {p : PEn} {g : GS} {xs : List D} (h : xs.length < 16777216) : appL i d p g (some (.lst xs)) = .nx (p.set i (some (.lst (xs ++ [d]), true))) g := if_pos h
def isLd : Option D → Bool
  | some (.lst _) => true
  | _ => false
@[simp] theorem ownL_eq {p : PEn} {i : Nat} : ownL p i = isLd (ownP p i) := by
  unfold ownL isLd
  rfl
@[simp] theorem isLd_l {xs : List D} : isLd (some (.lst xs)) = true := rfl
@[simp] theorem isLd_n : isLd none = false := rfl
@[simp] theorem isLd_i {i : Int} : isLd (some (.int i)) = false := rfl
def isCd : Option D → Bool
  | some (.lst _) => true
  | some (.dct _ _) => true
  | _ => false
@[simp] theorem ownC_eq {p : PEn} {i : Nat} : ownC p i = isCd (ownP p i) := by
  unfold ownC isCd
  rfl
@[simp] theorem isCd_l {xs : List D} : isCd (some (.lst xs)) = true := rfl
@[simp] theorem isCd_d {ks : List L2.Key} {xs : List D} : isCd (some (.dct ks xs)) = true := rfl
@[simp] theorem isCd_n : isCd none = false := rfl
@[simp] theorem isCd_i {i : Int} : isCd (some (.int i)) = false := rfl
def popL (t : Tg) (i : Nat) (p : PEn) (g : GS) : Option D → PSR
  | some (.lst xs) => match xs[xs.length - 1]? with
    | some y => nxO (tsetP t y (p.set i (some (.lst xs.dropLast, true)))) g
    | none => .bad
  | _ => .bad
@[simp] theorem popP_eq {t : Tg} {i : Nat} {p : PEn} {g : GS} : popP t i p g = popL t i p g (ownP p i) := by
  unfold popP popL
  cases ownP p i with
  | none => rfl
  | some d =>
    cases d with
    | lst xs =>
      simp only
      cases xs[xs.length - 1]? with
      | none => rfl
      | some y =>
        simp only
        cases tsetP t y (p.set i (some (.lst xs.dropLast, true))) <;> rfl
    | _ => rfl
def setL (i : Nat) (d : D) (p : PEn) (g : GS) : Option D → D → PSR
  | some (.lst xs), .int n => nxO ((L2.ixN xs.length n).map fun m => p.set i (some (.lst (xs.set m d), true))) g
  | some (.dct ks xs), k => match keyP k with
    | some k => if ks.length < sizeLine then .nx (p.set i (some (dPutP ks xs k d, true))) g else .bad
    | none => .bad
  | _, _ => .bad
@[simp] theorem setP_eq {i : Nat} {k d : D} {p : PEn} {g : GS} : setP i k d p g = setL i d p g (ownP p i) k := by
  unfold setP setL
  cases ownP p i with
  | none => rfl
  | some x =>
    cases x with
    | lst xs =>
      cases k with
      | int n =>
        simp only
        cases L2.ixN xs.length n <;> rfl
      | _ => rfl
    | _ => rfl
def extL (i : Nat) (p : PEn) (g : GS) : Option D → D → PSR
  | some (.lst xs), .lst ys => if xs.length + ys.length ≤ sizeLine then .nx (p.set i (some (.lst (xs ++ ys), true))) g else .bad
  | _, _ => .bad
@[simp] theorem extP_eq {i : Nat} {d : D} {p : PEn} {g : GS} : extP i d p g = extL i p g (ownP p i) d := by
  unfold extP extL
  rfl
theorem extL_ok {i : Nat} {p : PEn} {g : GS} {xs ys : List D} (h : xs.length + ys.length ≤ 16777216) : extL i p g (some (.lst xs)) (.lst ys) = .nx (p.set i (some (.lst (xs ++ ys), true))) g := if_pos h
def isId : Option D → Bool
  | some (.ins _ _ _) => true
  | _ => false
@[simp] theorem ownI_eq {p : PEn} {i : Nat} : ownI p i = isId (ownP p i) := by
  unfold ownI isId
  rfl
@[simp] theorem isId_i {c : Str} {ns : List Str} {xs : List D} : isId (some (.ins c ns xs)) = true := rfl
@[simp] theorem isId_n : isId none = false := rfl
def setFL (cs : List Str) (f : Str) (j : Nat) (d : D) (p : PEn) (g : GS) : Option D → PSR
  | some (.ins c ns xs) => if cs.contains c = true ∧ ns.length < 900 then .nx (p.set j (some (fPutP c ns xs f d, true))) g else .bad
  | _ => .bad
@[simp] theorem setFP_eq {cs : List Str} {f : Str} {j : Nat} {d : D} {p : PEn} {g : GS} : setFP cs f j d p g = setFL cs f j d p g (ownP p j) := by
  unfold setFP setFL
  rfl
@[simp] theorem setFL_i {cs : List Str} {f : Str} {j : Nat} {d : D} {p : PEn} {g : GS} {c : Str} {ns : List Str} {xs : List D} : setFL cs f j d p g (some (.ins c ns xs)) = if cs.contains c = true ∧ ns.length < 900 then .nx (p.set j (some (fPutP c ns xs f d, true))) g else .bad := rfl
@[simp] theorem fld_ins {cs : List Str} {f c : Str} {ns : List Str} {xs : List D} : fldP cs (.ins c ns xs) f = if cs.contains c = true then (nIx ns f).bind fun i => xs[i]? else none := rfl
@[simp] theorem meth_ins {cs : List (Str × Nat)} {m c : Str} {ns : List Str} {xs : List D} : methP cs m (.ins c ns xs) = if (nIx ns m).isNone = true then cs.lookup c else none := rfl
@[simp] theorem im_ins {c : Str} {ns : List Str} {xs : List D} : (D.ins c ns xs).im = false := by simp [D.im]
@[simp] theorem clP_ins {c : Str} {ns : List Str} {xs : List D} : clP (.ins c ns xs) true = Ds.im xs := rfl
@[simp] theorem isLst_l {xs : List D} : (D.lst xs).isLst = true := rfl
/-- an instance is made -/
theorem call_mk {T : List Fn} {tk : Nat → List Nat} {d f j : Nat} {vs : List D} {fn fj : Fn} {c : Str} {g : GS} (hf : T[f]? = some fn) (hl : vs.length = fn.ps.length) (hm : fn.mkr = some (c, j)) (hj : T[j]? = some fj) (hp : vs.length + 1 = fj.ps.length) (hk : fj.mkr = none) (h0 : keep0s fj.body = true) :
    callP T tk (d + 2) f vs g = (pSs (callP T tk d) [] fj.body (startI fj c vs) g).made := by
  rw [callP, hf]
  simp only [hl, if_true, hm, hj]
  rw [if_pos ⟨by rw [← hl]; exact hp, by rw [hk]; rfl, h0⟩]
def setG (n : Nat) (d : D) (p : PEn) (g : GS) (m : Int) : Option GO → PSR
  | some (.lst xs) => match L2.ixN xs.length m with
    | some j => .nx p (g.set n (.lst (xs.set j d)))
    | none => .bad
  | _ => .bad
@[simp] theorem setT_eq {n : Nat} {m : Int} {d : D} {p : PEn} {g : GS} : setT (.tok n) (.int m) d p g = setG n d p g m g[n]? := by
  unfold setT setG
  rfl
@[simp] theorem setL_eq {i : Nat} {d : D} {p : PEn} {g : GS} {xs : List D} {n : Int} : setL i d p g (some (.lst xs)) (.int n) = nxO ((L2.ixN xs.length n).map fun m => p.set i (some (.lst (xs.set m d), true))) g := rfl
theorem setL_d {i : Nat} {k d : D} {kk : L2.Key} {p : PEn} {g : GS} {ks : List L2.Key} {xs : List D} (ek : keyP k = some kk) (hz : ks.length < 16777216) : setL i d p g (some (.dct ks xs)) k = .nx (p.set i (some (dPutP ks xs kk d, true))) g := by
  unfold setL
  simp only [ek]
  exact if_pos hz
@[simp] theorem key_int {i : Int} : keyP (.int i) = some (.inl i) := rfl
@[simp] theorem key_str {x : Str} : keyP (.str x) = some (.inr x) := rfl
@[simp] theorem dct_is {ks : List L2.Key} {xs : List D} : (D.dct ks xs).isDct = true := rfl
@[simp] theorem dget_d {ks : List L2.Key} {xs : List D} {y : D} : dGetP (.dct ks xs) y = (keyP y).map fun k => (kIx ks k).bind fun i => xs[i]? := rfl
@[simp] theorem im_dct {ks : List L2.Key} {xs : List D} : (D.dct ks xs).im = false := by simp [D.im]
@[simp] theorem clP_d {ks : List L2.Key} {xs : List D} : clP (.dct ks xs) true = Ds.im xs := rfl
/-! ### operations at known kinds -/
section
variable {i j : Int} {g : GS}
@[simp] theorem bin_add {x y : D} : binP .add x y = addP x y := rfl
@[simp] theorem add_ii : addP (.int i) (.int j) = some (.int (i + j), false) := rfl
@[simp] theorem sub_ii : binP .sub (.int i) (.int j) = some (.int (i - j), false) := rfl
theorem add_ll {xs ys : List D} (h : xs.length + ys.length ≤ 16777216) : addP (.lst xs) (.lst ys) = some (.lst (xs ++ ys), true) := if_pos h
theorem add_tt {xs ys : List D} (h : xs.length + ys.length ≤ 16777216) : addP (.tup xs) (.tup ys) = some (.tup (xs ++ ys), false) := if_pos h
theorem mul_r (h1 : -18446744073709551616 < j) (h2 : j < 18446744073709551616) : binP .mul (.int i) (.int j) = some (.int (i * j), false) := by
  have e : mulOk i j = true := by
    rw [mulOk_iff]
    unfold augO.CMulB
    simp only [Bool.or_eq_true, Bool.and_eq_true, decide_eq_true_eq]
    right
    omega
  simp only [binP, e, if_true]
theorem mul_l (h1 : -18446744073709551616 < i) (h2 : i < 18446744073709551616) : binP .mul (.int i) (.int j) = some (.int (i * j), false) := by
  have e : mulOk i j = true := by
    rw [mulOk_iff]
    unfold augO.CMulB
    simp only [Bool.or_eq_true, Bool.and_eq_true, decide_eq_true_eq]
    left
    omega
  simp only [binP, e, if_true]
theorem fdiv_ii (h1 : 0 < j) (h2 : j < 1073741824) : binP .fdiv (.int i) (.int j) = some (.int (i / j), false) := by
  have e : divOk j = true := divOk_iff.mpr (by omega)
  simp only [binP]
  rw [if_pos e, Int.fdiv_eq_ediv_of_nonneg i (by omega)]
theorem mod_ii (h1 : 0 < j) : binP .mod (.int i) (.int j) = some (.int (i % j), false) := by
  have e : j ≠ 0 := by omega
  simp only [binP]
  rw [if_pos e, Int.fmod_eq_emod_of_nonneg i (by omega)]
@[simp] theorem pow_10_18 : binP .pow (.int 10) (.int 18) = some (.int 1000000000000000000, false) := by
  have e : powOk 10 18 = true := powOk_iff.mpr (by decide)
  simp only [binP]
  rw [if_pos e]
  rfl
@[simp] theorem aadd_ii : augP .add (.int i) (.int j) = some (.int (i + j)) := rfl
@[simp] theorem asub_ii : augP .sub (.int i) (.int j) = some (.int (i - j)) := rfl
theorem amul_r (h1 : -18446744073709551616 < j) (h2 : j < 18446744073709551616) : augP .mul (.int i) (.int j) = some (.int (i * j)) := by
  have e : mulOk i j = true := by
    rw [mulOk_iff]
    unfold augO.CMulB
    simp only [Bool.or_eq_true, Bool.and_eq_true, decide_eq_true_eq]
    right
    omega
  simp only [augP, e, if_true]
@[simp] theorem cmp_eq {x y : D} : cmpP .eq x y = eqP x y := rfl
@[simp] theorem cmp_ne {x y : D} : cmpP .ne x y = (eqP x y).map (!·) := rfl
@[simp] theorem cmp_inn {x y : D} : cmpP .inn x y = inP x y := rfl
@[simp] theorem cmp_nin {x y : D} : cmpP .nin x y = (inP x y).map (!·) := rfl
@[simp] theorem cmp_isb {a b : Bool} : cmpP .is (.bl a) (.bl b) = some (decide (a = b)) := rfl
@[simp] theorem cmp_isnb {a b : Bool} : cmpP .isn (.bl a) (.bl b) = some (!decide (a = b)) := rfl
@[simp] theorem eq_bb {a b : Bool} : eqP (.bl a) (.bl b) = some (decide (a = b)) := by
  cases a <;> cases b <;> rfl
@[simp] theorem cmp_is {x : D} : cmpP .is x .non = some x.isNon := rfl
@[simp] theorem cmp_isn {x : D} : cmpP .isn x .non = some (!x.isNon) := rfl
@[simp] theorem cmp_lt : cmpP .lt (.int i) (.int j) = some (decide (i < j)) := rfl
@[simp] theorem cmp_le : cmpP .le (.int i) (.int j) = some (decide (i ≤ j)) := rfl
@[simp] theorem cmp_gt : cmpP .gt (.int i) (.int j) = some (decide (j < i)) := rfl
@[simp] theorem cmp_ge : cmpP .ge (.int i) (.int j) = some (decide (j ≤ i)) := rfl
@[simp] theorem isNon_non : D.isNon .non = true := rfl
@[simp] theorem isNon_int : D.isNon (.int i) = false := rfl
@[simp] theorem isNon_tup {xs : List D} : D.isNon (.tup xs) = false := rfl
@[simp] theorem isNon_lst {xs : List D} : D.isNon (.lst xs) = false := rfl
@[simp] theorem isNon_str {x : Str} : D.isNon (.str x) = false := rfl
@[simp] theorem isNon_bl {x : Bool} : D.isNon (.bl x) = false := rfl
@[simp] theorem tru_bl {b : Bool} : truP (.bl b) g = some b := rfl
@[simp] theorem tru_non : truP .non g = some false := rfl
@[simp] theorem tru_int : truP (.int i) g = some (i != 0) := rfl
@[simp] theorem tru_lst {xs : List D} : truP (.lst xs) g = some (!xs.isEmpty) := rfl
@[simp] theorem tru_tup {xs : List D} : truP (.tup xs) g = some (!xs.isEmpty) := rfl
@[simp] theorem ix_tup {xs : List D} : ixP (.tup xs) (.int i) g = L2.atI xs i := rfl
@[simp] theorem ix_lst {xs : List D} : ixP (.lst xs) (.int i) g = L2.atI xs i := rfl
@[simp] theorem ix_rol {xs : List D} : ixP (.rol xs) (.int i) g = L2.atI xs i := rfl
def goL : Option GO → Option (List D)
  | some (.lst xs) => some xs
  | _ => none
@[simp] theorem goL_l {xs : List D} : goL (some (.lst xs)) = some xs := rfl
@[simp] theorem ix_tok {n : Nat} : ixP (.tok n) (.int i) g = (goL g[n]?).bind fun xs => L2.atI xs i := by
  cases e : g[n]? with
  | none => simp [ixP, ixPL, gItems, goL, e]
  | some o => cases o <;> simp [ixP, ixPL, gItems, goL, e]
@[simp] theorem len_d {ks : List L2.Key} {xs : List D} : biP .len [.dct ks xs] g = some (.int ks.length, false) := rfl
@[simp] theorem list_d {ks : List L2.Key} {xs : List D} : biP .list [.dct ks xs] g = some (.lst (ks.map keyD), true) := rfl
theorem sorted_d {ks : List L2.Key} {xs : List D} {ns : List Int} (e : keyIs ks = some ns) : biP .sorted [.dct ks xs] g = some (.lst ((ns.mergeSort (fun a b => decide (a ≤ b))).map .int), true) := by
  show ((keyIs ks).map fun ns => (D.lst ((ns.mergeSort (fun a b => decide (a ≤ b))).map .int), true)) = _
  rw [e]
  rfl
theorem keyIs_inl : ∀ ns : List Int, keyIs (ns.map Sum.inl) = some ns
  | [] => rfl
  | n :: ns => by
    rw [List.map_cons, keyIs, keyIs_inl ns]
    rfl
@[simp] theorem tru_d {ks : List L2.Key} {xs : List D} : truP (.dct ks xs) g = some (!ks.isEmpty) := rfl
@[simp] theorem in_d {x : D} {ks : List L2.Key} {xs : List D} : inP x (.dct ks xs) = (keyP x).map fun k => (kIx ks k).isSome := rfl
@[simp] theorem ix_d {y : D} {ks : List L2.Key} {xs : List D} : ixP (.dct ks xs) y g = (dGetP (.dct ks xs) y).bind id := rfl
@[simp] theorem len_tup {xs : List D} : biP .len [.tup xs] g = some (.int xs.length, false) := rfl
@[simp] theorem len_lst {xs : List D} : biP .len [.lst xs] g = some (.int xs.length, false) := rfl
@[simp] theorem len_rol {xs : List D} : biP .len [.rol xs] g = some (.int xs.length, false) := rfl
@[simp] theorem bi_min2 : biP .min2 [.int i, .int j] g = some (.int (if j < i then j else i), false) := rfl
@[simp] theorem bi_max2 : biP .max2 [.int i, .int j] g = some (.int (if j > i then j else i), false) := rfl
@[simp] theorem bi_abs : biP .abs [.int i] g = some (.int (if i < 0 then -i else i), false) := rfl
@[simp] theorem bi_int : biP .int [.int i] g = some (.int i, false) := rfl
@[simp] theorem bi_intb {b : Bool} : biP .int [.bl b] g = some (.int (if b then 1 else 0), false) := rfl
@[simp] theorem list_l {xs : List D} : biP .list [.lst xs] g = some (.lst xs, true) := rfl
@[simp] theorem list_t {xs : List D} : biP .list [.tup xs] g = some (.lst xs, true) := rfl
@[simp] theorem list_r {xs : List D} : biP .list [.rol xs] g = some (.lst xs, true) := rfl
@[simp] theorem tuple_l {xs : List D} : biP .tuple [.lst xs] g = some (.tup xs, false) := rfl
@[simp] theorem tuple_t {xs : List D} : biP .tuple [.tup xs] g = some (.tup xs, false) := rfl
theorem intsP_map : ∀ xs : List Int, intsP (xs.map .int) = some xs
  | [] => rfl
  | x :: xs => by rw [List.map_cons, intsP, intsP_map xs]; rfl
theorem blsP_map : ∀ xs : List Bool, blsP (xs.map .bl) = some xs
  | [] => rfl
  | x :: xs => by rw [List.map_cons, blsP, blsP_map xs]; rfl
@[simp] theorem sum_l {xs : List Int} : biP .sum [.lst (xs.map .int)] g = some (.int xs.sum, false) := by
  simp only [biP, biPL, gList, Option.bind_some, intsP_map, Option.map_some]
@[simp] theorem all_l {xs : List Bool} : biP .allL [.lst (xs.map .bl)] g = some (.bl (xs.all id), false) := by
  simp only [biP, biPL, gList, Option.bind_some, blsP_map, Option.map_some]
@[simp] theorem any_l {xs : List Bool} : biP .anyL [.lst (xs.map .bl)] g = some (.bl (xs.any id), false) := by
  simp only [biP, biPL, gList, Option.bind_some, blsP_map, Option.map_some]
theorem max_l {x : Int} {xs : List Int} : biP .maxL [.lst (.int x :: xs.map .int)] g = some (.int (maxI x xs), false) := by
  simp only [biP, biPL, gList, Option.bind_some, intsP, intsP_map, Option.map_some]
theorem min_l {x : Int} {xs : List Int} : biP .minL [.lst (.int x :: xs.map .int)] g = some (.int (minI x xs), false) := by
  simp only [biP, biPL, gList, Option.bind_some, intsP, intsP_map, Option.map_some]
theorem sorted_l {xs : List Int} : biP .sorted [.lst (xs.map .int)] g = some (.lst ((xs.mergeSort (fun a b => decide (a ≤ b))).map .int), true) := by
  simp only [biP, biPL, gList, Option.bind_some, intsP_map]
theorem sset_l {xs : List Int} (h : xs.length < 4000) : biP .sset [.lst (xs.map .int)] g = some (.lst ((setI xs).map .int), true) := by
  simp only [biP, biPL, gList, Option.bind_some, intsP_map]
  exact if_pos h
@[simp] theorem src_zip {xs ys : List D} : srcP .zip [.tup xs, .tup ys] = some (List.zipWith (fun x y => D.tup [x, y]) xs ys) := rfl
@[simp] theorem ty_i : tyNmP (.int i) g = some "int" := rfl
@[simp] theorem ty_b {b : Bool} : tyNmP (.bl b) g = some "bool" := rfl
@[simp] theorem ty_n : tyNmP .non g = some "NoneType" := rfl
@[simp] theorem ty_s {x : Str} : tyNmP (.str x) g = some "str" := rfl
@[simp] theorem ty_t {xs : List D} : tyNmP (.tup xs) g = some "tuple" := rfl
@[simp] theorem ty_l {xs : List D} : tyNmP (.lst xs) g = some "list" := rfl
@[simp] theorem bi_isInt {x : D} : biP .isInt [x] g = (tyNmP x g).map fun t => (.bl (t == "int" || t == "bool"), false) := rfl
@[simp] theorem bi_isBool {x : D} : biP .isBool [x] g = (tyNmP x g).map fun t => (.bl (t == "bool"), false) := rfl
@[simp] theorem bi_isList {x : D} : biP .isList [x] g = (tyNmP x g).map fun t => (.bl (t == "list"), false) := rfl
@[simp] theorem bi_isTup {x : D} : biP .isTup [x] g = (tyNmP x g).map fun t => (.bl (t == "tuple"), false) := rfl
@[simp] theorem bi_isStr {x : D} : biP .isStr [x] g = (tyNmP x g).map fun t => (.bl (t == "str"), false) := rfl
@[simp] theorem src_tup {xs : List D} : srcP .val [.tup xs] = some xs := rfl
@[simp] theorem src_lst {xs : List D} : srcP .val [.lst xs] = some xs := rfl
@[simp] theorem src_rol {xs : List D} : srcP .val [.rol xs] = some xs := rfl
@[simp] theorem src_str {x : Str} : srcP .val [.str x] = some (x.cps.toList.map fun c => .str ⟨#[c]⟩) := rfl
@[simp] theorem src_revl {xs : List D} : srcP .rev [.lst xs] = some xs.reverse := rfl
@[simp] theorem src_revt {xs : List D} : srcP .rev [.tup xs] = some xs.reverse := rfl
theorem lrng_ii (h1 : -4611686018427387904 ≤ i) (h2 : i < 4611686018427387904) (h3 : -4611686018427387904 ≤ j) (h4 : j < 4611686018427387904) (h5 : (j - i).toNat ≤ 16777216) : biP .lrng [.int i, .int j] g = some (.lst (((List.range (j - i).toNat).map fun (k : Nat) => i + (k : Int)).map .int), true) := by
  have e : (rngOk i && (rngOk j && lenOk (j - i).toNat)) = true := by
    unfold rngOk lenOk
    simp only [Bool.and_eq_true, decide_eq_true_eq]
    omega
  simp only [biP, biPL]
  rw [if_pos e]
theorem src_rng1 (h1 : -4611686018427387904 ≤ j) (h2 : j < 4611686018427387904) : srcP .rng1 [.int j] = some (rngD 0 j.toNat) := by
  have e : rngOk j = true := by
    unfold rngOk
    simp only [Bool.and_eq_true, decide_eq_true_eq]
    omega
  simp only [srcP, e, if_true, rngD]
theorem src_nat {n : Nat} (h : n < 1000000) : srcP .rng1 [.int (n : Int)] = some (rngD 0 n) := by
  have := src_rng1 (j := (n : Int)) (by omega) (by omega)
  rw [this]
  rfl
theorem src_rng2 (h1 : -4611686018427387904 ≤ i) (h2 : i < 4611686018427387904) (h3 : -4611686018427387904 ≤ j) (h4 : j < 4611686018427387904) : srcP .rng2 [.int i, .int j] = some (rngD i (j - i).toNat) := by
  have e : rngOk j = true := by
    unfold rngOk
    simp only [Bool.and_eq_true, decide_eq_true_eq]
    omega
  have e2 : rngOk i = true := by
    unfold rngOk
    simp only [Bool.and_eq_true, decide_eq_true_eq]
    omega
  simp only [srcP, e, e2, Bool.and_true, if_true, rngD]
@[simp] theorem ims_rng {lo : Int} {n : Nat} : Ds.im (rngD lo n) = true := ims_map fun _ => im_int
@[simp] theorem rngD_zero {lo : Int} : rngD lo 0 = [] := rfl
theorem rngD_succ {lo : Int} {n : Nat} : rngD lo (n + 1) = .int lo :: rngD (lo + 1) n := by
  unfold rngD
  rw [List.range_succ_eq_map, List.map_cons, List.map_map]
  congr 1
  · simp
  · apply List.map_congr_left
    intro k _
    show D.int (lo + ((k + 1 : Nat) : Int)) = _
    congr 1
    omega
theorem mem_rngD {lo : Int} {n : Nat} {v : D} (h : v ∈ rngD lo n) : ∃ k : Nat, k < n ∧ v = .int (lo + k) := by
  unfold rngD at h
  obtain ⟨k, hk, e⟩ := List.mem_map.mp h
  exact ⟨k, List.mem_range.mp hk, e.symm⟩
@[simp] theorem rngD_length {lo : Int} {n : Nat} : (rngD lo n).length = n := by simp [rngD]
theorem run_for_nat {C : PCl} {tk : List Nat} {t : Tg} {es : List E} {b : List S} {p : PEn} {g1 : GS} {n : Nat} (hn : n < 1000000) (he : pEs C es p g = .ok [.int (n : Int)] g1) (hd : disj (leaks es) (mutds b) = true) :
    pS C tk (.for_ t .rng1 es b) p g = forP t (fun p g => pSs C tk b p g) (rngD 0 n) p g1 := by
  rw [pS_for, lstOf_1, forL_none, he, PR.sr_ok, hd, src_nat hn, forQ_t, lock_rng]
/-! places -/
theorem atI_lit {α : Type} {xs : List α} {n : Nat} : L2.atI xs (n : Int) = xs[n]? := by
  by_cases hn : n < xs.length
  · rw [List.getElem?_eq_getElem hn]
    exact L2.atI_nat (List.getElem?_eq_getElem hn)
  · rw [List.getElem?_eq_none (Nat.le_of_not_lt hn)]
    unfold L2.atI L2.ixN
    rw [if_pos (by omega), if_neg (by omega)]
    rfl
theorem atI_pos {α : Type} {xs : List α} (hi : 0 ≤ i) : L2.atI xs i = xs[i.toNat]? := by
  have : i = (i.toNat : Int) := by omega
  rw [this, atI_lit]
  congr 1
@[simp] theorem atI_0 {α : Type} {xs : List α} : L2.atI xs 0 = xs[0]? := atI_lit (n := 0)
@[simp] theorem atI_1 {α : Type} {xs : List α} : L2.atI xs 1 = xs[1]? := atI_lit (n := 1)
@[simp] theorem atI_2 {α : Type} {xs : List α} : L2.atI xs 2 = xs[2]? := atI_lit (n := 2)
@[simp] theorem atI_3 {α : Type} {xs : List α} : L2.atI xs 3 = xs[3]? := atI_lit (n := 3)
@[simp] theorem atI_4 {α : Type} {xs : List α} : L2.atI xs 4 = xs[4]? := atI_lit (n := 4)
@[simp] theorem atI_5 {α : Type} {xs : List α} : L2.atI xs 5 = xs[5]? := atI_lit (n := 5)
theorem ixN_pos {n : Nat} {i : Int} (h1 : 0 ≤ i) (h2 : i < n) : L2.ixN n i = some i.toNat := by
  unfold L2.ixN
  rw [if_pos h1, if_pos (by omega)]
@[simp] theorem get_c0 {α : Type} {a : α} {r : List α} : (a :: r)[0]? = some a := rfl
@[simp] theorem get_cs {α : Type} {a : α} {r : List α} {n : Nat} : (a :: r)[n + 1]? = r[n]? := rfl
@[simp] theorem mvD_int : mvD (.int i) = some (.int i) := by simp [mvD]
@[simp] theorem mvD_str {x : Str} : mvD (.str x) = some (.str x) := by simp [mvD]
@[simp] theorem mvD_bl {x : Bool} : mvD (.bl x) = some (.bl x) := by simp [mvD]
@[simp] theorem mvD_non : mvD .non = some .non := by simp [mvD]
@[simp] theorem mvD_tup {xs : List MV} : mvD (.tup xs) = (mvDs xs).map .tup := by simp [mvD]
@[simp] theorem mvD_rol {xs : List MV} : mvD (.rol xs) = (mvDs xs).map .rol := by simp [mvD]
@[simp] theorem mvDs_nil : mvDs [] = some [] := by simp [mvDs]
@[simp] theorem mvDs_cons {x : MV} {xs : List MV} : mvDs (x :: xs) = (mvD x).bind fun d => (mvDs xs).map fun ds => d :: ds := by
  rw [mvDs]
  cases mvD x <;> cases mvDs xs <;> rfl
end
/-! ### equality -/
mutual
/-- data with neither bools nor objects, of a bounded depth -/
def D.gd : Nat → D → Bool
  | _, .non => true
  | _, .bl _ => false
  | _, .int _ => true
  | _, .str x => PyData.strOk x
  | 0, .tup _ => false
  | k + 1, .tup xs => Ds.gd k xs
  | 0, .lst _ => false
  | k + 1, .lst xs => Ds.gd k xs
  | _, .rol _ => false
  | _, .tok _ => false
  | _, .dct _ _ => false
  | _, .ins _ _ _ => false
def Ds.gd : Nat → List D → Bool
  | _, [] => true
  | k, x :: xs => x.gd k && Ds.gd k xs
end
mutual
theorem gd_mono : ∀ {d : D} {k k' : Nat}, k ≤ k' → d.gd k = true → d.gd k' = true
  | .non, k, k', _, _ => by cases k' <;> simp [D.gd]
  | .bl _, k, k', _, h => by cases k <;> simp [D.gd] at h
  | .int _, k, k', _, _ => by cases k' <;> simp [D.gd]
  | .str _, k, k', _, h => by cases k <;> cases k' <;> simpa [D.gd] using h
  | .rol _, k, k', _, h => by cases k <;> simp [D.gd] at h
  | .tok _, k, k', _, h => by cases k <;> simp [D.gd] at h
  | .dct _ _, k, k', _, h => by cases k <;> simp [D.gd] at h
  | .ins _ _ _, k, k', _, h => by cases k <;> simp [D.gd] at h
  | .tup xs, 0, k', _, h => by simp [D.gd] at h
  | .tup xs, k + 1, 0, hk, h => absurd hk (by omega)
  | .tup xs, k + 1, k' + 1, hk, h => by
    rw [D.gd] at h ⊢
    exact gds_mono (Nat.le_of_succ_le_succ hk) h
  | .lst xs, 0, k', _, h => by simp [D.gd] at h
  | .lst xs, k + 1, 0, hk, h => absurd hk (by omega)
  | .lst xs, k + 1, k' + 1, hk, h => by
    rw [D.gd] at h ⊢
    exact gds_mono (Nat.le_of_succ_le_succ hk) h
theorem gds_mono : ∀ {ds : List D} {k k' : Nat}, k ≤ k' → Ds.gd k ds = true → Ds.gd k' ds = true
  | [], k, k', _, _ => by rw [Ds.gd]
  | d :: ds, k, k', hk, h => by
    rw [Ds.gd, Bool.and_eq_true] at h ⊢
    exact ⟨gd_mono hk h.1, gds_mono hk h.2⟩
end
mutual
theorem gd_sh : ∀ {d : D} {k : Nat}, d.gd k = true → d.nt = true ∧ d.pd.canLay0 = true ∧ d.pd.depth ≤ k + 1
  | .non, k, _ => ⟨by simp [D.nt], by simp [D.pd, PyData.canLay0], by simp [D.pd, PyData.depth]⟩
  | .int _, k, _ => ⟨by simp [D.nt], by simp [D.pd, PyData.canLay0], by simp [D.pd, PyData.depth]⟩
  | .bl _, k, h => by cases k <;> simp [D.gd] at h
  | .str x, k, h => ⟨by simp [D.nt], by
      have : PyData.strOk x = true := by cases k <;> simpa [D.gd] using h
      simp [D.pd, PyData.canLay0, this], by simp [D.pd, PyData.depth]⟩
  | .rol _, k, h => by cases k <;> simp [D.gd] at h
  | .tok _, k, h => by cases k <;> simp [D.gd] at h
  | .dct _ _, k, h => by cases k <;> simp [D.gd] at h
  | .ins _ _ _, k, h => by cases k <;> simp [D.gd] at h
  | .tup xs, 0, h => by simp [D.gd] at h
  | .tup xs, k + 1, h => by
    rw [D.gd] at h
    obtain ⟨a, b, c⟩ := gds_sh h
    exact ⟨by simpa [D.nt] using a, by simpa [D.pd, PyData.canLay0] using b, by simp [D.pd, PyData.depth]; omega⟩
  | .lst xs, 0, h => by simp [D.gd] at h
  | .lst xs, k + 1, h => by
    rw [D.gd] at h
    obtain ⟨a, b, c⟩ := gds_sh h
    exact ⟨by simpa [D.nt] using a, by simpa [D.pd, PyData.canLay0] using b, by simp [D.pd, PyData.depth]; omega⟩
theorem gds_sh : ∀ {ds : List D} {k : Nat}, Ds.gd k ds = true → Ds.nt ds = true ∧ PyData.canLayAll0 (Ds.pd ds) = true ∧ PyData.depthAll (Ds.pd ds) ≤ k + 1
  | [], k, _ => ⟨by simp [Ds.nt], by simp [Ds.pd, PyData.canLayAll0], by simp [Ds.pd, PyData.depthAll]⟩
  | d :: ds, k, h => by
    rw [Ds.gd, Bool.and_eq_true] at h
    obtain ⟨a, b, c⟩ := gd_sh h.1
    obtain ⟨a', b', c'⟩ := gds_sh h.2
    exact ⟨by simp [Ds.nt, a, a'], by simp [Ds.pd, PyData.canLayAll0, b, b'], by simp [Ds.pd, PyData.depthAll]; omega⟩
end
theorem sh_gd {d : D} (h : d.gd 60 = true) : d.sh = true := by
  obtain ⟨a, b, c⟩ := gd_sh h
  unfold D.sh shp
  rw [a, b]
  simp
  omega
mutual
theorem eqv_gd : ∀ {d e : D} {k j : Nat}, d.gd k = true → e.gd j = true → PyData.eqv d.pd e.pd = decide (d = e)
  | .bl _, _, k, _, h, _ => by cases k <;> simp [D.gd] at h
  | .rol _, _, k, _, h, _ => by cases k <;> simp [D.gd] at h
  | .tok _, _, k, _, h, _ => by cases k <;> simp [D.gd] at h
  | .dct _ _, _, k, _, h, _ => by cases k <;> simp [D.gd] at h
  | .ins _ _ _, _, k, _, h, _ => by cases k <;> simp [D.gd] at h
  | d, .bl _, _, k, _, h => by cases k <;> simp [D.gd] at h
  | d, .rol _, _, k, _, h => by cases k <;> simp [D.gd] at h
  | d, .tok _, _, k, _, h => by cases k <;> simp [D.gd] at h
  | d, .dct _ _, _, k, _, h => by cases k <;> simp [D.gd] at h
  | d, .ins _ _ _, _, k, _, h => by cases k <;> simp [D.gd] at h
  | .tup xs, _, 0, _, h, _ => by simp [D.gd] at h
  | .lst xs, _, 0, _, h, _ => by simp [D.gd] at h
  | _, .tup xs, _, 0, _, h => by simp [D.gd] at h
  | _, .lst xs, _, 0, _, h => by simp [D.gd] at h
  | .tup xs, .tup ys, k + 1, j + 1, h, h' => by
    rw [D.gd] at h h'
    have := eqvs_gd h h'
    simp [D.pd, PyData.eqv, this]
  | .lst xs, .lst ys, k + 1, j + 1, h, h' => by
    rw [D.gd] at h h'
    have := eqvs_gd h h'
    simp [D.pd, PyData.eqv, this]
  | .non, .non, _, _, _, _ => by simp [D.pd, PyData.eqv]
  | .non, .int _, _, _, _, _ => by simp [D.pd, PyData.eqv]
  | .non, .str _, _, _, _, _ => by simp [D.pd, PyData.eqv]
  | .non, .tup _, _, j + 1, _, _ => by simp [D.pd, PyData.eqv]
  | .non, .lst _, _, j + 1, _, _ => by simp [D.pd, PyData.eqv]
  | .int i, .non, _, _, _, _ => by simp [D.pd, PyData.eqv]
  | .int i, .int _, _, _, _, _ => by simp [D.pd, PyData.eqv]; rfl
  | .int i, .str _, _, _, _, _ => by simp [D.pd, PyData.eqv]
  | .int i, .tup _, _, j + 1, _, _ => by simp [D.pd, PyData.eqv]
  | .int i, .lst _, _, j + 1, _, _ => by simp [D.pd, PyData.eqv]
  | .str i, .non, _, _, _, _ => by simp [D.pd, PyData.eqv]
  | .str i, .int _, _, _, _, _ => by simp [D.pd, PyData.eqv]
  | .str i, .str _, _, _, _, _ => by simp [D.pd, PyData.eqv]; rfl
  | .str i, .tup _, _, j + 1, _, _ => by simp [D.pd, PyData.eqv]
  | .str i, .lst _, _, j + 1, _, _ => by simp [D.pd, PyData.eqv]
  | .tup i, .non, k + 1, _, _, _ => by simp [D.pd, PyData.eqv]
  | .tup i, .int _, k + 1, _, _, _ => by simp [D.pd, PyData.eqv]
  | .tup i, .str _, k + 1, _, _, _ => by simp [D.pd, PyData.eqv]
  | .tup i, .lst _, k + 1, j + 1, _, _ => by simp [D.pd, PyData.eqv]
  | .lst i, .non, k + 1, _, _, _ => by simp [D.pd, PyData.eqv]
  | .lst i, .int _, k + 1, _, _, _ => by simp [D.pd, PyData.eqv]
  | .lst i, .str _, k + 1, _, _, _ => by simp [D.pd, PyData.eqv]
  | .lst i, .tup _, k + 1, j + 1, _, _ => by simp [D.pd, PyData.eqv]
theorem eqvs_gd : ∀ {ds es : List D} {k j : Nat}, Ds.gd k ds = true → Ds.gd j es = true → PyData.eqvAll (Ds.pd ds) (Ds.pd es) = decide (ds = es)
  | [], [], _, _, _, _ => by simp [Ds.pd, PyData.eqvAll]
  | [], _ :: _, _, _, _, _ => by simp [Ds.pd, PyData.eqvAll]
  | _ :: _, [], _, _, _, _ => by simp [Ds.pd, PyData.eqvAll]
  | d :: ds, e :: es, k, j, h, h' => by
    rw [Ds.gd, Bool.and_eq_true] at h h'
    simp [Ds.pd, PyData.eqvAll, eqv_gd h.1 h'.1, eqvs_gd h.2 h'.2]
end
theorem sh_gdk {d : D} {k : Nat} (hk : k ≤ 120) (h : d.gd k = true) : d.sh = true := by
  obtain ⟨a, b, c⟩ := gd_sh h
  unfold D.sh shp
  rw [a, b]
  simp
  omega
/-- data of up to 120 levels -/
theorem eqP_gdk {x y : D} {k j : Nat} (hk : k ≤ 120) (hj : j ≤ 120) (hx : x.gd k = true) (hy : y.gd j = true) : eqP x y = some (decide (x = y)) := by
  unfold eqP
  rw [if_pos ⟨sh_gdk hk hx, sh_gdk hj hy⟩, eqv_gd hx hy]
theorem eqP_gd {x y : D} (hx : x.gd 60 = true) (hy : y.gd 60 = true) : eqP x y = some (decide (x = y)) := by
  unfold eqP
  rw [if_pos ⟨sh_gd hx, sh_gd hy⟩, eqv_gd hx hy]
@[simp] theorem gd_int {k : Nat} {i : Int} : (D.int i).gd k = true := by cases k <;> simp [D.gd]
@[simp] theorem gd_non {k : Nat} : D.non.gd k = true := by cases k <;> simp [D.gd]
@[simp] theorem gd_str {k : Nat} {x : Str} : (D.str x).gd k = PyData.strOk x := by cases k <;> simp [D.gd]
@[simp] theorem gd_tup {k : Nat} {xs : List D} : (D.tup xs).gd (k + 1) = Ds.gd k xs := by simp [D.gd]
@[simp] theorem gd_lst {k : Nat} {xs : List D} : (D.lst xs).gd (k + 1) = Ds.gd k xs := by simp [D.gd]
@[simp] theorem gds_nil {k : Nat} : Ds.gd k [] = true := by simp [Ds.gd]
@[simp] theorem gds_cons {k : Nat} {x : D} {xs : List D} : Ds.gd k (x :: xs) = (x.gd k && Ds.gd k xs) := by simp [Ds.gd]
theorem gds_all {k : Nat} : ∀ {xs : List D}, Ds.gd k xs = xs.all fun x => x.gd k
  | [] => by simp
  | x :: xs => by simp [gds_all (xs := xs)]
theorem gds_of {k : Nat} {xs : List D} (h : ∀ x ∈ xs, x.gd k = true) : Ds.gd k xs = true := by
  rw [gds_all, List.all_eq_true]
  exact h
theorem gds_map {α : Type} {k : Nat} {f : α → D} {xs : List α} (h : ∀ x, (f x).gd k = true) : Ds.gd k (xs.map f) = true := gds_of fun x m => by
  obtain ⟨y, _, rfl⟩ := List.mem_map.mp m
  exact h y
@[simp] theorem gds_ints {k : Nat} {xs : List Int} : Ds.gd k (xs.map .int) = true := gds_map fun _ => gd_int
@[simp] theorem eq_ii {i j : Int} : eqP (.int i) (.int j) = some (decide (i = j)) := by
  rw [eqP_gd gd_int gd_int]
  simp
theorem eq_ss {x y : Str} (hx : PyData.strOk x = true) (hy : PyData.strOk y = true) : eqP (.str x) (.str y) = some (decide (x = y)) := by
  rw [eqP_gd (by simpa using hx) (by simpa using hy)]
  simp
theorem in_l {x : D} {ys : List D} (hx : x.gd 59 = true) (hy : Ds.gd 59 ys = true) : inP x (.lst ys) = some (decide (x ∈ ys)) := by
  unfold inP
  simp only
  rw [if_pos ⟨sh_gd (gd_mono (by omega) hx), sh_gd (by simpa using hy)⟩]
  congr 1
  rw [gds_all, List.all_eq_true] at hy
  induction ys with
  | nil => simp
  | cons y ys ih =>
    rw [List.any_cons, ih fun z m => hy z (List.mem_cons_of_mem _ m), eqv_gd (hy y List.mem_cons_self) hx]
    simp [eq_comm]
theorem in_t {x : D} {ys : List D} (hx : x.gd 59 = true) (fx : x.flat = true) (hy : Ds.gd 59 ys = true) (fy : ys.all D.flat = true) : inP x (.tup ys) = some (decide (x ∈ ys)) := by
  unfold inP
  simp only
  rw [if_pos ⟨fx, fy⟩]
  congr 1
  rw [gds_all, List.all_eq_true] at hy
  clear fy
  induction ys with
  | nil => simp
  | cons y ys ih =>
    rw [List.any_cons, ih fun z m => hy z (List.mem_cons_of_mem _ m), eqv_gd (hy y List.mem_cons_self) hx]
    simp [eq_comm]
theorem in_ints {x : Int} {xs : List Int} : inP (.int x) (.lst (xs.map .int)) = some (decide (x ∈ xs)) := by
  rw [in_l (by simp) (by simp)]
  congr 2
  apply propext
  rw [List.mem_map]
  exact ⟨fun ⟨y, h, e⟩ => by cases e; exact h, fun h => ⟨x, h, rfl⟩⟩
theorem in_intsT {x : Int} {xs : List Int} : inP (.int x) (.tup (xs.map .int)) = some (decide (x ∈ xs)) := by
  rw [in_t (by simp) rfl (by simp) (by rw [List.all_map]; exact List.all_eq_true.mpr fun _ _ => rfl)]
  congr 2
  apply propext
  rw [List.mem_map]
  exact ⟨fun ⟨y, h, e⟩ => by cases e; exact h, fun h => ⟨x, h, rfl⟩⟩
theorem at_map {α : Type} {f : α → D} {xs : List α} {i : Int} (h : 0 ≤ i) : L2.atI (xs.map f) i = (xs[i.toNat]?).map f := by
  rw [atI_pos h, List.getElem?_map]
/-! ### slices -/
theorem cut_from {xs : List D} (k : Nat) : cutD xs (some (k : Int)) none = xs.drop k := by
  unfold cutD
  rw [HT.sIx_none, HT.sIx_nat]
  by_cases h : k ≤ xs.length
  · rw [Nat.min_eq_left h, List.take_of_length_le (by simp)]
  · rw [Nat.min_eq_right (by omega), List.drop_eq_nil_of_le (Nat.le_refl _), List.drop_eq_nil_of_le (by omega)]
    simp
theorem cut_to {xs : List D} (k : Nat) : cutD xs none (some (k : Int)) = xs.take k := by
  unfold cutD
  rw [HT.sIx_none, HT.sIx_nat]
  simp only [List.drop_zero, Nat.sub_zero]
  by_cases h : k ≤ xs.length
  · rw [Nat.min_eq_left h]
  · rw [Nat.min_eq_right (by omega), List.take_of_length_le (Nat.le_refl _), List.take_of_length_le (by omega)]
theorem cut_ft {xs : List D} (a b : Nat) : cutD xs (some (a : Int)) (some (b : Int)) = (xs.drop a).take (b - a) := by
  unfold cutD
  rw [HT.sIx_nat, HT.sIx_nat]
  by_cases h : a ≤ xs.length
  · rw [Nat.min_eq_left h]
    by_cases h2 : b ≤ xs.length
    · rw [Nat.min_eq_left h2]
    · rw [Nat.min_eq_right (by omega), List.take_of_length_le (by simp), List.take_of_length_le (by simp; omega)]
  · have e : min a xs.length = xs.length := by omega
    rw [e, List.drop_eq_nil_of_le (Nat.le_refl _), List.drop_eq_nil_of_le (by omega)]
    simp
@[simp] theorem cut_1 {x : D} {xs : List D} : cutD (x :: xs) (some 1) none = xs := by
  have := cut_from (xs := x :: xs) 1
  simpa using this
theorem cut_last {xs : List D} : cutD xs none (some (-1)) = xs.dropLast := by
  unfold cutD
  rw [HT.sIx_none]
  have e : HT.sIx xs.length xs.length (some (-1)) = xs.length - 1 := by
    unfold HT.sIx
    simp only
    rw [if_pos (by decide)]
    omega
  rw [e, List.drop_zero, List.dropLast_eq_take]
  rfl
@[simp] theorem slP_l {xs : List D} {l u : Option Int} {g : GS} : slP (.lst xs) l u g = some (.lst (cutD xs l u), true) := rfl
@[simp] theorem slP_r {xs : List D} {l u : Option Int} {g : GS} : slP (.rol xs) l u g = some (.lst (cutD xs l u), true) := rfl
/-! ### written texts -/
@[simp] theorem strOk_lit (s : String) : PyData.strOk (Str.ofString s) = true := by
  rw [Str.ofString_eq_toList]
  unfold PyData.strOk
  simp only [Array.all_eq_true]
  intro i hi
  simp only [decide_eq_true_eq]
  simp only [List.size_toArray, List.length_map] at hi
  simp only [List.getElem_toArray, List.getElem_map]
  have := (s.toList[i]).valid
  show (s.toList[i]).val.toNat < 0x110000
  rcases this with h | h
  · have : (s.toList[i]).val.toNat < 0xD800 := h
    omega
  · exact h.2
theorem map_inj {α β : Type} {f : α → β} (hf : ∀ a b, f a = f b → a = b) : ∀ {xs ys : List α}, xs.map f = ys.map f → xs = ys
  | [], [], _ => rfl
  | [], _ :: _, h => by simp at h
  | _ :: _, [], h => by simp at h
  | x :: xs, y :: ys, h => by
    simp only [List.map_cons, List.cons.injEq] at h
    rw [hf _ _ h.1, map_inj hf h.2]
theorem lit_inj {s t : String} (h : Str.ofString s = Str.ofString t) : s = t := by
  rw [Str.ofString_eq_toList, Str.ofString_eq_toList] at h
  have h1 := congrArg Str.cps h
  simp only at h1
  have h2 : s.toList.map Char.toNat = t.toList.map Char.toNat := by
    have := congrArg Array.toList h1
    simpa using this
  have h3 := map_inj (fun a b (e : a.toNat = b.toNat) => Char.ext (UInt32.toNat_inj.mp e)) h2
  exact String.toList_injective h3
@[simp] theorem lit_eq {s t : String} : (Str.ofString s = Str.ofString t) = (s = t) := propext ⟨lit_inj, fun h => by rw [h]⟩
@[simp] theorem eq_ll {s t : String} : eqP (.str (Str.ofString s)) (.str (Str.ofString t)) = some (decide (s = t)) := by
  rw [eq_ss (strOk_lit s) (strOk_lit t)]
  simp
/-! ### loops -/
theorem forP_inv {t : Tg} {b : PEn → GS → PSR} (I : Nat → PEn → GS → Prop) : ∀ (xs : List D) (i : Nat) (p : PEn) (g : GS), I i p g →
    (∀ k v p g, xs[k]? = some v → I (i + k) p g → ∃ p' p2 g2, tsetP t v p = some p' ∧ (b p' g = .nx p2 g2 ∨ b p' g = .ct p2 g2) ∧ I (i + k + 1) p2 g2) →
    ∃ p2 g2, forP t b xs p g = .nx p2 g2 ∧ I (i + xs.length) p2 g2
  | [], i, p, g, q, _ => ⟨p, g, rfl, q⟩
  | x :: xs, i, p, g, q, st => by
    obtain ⟨p', p2, g2, h3, h4, h5⟩ := st 0 x p g rfl q
    have ih := forP_inv I xs (i + 1) p2 g2 h5 fun k v p g hk hi => by
      have := st (k + 1) v p g (by simpa using hk) (by rw [show i + (k + 1) = i + 1 + k by omega]; exact hi)
      rw [show i + (k + 1) + 1 = i + 1 + k + 1 by omega] at this
      exact this
    obtain ⟨p3, g3, h7, h8⟩ := ih
    refine ⟨p3, g3, ?_, by rw [List.length_cons, show i + (xs.length + 1) = i + 1 + xs.length by omega]; exact h8⟩
    unfold forP
    rw [h3]
    rcases h4 with h4 | h4 <;> simp only [h4] <;> exact h7
/-- by a fold over the items -/
theorem forP_fold {σ : Type} {t : Tg} {b : PEn → GS → PSR} (R : σ → PEn → GS → Prop) (f : σ → D → σ) : ∀ (xs : List D) (s : σ) (p : PEn) (g : GS), R s p g →
    (∀ s x p g, x ∈ xs → R s p g → ∃ p' p2 g2, tsetP t x p = some p' ∧ (b p' g = .nx p2 g2 ∨ b p' g = .ct p2 g2) ∧ R (f s x) p2 g2) →
    ∃ p2 g2, forP t b xs p g = .nx p2 g2 ∧ R (xs.foldl f s) p2 g2
  | [], s, p, g, q, _ => ⟨p, g, rfl, q⟩
  | x :: xs, s, p, g, q, st => by
    obtain ⟨p', p2, g2, h3, h4, h5⟩ := st s x p g List.mem_cons_self q
    obtain ⟨p3, g3, h7, h8⟩ := forP_fold R f xs (f s x) p2 g2 h5 fun s y p g m q => st s y p g (List.mem_cons_of_mem _ m) q
    refine ⟨p3, g3, ?_, h8⟩
    unfold forP
    rw [h3]
    rcases h4 with h4 | h4 <;> simp only [h4] <;> exact h7
theorem forP_cons {t : Tg} {b : PEn → GS → PSR} {v : D} {vs : List D} {p p' : PEn} {g : GS} (h1 : tsetP t v p = some p') : forP t b (v :: vs) p g = match b p' g with
    | .nx p2 g2 => forP t b vs p2 g2
    | .ct p2 g2 => forP t b vs p2 g2
    | .bk p2 g2 => .nx p2 g2
    | r => r := by
  (simp only [forP, h1]) <;> (cases b p' g <;> rfl)
@[simp] theorem forP_nil {t : Tg} {b : PEn → GS → PSR} {p : PEn} {g : GS} : forP t b [] p g = .nx p g := rfl
/-- a comprehension whose parts leave the objects as they are -/
theorem compP_pure {t : Tg} {p : PEn} {tst : PEn → GS → PR Bool} {elt : PEn → GS → PR (D × Bool)} {g : GS} (f : D → Option D) : ∀ (xs acc : List D), acc.length + xs.length ≤ 16777216 →
    (∀ x ∈ xs, ∃ p', tsetP t x p = some p' ∧ ((∃ y fr, f x = some y ∧ tst p' g = .ok true g ∧ elt p' g = .ok (y, fr) g) ∨ (f x = none ∧ tst p' g = .ok false g))) →
    compP t p tst elt xs acc g = .ok (.lst (acc ++ xs.filterMap f), true) g
  | [], acc, _, _ => by simp [compP]
  | x :: xs, acc, hl, h => by
    obtain ⟨p', h1, h2⟩ := h x List.mem_cons_self
    rw [List.length_cons] at hl
    unfold compP
    rw [h1]
    rcases h2 with ⟨y, fr, e1, e2, e3⟩ | ⟨e1, e2⟩
    · simp only [e2, e3]
      rw [if_pos (show acc.length < sizeLine by show acc.length < 16777216; omega), compP_pure f xs (acc ++ [y]) (by simp; omega) fun z m => h z (List.mem_cons_of_mem _ m), List.filterMap_cons, e1]
      simp
    · simp only [e2]
      rw [compP_pure f xs acc (by omega) fun z m => h z (List.mem_cons_of_mem _ m), List.filterMap_cons, e1]
theorem compP_map {t : Tg} {p : PEn} {elt : PEn → GS → PR (D × Bool)} {g : GS} (f : D → D) (xs : List D) (hl : xs.length ≤ 16777216)
    (h : ∀ x ∈ xs, ∃ p' fr, tsetP t x p = some p' ∧ elt p' g = .ok (f x, fr) g) :
    compP t p (fun _ g => .ok true g) elt xs [] g = .ok (.lst (xs.map f), true) g := by
  rw [compP_pure (fun x => some (f x)) xs [] (by simpa using hl) fun x m => by
    obtain ⟨p', fr, a, b⟩ := h x m
    exact ⟨p', a, .inl ⟨_, fr, rfl, rfl, b⟩⟩]
  simp
theorem compP_typ {α : Type} {t : Tg} {p : PEn} {tst : PEn → GS → PR Bool} {elt : PEn → GS → PR (D × Bool)} {g : GS} (enc : α → D) (c : α → Bool) (f : α → D) : ∀ (xs : List α) (acc : List D), acc.length + xs.length ≤ 16777216 →
    (∀ x ∈ xs, ∃ p' fr, tsetP t (enc x) p = some p' ∧ tst p' g = .ok (c x) g ∧ (c x = true → elt p' g = .ok (f x, fr) g)) →
    compP t p tst elt (xs.map enc) acc g = .ok (.lst (acc ++ (xs.filter c).map f), true) g
  | [], acc, _, _ => by simp [compP]
  | x :: xs, acc, hl, h => by
    obtain ⟨p', fr, h1, h2, h3⟩ := h x List.mem_cons_self
    rw [List.length_cons] at hl
    rw [List.map_cons]
    unfold compP
    rw [h1]
    cases hc : c x with
    | true =>
      rw [hc] at h2
      simp only [h2, h3 hc]
      rw [if_pos (show acc.length < sizeLine by show acc.length < 16777216; omega), compP_typ enc c f xs (acc ++ [f x]) (by simp; omega) fun z m => h z (List.mem_cons_of_mem _ m), List.filter_cons, if_pos hc]
      simp
    | false =>
      rw [hc] at h2
      simp only [h2]
      rw [compP_typ enc c f xs acc (by omega) fun z m => h z (List.mem_cons_of_mem _ m), List.filter_cons, if_neg (by rw [hc]; decide)]
theorem compP_mapT {α : Type} {t : Tg} {p : PEn} {elt : PEn → GS → PR (D × Bool)} {g : GS} (enc : α → D) (f : α → D) (xs : List α) (hl : xs.length ≤ 16777216)
    (h : ∀ x ∈ xs, ∃ p' fr, tsetP t (enc x) p = some p' ∧ elt p' g = .ok (f x, fr) g) :
    compP t p (fun _ g => .ok true g) elt (xs.map enc) [] g = .ok (.lst (xs.map f), true) g := by
  rw [compP_typ enc (fun _ => true) f xs [] (by simpa using hl) fun x m => by
    obtain ⟨p', fr, a, b⟩ := h x m
    exact ⟨p', fr, a, rfl, fun _ => b⟩]
  rw [List.filter_eq_self.mpr (fun _ _ => rfl)]
  simp
/-- a comprehension by an invariant -/
theorem compP_inv {t : Tg} {p : PEn} {elt : PEn → GS → PR (D × Bool)} (I : Nat → List D → GS → Prop) : ∀ (xs acc : List D) (i : Nat) (g : GS), acc.length + xs.length ≤ 16777216 → I i acc g →
    (∀ k x acc g, xs[k]? = some x → I (i + k) acc g → ∃ p' y fr g2, tsetP t x p = some p' ∧ elt p' g = .ok (y, fr) g2 ∧ I (i + k + 1) (acc ++ [y]) g2) →
    ∃ ds g2, compP t p (fun _ g => .ok true g) elt xs acc g = .ok (.lst ds, true) g2 ∧ I (i + xs.length) ds g2
  | [], acc, i, g, _, q, _ => ⟨acc, g, rfl, q⟩
  | x :: xs, acc, i, g, hl, q, h => by
    rw [List.length_cons] at hl
    obtain ⟨p', y, fr, g2, h1, h2, h3⟩ := h 0 x acc g rfl q
    obtain ⟨ds, g3, h4, h5⟩ := compP_inv I xs (acc ++ [y]) (i + 1) g2 (by simp; omega) h3 fun k x acc g hk hi => by
      have := h (k + 1) x acc g (by simpa using hk) (by rw [show i + (k + 1) = i + 1 + k by omega]; exact hi)
      rw [show i + (k + 1) + 1 = i + 1 + k + 1 by omega] at this
      exact this
    refine ⟨ds, g3, ?_, by rw [List.length_cons, show i + (xs.length + 1) = i + 1 + xs.length by omega]; exact h5⟩
    unfold compP
    rw [h1]
    simp only [h2]
    rw [if_pos (show acc.length < sizeLine by show acc.length < 16777216; omega), h4]
/-! while, turn by turn -/
section
variable {C : PCl} {c : E} {b : PEn → GS → PSR} {p p2 : PEn} {g g1 g2 : GS} {i : Nat}
theorem whl_stop (ht : pT C c p g = .ok false g1) : loop .bad (whileTurnP C c b) i (p, g) = .nx p g1 := by
  rw [loop_eq]
  simp only [whileTurnP, ht]
theorem whl_step (ht : pT C c p g = .ok true g1) (hb : b p g1 = .nx p2 g2) : loop .bad (whileTurnP C c b) i (p, g) = loop .bad (whileTurnP C c b) (i + 1) (p2, g2) := by
  rw [loop_eq]
  simp only [whileTurnP, ht, hb, PSR.turn]
end
end MQ
end
section
set_option Elab.async false
set_option linter.all false
set_option maxRecDepth 100000
set_option maxHeartbeats 4000000
/-! MQ, part h: the laws' own draw. -/
namespace MQ
open PySem MP
/-- the objects: the laws' own state -/
def stO (ns : List Int) (t : Int × Nat × Int) : GO := .lst [.int t.1, .int t.2.1, .lst (ns.map .int), .int t.2.2]
/-- the state stands at place k among the objects -/
def sG (G : GS) (k : Nat) (ns : List Int) (t : Int × Nat × Int) : GS := G.set k (stO ns t)
def dG (ns : List Int) (t : Int × Nat × Int) : GS := [.lst [.int t.1, .int t.2.1, .lst (ns.map .int), .int t.2.2]]
section
variable {ns : List Int} {t : Int × Nat × Int}
theorem dG_0 : (dG ns t)[0]? = some (.lst [.int t.1, .int t.2.1, .lst (ns.map .int), .int t.2.2]) := rfl
end
local macro_rules | `(tactic| walk_at "mp") => `(tactic| simp (config := {decide := true}) (disch := first | omega | assumption | (simp; done) | (simp; omega) | decide +kernel) [pT_eq, pS_asg, mul_r, fdiv_ii, mod_ii, atI_pos, ixN_pos, setG])
theorem ten_ge (C : PCl) (p : PEn) (g : GS) (i : Nat) (c : Int) (he : getP p i = some (.int c)) : pT C (.cmp .ge (.var i) (.bin .pow (.lit (.int 10)) (.lit (.int 18)))) p g = .ok (decide (tenE18 ≤ c)) g := by
  have e1 : pE C (.bin .pow (.lit (.int 10)) (.lit (.int 18))) p g = .ok (.int tenE18, false) g := by
    rw [pE_bin, pE_lit]
    simp only [mvD_int, Option.map_some, oQ_some, PR.bind_ok]
    rw [pE_lit]
    simp only [mvD_int, Option.map_some, oQ_some, PR.bind_ok]
    rw [pow_10_18]
    rfl
  rw [pT_eq, pE_cmp, pE_var, he]
  simp only [Option.map_some, oQ_some, PR.bind_ok]
  rw [e1]
  generalize tenE18 = k
  rfl
section
variable {G : GS} {K : Nat} (hK : K < G.length)
include hK
theorem sG_at {o : GO} : (G.set K o)[K]? = some o := List.getElem?_set_self hK
theorem dr1_ok (C : PCl) {ns : List Int} {a c m cell : Int} {q r : Nat} {e2 e5 : Option (D × Bool)} :
    ∃ f5, pSs C [] dr1 [some (.tok K, false), some (.int m, false), e2, some (.int r, false), some (.int cell, false), e5] (G.set K (.lst [.int a, .int q, .lst (ns.map .int), .int c])) =
    .nx [some (.tok K, false), some (.int m, false), e2, some (.int r, false), some (.int cell, false), f5] (G.set K (.lst [.int (dMix ((c + cell % 2147483629 + r + 1) * 48271 % 2147483647) * 2147483647 + (dMix ((c + cell % 2147483629 + r + 1) * 48271 % 2147483647) * 30011 + (c + cell % 2147483629 + r + 1) * 48271 % 2147483647) % 2147483587), .int q, .lst (ns.map .int), .int ((c + cell % 2147483629 + r + 1) * 48271 % 2147483647)])) := by
  refine ⟨some (.int (dMix ((c + cell % 2147483629 + r + 1) * 48271 % 2147483647)), false), ?_⟩
  have at1 := fun o => sG_at hK (o := o)
  unfold dr1 dMix
  simp (config := {decide := true}) (disch := first | omega | assumption | (simp; done) | (simp; omega) | decide +kernel) [pT_eq, pS_asg, mul_r, fdiv_ii, mod_ii, atI_pos, ixN_pos, setG, at1, List.set_set, -List.getElem?_set_self']
theorem dr0_ok (C : PCl) {ns : List Int} {a c m cell : Int} {q r : Nat} {e2 e5 : Option (D × Bool)} :
    pSs C [] dr0 [some (.tok K, false), some (.int m, false), e2, some (.int r, false), some (.int cell, false), e5] (G.set K (.lst [.int a, .int q, .lst (ns.map .int), .int c])) =
    .nx [some (.tok K, false), some (.int m, false), e2, some (.int r, false), some (.int cell, false), e5] (G.set K (.lst [.int cell, .int q, .lst (ns.map .int), .int c])) := by
  have at1 := fun o => sG_at hK (o := o)
  unfold dr0
  simp (config := {decide := true}) (disch := first | omega | assumption | (simp; done) | (simp; omega) | decide +kernel) [pT_eq, pS_asg, mul_r, fdiv_ii, mod_ii, atI_pos, ixN_pos, setG, at1, List.set_set, -List.getElem?_set_self']
theorem drCell_ok (C : PCl) {ns : List Int} {a c m : Int} {q r : Nat} {e2 e5 : Option (D × Bool)} :
    pS C [] (.iff (.cmp .lt (.var 3) (.bi .len [.ix (.var 0) (.lit (.int 2))])) [.asg (.nm 4) (.ix (.ix (.var 0) (.lit (.int 2))) (.var 3))] []) [some (.tok K, false), some (.int m, false), e2, some (.int r, false), some (.int 0, false), e5] (G.set K (.lst [.int a, .int q, .lst (ns.map .int), .int c])) =
    .nx [some (.tok K, false), some (.int m, false), e2, some (.int r, false), some (.int (dCell ns r), false), e5] (G.set K (.lst [.int a, .int q, .lst (ns.map .int), .int c])) := by
  have at1 := fun o => sG_at hK (o := o)
  unfold dCell
  by_cases hp : r < ns.length
  · have e2 : ns[r]? = some ns[r] := List.getElem?_eq_getElem hp
    rw [e2]
    simp (config := {decide := true}) [pT_eq, pS_asg, atI_lit, hp, e2, at1, -List.getElem?_set_self']
  · have e2 : ns[r]? = none := List.getElem?_eq_none (by omega)
    rw [e2]
    simp (config := {decide := true}) [pT_eq, hp, at1, -List.getElem?_set_self']
theorem drC_ok (C : PCl) {ns : List Int} {a c m : Int} {r : Nat} {e2 e5 : Option (D × Bool)} :
    ∃ f4 f5, pSs C [] drC [some (.tok K, false), some (.int m, false), e2, some (.int r, false), some (.int 0, false), e5] (G.set K (.lst [.int a, .int ((r : Int) + 1), .lst (ns.map .int), .int c])) =
    .nx [some (.tok K, false), some (.int m, false), e2, some (.int r, false), f4, f5] (sG G K ns (dR ns (a, r, c))) := by
  have hp : ((r : Int) + 1) = ((r + 1 : Nat) : Int) := by omega
  unfold drC
  rw [hp, pSs_cons, drCell_ok hK, PSR.seq_nx, pSs_cons]
  have ht := ten_ge C [some (.tok K, false), some (.int m, false), e2, some (.int r, false), some (.int (dCell ns r), false), e5] (G.set K (.lst [.int a, .int ((r + 1 : Nat) : Int), .lst (ns.map .int), .int c])) 4 (dCell ns r) (by simp)
  by_cases hc : tenE18 ≤ dCell ns r
  · rw [decide_eq_true hc] at ht
    rw [pS_iff, ht, PR.sr_ok, if_pos rfl, dr0_ok hK, PSR.seq_nx, pSs_nil]
    refine ⟨some (.int (dCell ns r), false), e5, ?_⟩
    unfold dR
    rw [if_pos hc]
    rfl
  · rw [decide_eq_false hc] at ht
    obtain ⟨f5, q⟩ := dr1_ok hK C (ns := ns) (a := a) (c := c) (m := m) (cell := dCell ns r) (r := r) (q := r + 1) (e2 := e2) (e5 := e5)
    rw [pS_iff, ht, PR.sr_ok, if_neg (by decide), q, PSR.seq_nx, pSs_nil]
    refine ⟨some (.int (dCell ns r), false), f5, ?_⟩
    unfold dR
    rw [if_neg hc]
    rfl
theorem drE_ok (C : PCl) {ns : List Int} {m : Int} {t : Int × Nat × Int} {e2 e3 e4 e5 : Option (D × Bool)} (hm : 0 < m ∧ m < 1073741824) :
    pSs C [] drE [some (.tok K, false), some (.int m, false), e2, e3, e4, e5] (sG G K ns t) = .rt (.int (t.1 % m)) false (sG G K ns (t.1 / m, t.2.1, t.2.2)) := by
  have at1 := fun o => sG_at hK (o := o)
  unfold drE sG stO
  simp (config := {decide := true}) (disch := first | omega | assumption | (simp; done) | (simp; omega) | decide +kernel) [pT_eq, pS_asg, mul_r, fdiv_ii, mod_ii, atI_pos, ixN_pos, setG, at1, List.set_set, -List.getElem?_set_self']
theorem drP_ok (C : PCl) {ns : List Int} {m : Int} {a c : Int} {r : Nat} {e2 e5 : Option (D × Bool)} {e3 e4 : Option (D × Bool)} {rs : List S} :
    pSs C [] (.asg (.nm 3) (.ix (.var 0) (.lit (.int 1))) :: .setIx (.var 0) (.lit (.int 1)) (.bin .add (.var 3) (.lit (.int 1))) :: .asg (.nm 4) (.lit (.int 0)) :: rs) [some (.tok K, false), some (.int m, false), e2, e3, e4, e5] (sG G K ns (a, r, c)) =
    pSs C [] rs [some (.tok K, false), some (.int m, false), e2, some (.int r, false), some (.int 0, false), e5] (G.set K (.lst [.int a, .int ((r : Int) + 1), .lst (ns.map .int), .int c])) := by
  have at1 := fun o => sG_at hK (o := o)
  unfold sG stO
  simp (config := {decide := true}) (disch := first | omega | assumption | (simp; done) | (simp; omega) | decide +kernel) [pT_eq, pS_asg, mul_r, fdiv_ii, mod_ii, atI_pos, ixN_pos, setG, at1, List.set_set, -List.getElem?_set_self']
/-- the draw -/
theorem draw_ok (C : PCl) (ns : List Int) (t : Int × Nat × Int) (m : Int) (hm : 0 < m ∧ m < 1073741824) :
    pSs C [] drB [some (.tok K, false), some (.int m, false), none, none, none, none] (sG G K ns t) = .rt (.int (dV ns m t)) false (sG G K ns (dT ns m t)) := by
  obtain ⟨a, r, c⟩ := t
  have at1 := fun o => sG_at hK (o := o)
  have ht : pT C (.cmp .lt (.ix (.var 0) (.lit (.int 0))) (.var 1)) [some (.tok K, false), some (.int m, false), none, none, none, none] (sG G K ns (a, r, c)) = .ok (decide (a < m)) (sG G K ns (a, r, c)) := by
    unfold sG stO
    simp (config := {decide := true}) [pT_eq, at1, -List.getElem?_set_self']
  unfold drB dV dT dA
  rw [pSs_cons, pS_iff]
  by_cases hc : a < m
  · rw [decide_eq_true hc] at ht
    obtain ⟨f4, f5, q⟩ := drC_ok hK C (ns := ns) (a := a) (c := c) (m := m) (r := r) (e2 := none) (e5 := none)
    rw [ht, PR.sr_ok, if_pos rfl, drP_ok hK, q, PSR.seq_nx, drE_ok hK C hm, if_pos hc]
  · rw [decide_eq_false hc] at ht
    rw [ht, PR.sr_ok, if_neg (by decide), pSs_nil, PSR.seq_nx, drE_ok hK C hm, if_neg hc]
/-- the def that draws, whatever its number, wherever the state stands -/
theorem drawG {T : List Fn} {tk : Nat → List Nat} {f : Nat} {fn : Fn} (d : Nat) (ns : List Int) (t : Int × Nat × Int) (m : Int) (hf : T[f]? = some fn) (hb : fn.body = drB) (hp : fn.ps.length = 2) (hl : fn.loc.length = 4) (hk : tk f = []) (hq : fn.mkr = none) (hm : 0 < m ∧ m < 1073741824) :
    callP T tk (d + 1) f [.tok K, .int m] (sG G K ns t) = .ok (.int (dV ns m t), false) (sG G K ns (dT ns m t)) := by
  have e : (if Ds.im [D.tok K, D.int m] = true then tk f else (tk f).map (· + 1000)) = [] := by rw [hk]; split <;> rfl
  rw [call_eq hf (by rw [hp]; rfl) hq, hb, e]
  have es : startP fn [.tok K, .int m] = [some (.tok K, false), some (.int m, false), none, none, none, none] := by
    unfold startP
    rw [hp, hl]
    rfl
  rw [es, draw_ok hK _ ns t m hm]
  rfl
end
theorem drawC {T : List Fn} {tk : Nat → List Nat} {f : Nat} {fn : Fn} (d : Nat) (ns : List Int) (t : Int × Nat × Int) (m : Int) (hf : T[f]? = some fn) (hb : fn.body = drB) (hp : fn.ps.length = 2) (hl : fn.loc.length = 4) (hk : tk f = []) (hm : 0 < m ∧ m < 1073741824) (hq : fn.mkr = none := by rfl) :
    callP T tk (d + 1) f [.tok 0, .int m] (dG ns t) = .ok (.int (dV ns m t), false) (dG ns (dT ns m t)) :=
  drawG (G := [stO ns t]) (K := 0) (by simp) d ns t m hf hb hp hl hk hq hm
/-- from existence to functions -/
theorem skolem {T : List Fn} {tk : Nat → List Nat} {ns : List Int} {α : Type} {P : α → Prop} (enc : α → D) {d f : Nat} {vs : List D} (h : ∀ t, ∃ a t', callP T tk d f vs (dG ns t) = .ok (enc a, false) (dG ns t') ∧ P a) :
    ∃ (fa : Int × Nat × Int → α) (ft : Int × Nat × Int → Int × Nat × Int), ∀ t, callP T tk d f vs (dG ns t) = .ok (enc (fa t), false) (dG ns (ft t)) ∧ P (fa t) :=
  ⟨fun t => Classical.choose (h t), fun t => Classical.choose (Classical.choose_spec (h t)), fun t => Classical.choose_spec (Classical.choose_spec (h t))⟩
section
variable {T : List Fn} {tk : Nat → List Nat} {f : Nat} {fn : Fn}
theorem call_of {d : Nat} {vs : List D} {g : GS} {b : List S} (hf : T[f]? = some fn) (hb : fn.body = b) (hp : vs.length = fn.ps.length) (hk : tk f = []) (hq : fn.mkr = none := by rfl) :
    callP T tk (d + 1) f vs g = (pSs (callP T tk d) [] b (vs.map (fun x => some (x, false)) ++ List.replicate (fn.ps.length + fn.loc.length - vs.length) none) g).res := by
  rw [call_eq hf hp hq, hk, hb]
  simp only [List.map_nil, ite_self]
  rfl
end
section
variable {T : List Fn} {tk : Nat → List Nat} {ns : List Int}
/-- a def of the table -/
structure Df (T : List Fn) (tk : Nat → List Nat) (f : Nat) (b : List S) (np nl : Nat) : Prop where
  ex : ∃ fn : Fn, T[f]? = some fn ∧ fn.body = b ∧ fn.ps.length = np ∧ fn.loc.length = nl ∧ fn.mkr = none
  tk : tk f = []
theorem Df.call {f : Nat} {b : List S} {np nl : Nat} (D' : Df T tk f b np nl) {d : Nat} {vs : List D} {g : GS} (hl : vs.length = np) :
    callP T tk (d + 1) f vs g = (pSs (callP T tk d) [] b (vs.map (fun x => some (x, false)) ++ List.replicate (np + nl - np) none) g).res := by
  obtain ⟨fn, h1, h2, h3, h4, h5⟩ := D'.ex
  rw [call_of h1 h2 (by rw [h3, hl]) D'.tk h5, h3, h4, hl]
theorem Df.draw {f : Nat} (D' : Df T tk f drB 2 4) (d : Nat) (t : Int × Nat × Int) (m : Int) (hm : 0 < m ∧ m < 1073741824) : callP T tk (d + 1) f [.tok 0, .int m] (dG ns t) = .ok (.int (dV ns m t), false) (dG ns (dT ns m t)) := by
  obtain ⟨fn, h1, h2, h3, h4, h5⟩ := D'.ex
  exact drawC d ns t m h1 h2 h3 h4 D'.tk hm h5
theorem Df.drawG {f K : Nat} {G : GS} (D' : Df T tk f drB 2 4) (hK : K < G.length) (d : Nat) (t : Int × Nat × Int) (m : Int) (hm : 0 < m ∧ m < 1073741824) : callP T tk (d + 1) f [.tok K, .int m] (sG G K ns t) = .ok (.int (dV ns m t), false) (sG G K ns (dT ns m t)) := by
  obtain ⟨fn, h1, h2, h3, h4, h5⟩ := D'.ex
  exact MQ.drawG hK d ns t m h1 h2 h3 h4 D'.tk h5 hm
end
end MQ
end
section
set_option Elab.async false
set_option linter.all false
set_option maxRecDepth 100000
set_option maxHeartbeats 4000000
open PySem PySem.Spec PyProof.Rows MP
namespace MQ.Law
set_option maxRecDepth 100000
def x0_0 : E := .cmp .le (.var 2) (.var 1)
def x0_1 : E := .var 2
@[simp] theorem l_x0_1 : MQ.leak x0_1 = [2] := rfl
def b0 : List S := [.ret (.bi .maxL [.compIf [2] (.nm 2) .val [.var 0] x0_0 x0_1])]
/-- end_below(known, word); slots: 0 known, 1 word, 2 end -/
def f0 : Fn := { name := "end_below", ps := ["known", "word"], loc := ["end"], body := b0 }
def x1_0 : E := .cmp .ge (.var 2) (.var 1)
def x1_1 : E := .var 2
@[simp] theorem l_x1_1 : MQ.leak x1_1 = [2] := rfl
def b1 : List S := [.ret (.bi .minL [.compIf [2] (.nm 2) .val [.var 0] x1_0 x1_1])]
/-- end_above(known, word); slots: 0 known, 1 word, 2 end -/
def f1 : Fn := { name := "end_above", ps := ["known", "word"], loc := ["end"], body := b1 }
def b2 : List S := [.asg (.nm 2) (.bi .max2 [.ix (.var 0) (.lit (.int 0)), .ix (.var 1) (.lit (.int 0))]),
    .asg (.nm 3) (.bi .min2 [.ix (.var 0) (.lit (.int 1)), .ix (.var 1) (.lit (.int 1))]),
    .iff (.cmp .gt (.var 2) (.var 3)) [.ret (.lit .non)] [],
    .ret (.tup [.var 2, .var 3])]
/-- cut(span, other); slots: 0 span, 1 other, 2 low, 3 high -/
def f2 : Fn := { name := "cut", ps := ["span", "other"], loc := ["low", "high"], body := b2 }
def b3 : List S := [.ret (.bin .add (.bin .add (.sl (.var 0) none (some (.var 1))) (.tup [.tup [.var 2, .ix (.ix (.var 0) (.var 1)) (.lit (.int 1)), .ix (.ix (.var 0) (.var 1)) (.lit (.int 2))]])) (.sl (.var 0) (some (.bin .add (.var 1) (.lit (.int 1)))) none))]
/-- with_span(held, number, span); slots: 0 held, 1 number, 2 span -/
def f3 : Fn := { name := "with_span", ps := ["held", "number", "span"], loc := [], body := b3 }
def b4 : List S := [.asg (.nm 5) (.ix (.var 1) (.lit (.int 0))),
    .iff (.cmp .eq (.var 5) (.lit (.str "same"))) [.ret (.ite (.var 4) (.tup [.lit (.tup [(.int 0), (.int 65535)]), .lit (.tup [(.int 0), (.int 65535)])]) (.tup [.var 3, .var 2]))] [],
    .iff (.and (.cmp .eq (.var 5) (.lit (.str "below"))) (.or (.cmp .ge (.ix (.var 2) (.lit (.int 1))) (.lit (.int 32768))) (.cmp .ge (.ix (.var 3) (.lit (.int 1))) (.lit (.int 32768))))) [.ret (.tup [.lit (.tup [(.int 0), (.int 65535)]), .lit (.tup [(.int 0), (.int 65535)])])] [],
    .iff (.var 4) [.ret (.tup [.tup [.ix (.var 3) (.lit (.int 0)), .lit (.int 65535)], .tup [.lit (.int 0), .ix (.var 2) (.lit (.int 1))]])] [],
    .iff (.cmp .eq (.ix (.var 3) (.lit (.int 1))) (.lit (.int 0))) [.ret (.lit .non)] [],
    .ret (.tup [.tup [.lit (.int 0), .call 1 [.var 0, .bin .sub (.ix (.var 3) (.lit (.int 1))) (.lit (.int 1))]], .tup [.call 0 [.var 0, .bin .add (.ix (.var 2) (.lit (.int 0))) (.lit (.int 1))], .lit (.int 65535)]])]
/-- cuts_of(known, link, left, right, is_zero); slots: 0 known, 1 link, 2 left, 3 right, 4 is_zero, 5 op -/
def f4 : Fn := { name := "cuts_of", ps := ["known", "link", "left", "right", "is_zero"], loc := ["op"], body := b4 }
def b5 : List S := [.asg (.tp [5, 12]) (.var 1),
    .asg (.nm 4) (.call 2 [.ix (.ix (.var 5) (.var 2)) (.lit (.int 0)), .ite (.var 3) (.tup [.lit (.int 0), .lit (.int 0)]) (.tup [.lit (.int 1), .lit (.int 65535)])]),
    .iff (.cmp .is (.var 4) (.lit .non)) [.ret (.lit .non)] [],
    .asg (.nm 5) (.call 3 [.var 5, .var 2, .var 4]),
    .asg (.nm 6) (.ix (.ix (.var 5) (.var 2)) (.lit (.int 2))),
    .iff (.or (.cmp .is (.var 6) (.lit .non)) (.cmp .eq (.ix (.var 6) (.lit (.int 0))) (.lit (.str "equal")))) [.ret (.tup [.var 5, .var 12])] [],
    .asg (.nm 7) (.ix (.ix (.var 5) (.ix (.var 6) (.lit (.int 1)))) (.lit (.int 0))),
    .asg (.nm 8) (.ix (.ix (.var 5) (.ix (.var 6) (.lit (.int 2)))) (.lit (.int 0))),
    .asg (.nm 9) (.call 4 [.var 0, .var 6, .var 7, .var 8, .var 3]),
    .iff (.cmp .is (.var 9) (.lit .non)) [.ret (.lit .non)] [],
    .asg (.nm 10) (.call 2 [.var 7, .ix (.var 9) (.lit (.int 0))]),
    .asg (.nm 11) (.call 2 [.var 8, .ix (.var 9) (.lit (.int 1))]),
    .iff (.or (.cmp .is (.var 10) (.lit .non)) (.cmp .is (.var 11) (.lit .non))) [.ret (.lit .non)] [],
    .ret (.tup [.call 3 [.call 3 [.var 5, .ix (.var 6) (.lit (.int 1)), .var 10], .ix (.var 6) (.lit (.int 2)), .var 11], .var 12])]
/-- branch_facts(known, facts, number, is_zero); slots: 0 known, 1 facts, 2 number, 3 is_zero, 4 span, 5 held, 6 link, 7 left, 8 right, 9 cuts, 10 new_left, 11 new_right, 12 slots -/
def f5 : Fn := { name := "branch_facts", ps := ["known", "facts", "number", "is_zero"], loc := ["span", "held", "link", "left", "right", "cuts", "new_left", "new_right", "slots"], body := b5 }
def b6 : List S := [.iff (.cmp .lt (.ix (.var 0) (.lit (.int 0))) (.var 1)) [.asg (.nm 3) (.ix (.var 0) (.lit (.int 1))), .setIx (.var 0) (.lit (.int 1)) (.bin .add (.var 3) (.lit (.int 1))), .asg (.nm 4) (.lit (.int 0)), .iff (.cmp .lt (.var 3) (.bi .len [.ix (.var 0) (.lit (.int 2))])) [.asg (.nm 4) (.ix (.ix (.var 0) (.lit (.int 2))) (.var 3))] [], .iff (.cmp .ge (.var 4) (.bin .pow (.lit (.int 10)) (.lit (.int 18)))) [.setIx (.var 0) (.lit (.int 0)) (.var 4)] [.setIx (.var 0) (.lit (.int 3)) (.bin .mod (.bi .int [.bin .mul (.bin .add (.bin .add (.bin .add (.ix (.var 0) (.lit (.int 3))) (.bin .mod (.bi .int [.var 4]) (.lit (.int 2147483629)))) (.var 3)) (.lit (.int 1))) (.lit (.int 48271))]) (.lit (.int 2147483647))), .asg (.nm 5) (.bin .mod (.bi .int [.bin .add (.bin .mul (.ix (.var 0) (.lit (.int 3))) (.lit (.int 69621))) (.lit (.int 11))]) (.lit (.int 2147483629))), .setIx (.var 0) (.lit (.int 0)) (.bin .add (.bin .mul (.var 5) (.lit (.int 2147483647))) (.bin .mod (.bi .int [.bin .add (.bin .mul (.var 5) (.lit (.int 30011))) (.ix (.var 0) (.lit (.int 3)))]) (.lit (.int 2147483587))))]] [],
    .asg (.nm 2) (.bin .mod (.bi .int [.ix (.var 0) (.lit (.int 0))]) (.var 1)),
    .setIx (.var 0) (.lit (.int 0)) (.bin .fdiv (.ix (.var 0) (.lit (.int 0))) (.var 1)),
    .ret (.var 2)]
/-- _law_draw(_law_state_here, _law_limit); slots: 0 _law_state_here, 1 _law_limit, 2 _law_value, 3 _law_position, 4 _law_cell, 5 _law_mixed -/
def f6 : Fn := { name := "_law_draw", ps := ["_law_state_here", "_law_limit"], loc := ["_law_value", "_law_position", "_law_cell", "_law_mixed"], body := b6 }
def b7 : List S := [.asg (.nm 1) (.call 6 [.var 0, .lit (.int 4)]),
    .iff (.cmp .eq (.var 1) (.lit (.int 0))) [.ret (.call 6 [.var 0, .lit (.int 65536)])] [],
    .iff (.cmp .eq (.var 1) (.lit (.int 1))) [.ret (.ix (.lst [.lit (.int 0), .lit (.int 1), .lit (.int 255), .lit (.int 256), .lit (.int 32768), .lit (.int 64511), .lit (.int 64512), .lit (.int 65535)]) (.call 6 [.var 0, .lit (.int 8)]))] [],
    .ret (.call 6 [.var 0, .lit (.int 6)])]
/-- _law_word(_law_state_here); slots: 0 _law_state_here, 1 _law_kind -/
def f7 : Fn := { name := "_law_word", ps := ["_law_state_here"], loc := ["_law_kind"], body := b7 }
def w8_0 : List S := [.asg (.nm 6) (.bin .mod (.bi .int [.bin .fdiv (.var 1) (.var 4)]) (.lit (.int 2))), .asg (.nm 7) (.bin .mod (.bi .int [.bin .fdiv (.var 2) (.var 4)]) (.lit (.int 2))), .asg (.nm 8) (.bin .mul (.var 6) (.var 7)), .iff (.cmp .eq (.var 0) (.lit (.int 3))) [.asg (.nm 8) (.bi .max2 [.var 6, .var 7])] [], .iff (.cmp .eq (.var 0) (.lit (.int 4))) [.asg (.nm 8) (.bin .mod (.bi .int [.bin .add (.var 6) (.var 7)]) (.lit (.int 2)))] [], .asg (.nm 3) (.bin .add (.var 3) (.bin .mul (.var 8) (.var 4))), .asg (.nm 4) (.bin .mul (.var 4) (.lit (.int 2)))]
@[simp] theorem m_w8_0 : MQ.mutds w8_0 = [] := rfl
def b8 : List S := [.asg (.nm 3) (.lit (.int 0)),
    .asg (.nm 4) (.lit (.int 1)),
    .for_ (.nm 5) .rng1 [.lit (.int 16)] w8_0,
    .ret (.var 3)]
/-- _law_bits(_law_op, _law_left, _law_right); slots: 0 _law_op, 1 _law_left, 2 _law_right, 3 _law_total, 4 _law_weight_here, 5 _law_k, 6 _law_one, 7 _law_two, 8 _law_bit -/
def f8 : Fn := { name := "_law_bits", ps := ["_law_op", "_law_left", "_law_right"], loc := ["_law_total", "_law_weight_here", "_law_k", "_law_one", "_law_two", "_law_bit"], body := b8 }
def b9 : List S := [.iff (.cmp .eq (.var 0) (.lit (.int 0))) [.ret (.bin .mod (.bi .int [.bin .add (.var 1) (.var 2)]) (.lit (.int 65536)))] [],
    .iff (.cmp .eq (.var 0) (.lit (.int 1))) [.ret (.bin .mod (.bi .int [.bin .sub (.var 1) (.var 2)]) (.lit (.int 65536)))] [],
    .iff (.cmp .le (.var 0) (.lit (.int 4))) [.ret (.call 8 [.var 0, .var 1, .var 2])] [],
    .iff (.cmp .eq (.var 0) (.lit (.int 5))) [.ret (.bin .mod (.bi .int [.bin .mul (.var 1) (.var 2)]) (.lit (.int 65536)))] [],
    .iff (.cmp .eq (.var 0) (.lit (.int 6))) [.ret (.bin .mod (.bi .int [.bin .mul (.var 1) (.call 10 [.bin .mod (.bi .int [.var 2]) (.lit (.int 16))])]) (.lit (.int 65536)))] [],
    .iff (.cmp .eq (.var 0) (.lit (.int 7))) [.ret (.bin .fdiv (.var 1) (.call 10 [.bin .mod (.bi .int [.var 2]) (.lit (.int 16))]))] [],
    .iff (.cmp .eq (.var 0) (.lit (.int 8))) [.ret (.bi .int [.cmp .lt (.var 1) (.var 2)])] [],
    .iff (.cmp .eq (.var 0) (.lit (.int 9))) [.ret (.bi .int [.cmp .lt (.bin .mod (.bi .int [.bin .add (.var 1) (.lit (.int 32768))]) (.lit (.int 65536))) (.bin .mod (.bi .int [.bin .add (.var 2) (.lit (.int 32768))]) (.lit (.int 65536)))])] [],
    .ret (.bi .int [.cmp .eq (.var 1) (.var 2)])]
/-- _law_combine(_law_op, _law_left, _law_right); slots: 0 _law_op, 1 _law_left, 2 _law_right -/
def f9 : Fn := { name := "_law_combine", ps := ["_law_op", "_law_left", "_law_right"], loc := [], body := b9 }
def w10_0 : List S := [.asg (.nm 1) (.bin .mul (.var 1) (.lit (.int 2)))]
@[simp] theorem m_w10_0 : MQ.mutds w10_0 = [] := rfl
def b10 : List S := [.asg (.nm 1) (.lit (.int 1)),
    .for_ (.nm 2) .rng1 [.var 0] w10_0,
    .ret (.var 1)]
/-- _law_weight(_law_places); slots: 0 _law_places, 1 _law_weight_here, 2 _law_k -/
def f10 : Fn := { name := "_law_weight", ps := ["_law_places"], loc := ["_law_weight_here", "_law_k"], body := b10 }
def w11_0 : List S := [.asg (.nm 3) (.call 7 [.var 0]), .asg (.nm 1) (.bin .add (.var 1) (.lst [.bi .max2 [.lit (.int 0), .bin .sub (.var 3) (.lit (.int 1))], .var 3, .bi .min2 [.lit (.int 65535), .bin .add (.var 3) (.lit (.int 1))]]))]
@[simp] theorem m_w11_0 : MQ.mutds w11_0 = [] := rfl
def b11 : List S := [.asg (.nm 1) (.lst [.lit (.int 0), .lit (.int 1), .lit (.int 255), .lit (.int 64511), .lit (.int 64512), .lit (.int 65535)]),
    .for_ (.nm 2) .rng1 [.call 6 [.var 0, .lit (.int 4)]] w11_0,
    .ret (.bi .sset [.var 1])]
/-- _law_ends(_law_state_here); slots: 0 _law_state_here, 1 _law_found, 2 _law_k, 3 _law_constant -/
def f11 : Fn := { name := "_law_ends", ps := ["_law_state_here"], loc := ["_law_found", "_law_k", "_law_constant"], body := b11 }
def b12 : List S := [.asg (.nm 2) (.ix (.lst [.var 1, .lit (.int 0), .bi .max2 [.lit (.int 0), .bin .sub (.var 1) (.lit (.int 1))], .bin .fdiv (.var 1) (.lit (.int 2))]) (.call 6 [.var 0, .lit (.int 4)])),
    .asg (.nm 3) (.ix (.lst [.var 1, .lit (.int 65535), .bi .min2 [.lit (.int 65535), .bin .add (.var 1) (.lit (.int 1))], .bi .min2 [.lit (.int 65535), .bin .add (.bin .mul (.lit (.int 2)) (.var 1)) (.lit (.int 5))]]) (.call 6 [.var 0, .lit (.int 4)])),
    .ret (.tup [.var 2, .var 3])]
/-- _law_around(_law_state_here, _law_value); slots: 0 _law_state_here, 1 _law_value, 2 _law_low, 3 _law_high -/
def f12 : Fn := { name := "_law_around", ps := ["_law_state_here", "_law_value"], loc := ["_law_low", "_law_high"], body := b12 }
def b13 : List S := [.asg (.nm 3) (.call 6 [.var 0, .lit (.int 8)]),
    .asg (.nm 4) (.call 6 [.var 0, .lit (.int 8)]),
    .asg (.nm 5) (.bin .add (.lit (.int 8)) (.call 6 [.var 0, .lit (.int 3)])),
    .iff (.and (.cmp .ne (.var 3) (.var 2)) (.and (.cmp .eq (.ix (.var 1) (.var 3)) (.ix (.var 1) (.var 2))) (.cmp .eq (.call 6 [.var 0, .lit (.int 2)]) (.lit (.int 1))))) [.ret (.tup [.lit (.str "equal"), .var 3])] [],
    .iff (.and (.cmp .ne (.var 3) (.var 2)) (.and (.cmp .ne (.var 4) (.var 2)) (.cmp .eq (.call 9 [.var 5, .ix (.var 1) (.var 3), .ix (.var 1) (.var 4)]) (.ix (.var 1) (.var 2))))) [.ret (.tup [.ix (.lst [.lit (.str "less"), .lit (.str "below"), .lit (.str "same")]) (.bin .sub (.var 5) (.lit (.int 8))), .var 3, .var 4])] [],
    .ret (.lit .non)]
/-- _law_link(_law_state_here, _law_held, _law_k); slots: 0 _law_state_here, 1 _law_held, 2 _law_k, 3 _law_other, 4 _law_third, 5 _law_op -/
def f13 : Fn := { name := "_law_link", ps := ["_law_state_here", "_law_held", "_law_k"], loc := ["_law_other", "_law_third", "_law_op"], body := b13 }
def x14_0 : E := .cmp .eq (.ix (.var 2) (.var 4)) (.var 1)
def x14_1 : E := .var 4
@[simp] theorem l_x14_1 : MQ.leak x14_1 = [4] := rfl
def b14 : List S := [.asg (.nm 3) (.compIf [4] (.nm 4) .rng1 [.lit (.int 8)] x14_0 x14_1),
    .iff (.and (.cmp .gt (.bi .len [.var 3]) (.lit (.int 0))) (.cmp .gt (.call 6 [.var 0, .lit (.int 3)]) (.lit (.int 0)))) [.ret (.ix (.var 3) (.call 6 [.var 0, .bi .len [.var 3]]))] [],
    .ret (.lit .non)]
/-- _law_origin(_law_state_here, _law_value, _law_entered); slots: 0 _law_state_here, 1 _law_value, 2 _law_entered, 3 _law_found, 4 _law_k -/
def f14 : Fn := { name := "_law_origin", ps := ["_law_state_here", "_law_value", "_law_entered"], loc := ["_law_found", "_law_k"], body := b14 }
def w15_0 : List S := [.expr (.mt .append (.var 5) [.tup [.call 12 [.var 0, .ix (.var 1) (.var 6)], .call 14 [.var 0, .ix (.var 1) (.var 6), .var 2], .call 13 [.var 0, .var 1, .var 6]]])]
def w15_1 : List S := [.iff (.and (.cmp .eq (.call 6 [.var 0, .lit (.int 3)]) (.lit (.int 1))) (.cmp .lt (.bi .len [.var 7]) (.lit (.int 4)))) [.asg (.nm 9) (.dget2 (.var 3) (.bin .sub (.lit (.int 65536)) (.var 8)) (.lit (.int 0))), .expr (.mt .append (.var 7) [.tup [.var 8, .call 12 [.var 0, .var 9], .call 14 [.var 0, .var 9, .var 2]]])] []]
@[simp] theorem m_w15_0 : MQ.mutds w15_0 = [5] := rfl
@[simp] theorem m_w15_1 : MQ.mutds w15_1 = [7] := rfl
def b15 : List S := [.asg (.nm 5) (.lst []),
    .for_ (.nm 6) .rng1 [.lit (.int 8)] w15_0,
    .asg (.nm 7) (.lst []),
    .for_ (.nm 8) .rng2 [.lit (.int 1), .bin .add (.var 4) (.lit (.int 1))] w15_1,
    .ret (.tup [.bi .tuple [.var 5], .bi .tuple [.var 7]])]
/-- _law_facts(_law_state_here, _law_held, _law_entered, _law_words, _law_height); slots: 0 _law_state_here, 1 _law_held, 2 _law_entered, 3 _law_words, 4 _law_height, 5 _law_registers, 6 _law_k, 7 _law_slots, 8 _law_distance, 9 _law_value -/
def f15 : Fn := { name := "_law_facts", ps := ["_law_state_here", "_law_held", "_law_entered", "_law_words", "_law_height"], loc := ["_law_registers", "_law_k", "_law_slots", "_law_distance", "_law_value"], body := b15 }
def w16_0 : List S := [.asg (.tp [7, 8, 9]) (.ix (.ix (.var 0) (.lit (.int 0))) (.var 4)), .iff (.or (.not (.cmp2 .le .le (.ix (.var 7) (.lit (.int 0))) (.ix (.var 1) (.var 4)) (.ix (.var 7) (.lit (.int 1))))) (.and (.cmp .isn (.var 8) (.lit .non)) (.cmp .ne (.ix (.var 2) (.var 8)) (.ix (.var 1) (.var 4))))) [.ret (.lit (.bl false))] [], .iff (.and (.cmp .isn (.var 9) (.lit .non)) (.and (.cmp .eq (.ix (.var 9) (.lit (.int 0))) (.lit (.str "equal"))) (.cmp .ne (.ix (.var 1) (.ix (.var 9) (.lit (.int 1)))) (.ix (.var 1) (.var 4))))) [.ret (.lit (.bl false))] [], .iff (.and (.cmp .isn (.var 9) (.lit .non)) (.cmp .ne (.ix (.var 9) (.lit (.int 0))) (.lit (.str "equal")))) [.asg (.nm 10) (.bin .add (.mt .index (.lst [.lit (.str "less"), .lit (.str "below"), .lit (.str "same")]) [.ix (.var 9) (.lit (.int 0))]) (.lit (.int 8))), .iff (.cmp .ne (.call 9 [.var 10, .ix (.var 1) (.ix (.var 9) (.lit (.int 1))), .ix (.var 1) (.ix (.var 9) (.lit (.int 2)))]) (.ix (.var 1) (.var 4))) [.ret (.lit (.bl false))] []] []]
def w16_1 : List S := [.asg (.nm 6) (.dget2 (.var 3) (.bin .sub (.lit (.int 65536)) (.ix (.var 5) (.lit (.int 0)))) (.lit (.int 0))), .iff (.or (.not (.cmp2 .le .le (.ix (.ix (.var 5) (.lit (.int 1))) (.lit (.int 0))) (.var 6) (.ix (.ix (.var 5) (.lit (.int 1))) (.lit (.int 1))))) (.and (.cmp .isn (.ix (.var 5) (.lit (.int 2))) (.lit .non)) (.cmp .ne (.ix (.var 2) (.ix (.var 5) (.lit (.int 2)))) (.var 6)))) [.ret (.lit (.bl false))] []]
@[simp] theorem m_w16_0 : MQ.mutds w16_0 = [] := rfl
@[simp] theorem m_w16_1 : MQ.mutds w16_1 = [] := rfl
def b16 : List S := [.iff (.or (.not (.bi .isTup [.var 0])) (.or (.cmp .ne (.bi .len [.var 0]) (.lit (.int 2))) (.cmp .ne (.bi .len [.ix (.var 0) (.lit (.int 0))]) (.lit (.int 8))))) [.ret (.lit (.bl false))] [],
    .for_ (.nm 4) .rng1 [.lit (.int 8)] w16_0,
    .for_ (.nm 5) .val [.ix (.var 0) (.lit (.int 1))] w16_1,
    .ret (.lit (.bl true))]
/-- _law_fit(_law_facts_here, _law_held, _law_entered, _law_words); slots: 0 _law_facts_here, 1 _law_held, 2 _law_entered, 3 _law_words, 4 _law_k, 5 _law_slot, 6 _law_value, 7 _law_span, 8 _law_origin_here, 9 _law_link_here, 10 _law_op -/
def f16 : Fn := { name := "_law_fit", ps := ["_law_facts_here", "_law_held", "_law_entered", "_law_words"], loc := ["_law_k", "_law_slot", "_law_value", "_law_span", "_law_origin_here", "_law_link_here", "_law_op"], body := b16 }
def x17_0 : E := .call 7 [.var 0]
def x17_1 : E := .ix (.lst [.ix (.var 1) (.var 6), .call 6 [.var 0, .lit (.int 2)], .call 7 [.var 0]]) (.call 6 [.var 0, .lit (.int 3)])
def w17_2 : List S := [.setIx (.var 4) (.bin .sub (.lit (.int 65536)) (.var 5)) (.ix (.lst [.ix (.var 1) (.call 6 [.var 0, .lit (.int 8)]), .call 7 [.var 0]]) (.call 6 [.var 0, .lit (.int 2)]))]
@[simp] theorem l_x17_0 : MQ.leak x17_0 = [0] := rfl
@[simp] theorem l_x17_1 : MQ.leak x17_1 = [1, 0, 0] := rfl
@[simp] theorem m_w17_2 : MQ.mutds w17_2 = [4] := rfl
def b17 : List S := [.asg (.nm 1) (.comp [6] (.nm 6) .rng1 [.lit (.int 8)] x17_0),
    .asg (.nm 2) (.comp [6] (.nm 6) .rng1 [.lit (.int 8)] x17_1),
    .asg (.nm 3) (.call 6 [.var 0, .lit (.int 5)]),
    .asg (.nm 4) (.dnew),
    .for_ (.nm 5) .rng2 [.lit (.int 1), .bin .add (.var 3) (.lit (.int 3))] w17_2,
    .ret (.lst [.var 1, .var 2, .var 4, .var 3])]
/-- _law_state(_law_state_here); slots: 0 _law_state_here, 1 _law_entered, 2 _law_held, 3 _law_height, 4 _law_words, 5 _law_distance, 6 _law_k -/
def f17 : Fn := { name := "_law_state", ps := ["_law_state_here"], loc := ["_law_entered", "_law_held", "_law_height", "_law_words", "_law_distance", "_law_k"], body := b17 }
def b18 : List S := [.ret (.tup [.bi .max2 [.ix (.var 0) (.lit (.int 0)), .var 1], .bi .min2 [.ix (.var 0) (.lit (.int 1)), .var 2]])]
/-- _law_cut_to(_law_span, _law_low, _law_high); slots: 0 _law_span, 1 _law_low, 2 _law_high -/
def f18 : Fn := { name := "_law_cut_to", ps := ["_law_span", "_law_low", "_law_high"], loc := [], body := b18 }
def x19_0 : E := .cmp .ge (.var 5) (.bin .sub (.ix (.var 3) (.lit (.int 1))) (.lit (.int 1)))
def x19_1 : E := .var 5
def x19_2 : E := .cmp .le (.var 5) (.bin .add (.ix (.var 2) (.lit (.int 0))) (.lit (.int 1)))
def x19_3 : E := .var 5
@[simp] theorem l_x19_1 : MQ.leak x19_1 = [5] := rfl
@[simp] theorem l_x19_3 : MQ.leak x19_3 = [5] := rfl
def b19 : List S := [.iff (.cmp .eq (.var 1) (.lit (.str "same"))) [.ret (.ite (.var 4) (.lst [.tup [.lit (.int 0), .lit (.int 65535)], .tup [.lit (.int 0), .lit (.int 65535)]]) (.lst [.var 3, .var 2]))] [],
    .iff (.and (.cmp .eq (.var 1) (.lit (.str "below"))) (.cmp .ge (.bi .max2 [.ix (.var 2) (.lit (.int 1)), .ix (.var 3) (.lit (.int 1))]) (.lit (.int 32768)))) [.ret (.lst [.tup [.lit (.int 0), .lit (.int 65535)], .tup [.lit (.int 0), .lit (.int 65535)]])] [],
    .iff (.var 4) [.ret (.lst [.tup [.ix (.var 3) (.lit (.int 0)), .lit (.int 65535)], .tup [.lit (.int 0), .ix (.var 2) (.lit (.int 1))]])] [],
    .iff (.cmp .eq (.ix (.var 3) (.lit (.int 1))) (.lit (.int 0))) [.ret (.lit .non)] [],
    .ret (.lst [.tup [.lit (.int 0), .bi .minL [.compIf [5] (.nm 5) .val [.var 0] x19_0 x19_1]], .tup [.bi .maxL [.compIf [5] (.nm 5) .val [.var 0] x19_2 x19_3], .lit (.int 65535)]])]
/-- _law_limits(_law_known, _law_name, _law_one, _law_two, _law_zero); slots: 0 _law_known, 1 _law_name, 2 _law_one, 3 _law_two, 4 _law_zero, 5 _law_end -/
def f19 : Fn := { name := "_law_limits", ps := ["_law_known", "_law_name", "_law_one", "_law_two", "_law_zero"], loc := ["_law_end"], body := b19 }
def b20 : List S := [.asg (.nm 4) (.bi .list [.ix (.var 1) (.lit (.int 0))]),
    .asg (.nm 5) (.call 18 [.ix (.ix (.var 4) (.var 2)) (.lit (.int 0)), .bin .sub (.lit (.int 1)) (.bi .int [.var 3]), .bin .mul (.lit (.int 65535)) (.bin .sub (.lit (.int 1)) (.bi .int [.var 3]))]),
    .iff (.cmp .gt (.ix (.var 5) (.lit (.int 0))) (.ix (.var 5) (.lit (.int 1)))) [.ret (.lit .non)] [],
    .asg (.nm 6) (.ix (.ix (.var 4) (.var 2)) (.lit (.int 2))),
    .setIx (.var 4) (.var 2) (.tup [.var 5, .ix (.ix (.var 4) (.var 2)) (.lit (.int 1)), .var 6]),
    .iff (.or (.cmp .is (.var 6) (.lit .non)) (.cmp .eq (.ix (.var 6) (.lit (.int 0))) (.lit (.str "equal")))) [.ret (.tup [.bi .tuple [.var 4], .ix (.var 1) (.lit (.int 1))])] [],
    .asg (.nm 7) (.ix (.ix (.var 4) (.ix (.var 6) (.lit (.int 1)))) (.lit (.int 0))),
    .asg (.nm 8) (.ix (.ix (.var 4) (.ix (.var 6) (.lit (.int 2)))) (.lit (.int 0))),
    .asg (.nm 9) (.call 19 [.var 0, .ix (.var 6) (.lit (.int 0)), .var 7, .var 8, .var 3]),
    .iff (.cmp .is (.var 9) (.lit .non)) [.ret (.lit .non)] [],
    .asg (.nm 10) (.call 18 [.var 7, .ix (.ix (.var 9) (.lit (.int 0))) (.lit (.int 0)), .ix (.ix (.var 9) (.lit (.int 0))) (.lit (.int 1))]),
    .asg (.nm 11) (.call 18 [.var 8, .ix (.ix (.var 9) (.lit (.int 1))) (.lit (.int 0)), .ix (.ix (.var 9) (.lit (.int 1))) (.lit (.int 1))]),
    .iff (.or (.cmp .gt (.ix (.var 10) (.lit (.int 0))) (.ix (.var 10) (.lit (.int 1)))) (.cmp .gt (.ix (.var 11) (.lit (.int 0))) (.ix (.var 11) (.lit (.int 1))))) [.ret (.lit .non)] [],
    .setIx (.var 4) (.ix (.var 6) (.lit (.int 1))) (.tup [.var 10, .ix (.ix (.var 4) (.ix (.var 6) (.lit (.int 1)))) (.lit (.int 1)), .ix (.ix (.var 4) (.ix (.var 6) (.lit (.int 1)))) (.lit (.int 2))]),
    .setIx (.var 4) (.ix (.var 6) (.lit (.int 2))) (.tup [.var 11, .ix (.ix (.var 4) (.ix (.var 6) (.lit (.int 2)))) (.lit (.int 1)), .ix (.ix (.var 4) (.ix (.var 6) (.lit (.int 2)))) (.lit (.int 2))]),
    .ret (.tup [.bi .tuple [.var 4], .ix (.var 1) (.lit (.int 1))])]
/-- _law_sent(_law_known, _law_facts_here, _law_number, _law_zero); slots: 0 _law_known, 1 _law_facts_here, 2 _law_number, 3 _law_zero, 4 _law_held, 5 _law_span, 6 _law_link_here, 7 _law_one, 8 _law_two, 9 _law_limits_here, 10 _law_first, 11 _law_second -/
def f20 : Fn := { name := "_law_sent", ps := ["_law_known", "_law_facts_here", "_law_number", "_law_zero"], loc := ["_law_held", "_law_span", "_law_link_here", "_law_one", "_law_two", "_law_limits_here", "_law_first", "_law_second"], body := b20 }
def w21_0 : List S := [.asg (.nm 10) (.cmp .eq (.ix (.var 7) (.var 5)) (.lit (.int 0))), .asg (.nm 11) (.call 5 [.bi .list [.var 4], .var 3, .var 5, .var 10]), .asg (.nm 12) (.call 5 [.bi .list [.var 4], .var 3, .var 5, .not (.var 10)]), .iff (.or (.cmp .is (.var 11) (.lit .non)) (.not (.call 16 [.var 11, .var 7, .var 6, .var 8]))) [.ret (.lit (.bl false))] [], .iff (.or (.cmp .ne (.var 11) (.call 20 [.var 4, .var 3, .var 5, .var 10])) (.cmp .ne (.var 12) (.call 20 [.var 4, .var 3, .var 5, .not (.var 10)]))) [.ret (.lit (.bl false))] []]
def w21_1 : List S := [.asg (.tp [6, 7, 8, 9]) (.call 17 [.var 1]), .asg (.nm 3) (.call 15 [.var 1, .var 7, .var 6, .var 8, .var 9]), .asg (.nm 4) (.call 11 [.var 1]), .for_ (.nm 5) .rng1 [.lit (.int 8)] w21_0]
@[simp] theorem m_w21_0 : MQ.mutds w21_0 = [] := rfl
@[simp] theorem m_w21_1 : MQ.mutds w21_1 = [] := rfl
def b21 : List S := [.asg (.nm 1) (.lst [.lit (.int 0), .lit (.int 0), .bi .list [.var 0], .lit (.int 1)]),
    .for_ (.nm 2) .rng1 [.lit (.int 3)] w21_1,
    .ret (.lit (.bl true))]
/-- law(_law_script); slots: 0 _law_script, 1 _law_state_here, 2 _law_k, 3 _law_facts_here, 4 _law_known, 5 _law_one, 6 _law_entered, 7 _law_held, 8 _law_words, 9 _law_height, 10 _law_zero, 11 _law_taken, 12 _law_other -/
def f21 : Fn := { name := "law", ps := ["_law_script"], loc := ["_law_state_here", "_law_k", "_law_facts_here", "_law_known", "_law_one", "_law_entered", "_law_held", "_law_words", "_law_height", "_law_zero", "_law_taken", "_law_other"], body := b21 }
def prg : Prg := { defs := [(.top 3, f0), (.top 4, f1), (.top 5, f2), (.top 7, f3), (.top 8, f4), (.top 9, f5), (.top 11, f6), (.top 12, f7), (.top 13, f8), (.top 14, f9), (.top 15, f10), (.top 16, f11), (.top 17, f12), (.top 18, f13), (.top 19, f14), (.top 20, f15), (.top 21, f16), (.top 22, f17), (.top 23, f18), (.top 24, f19), (.top 25, f20), (.top 26, f21)], consts := [("TOP", (.int 65535)), ("FULL", (.tup [(.int 0), (.int 65535)]))], free := ["int", "isinstance", "len", "list", "max", "min", "range", "set", "sorted", "tuple"] }
def tks : Nat → List Nat
  | 21 => [1]
  | _ => []
@[simp] theorem tks_0 : tks 0 = [] := rfl
@[simp] theorem tks_1 : tks 1 = [] := rfl
@[simp] theorem tks_2 : tks 2 = [] := rfl
@[simp] theorem tks_3 : tks 3 = [] := rfl
@[simp] theorem tks_4 : tks 4 = [] := rfl
@[simp] theorem tks_5 : tks 5 = [] := rfl
@[simp] theorem tks_6 : tks 6 = [] := rfl
@[simp] theorem tks_7 : tks 7 = [] := rfl
@[simp] theorem tks_8 : tks 8 = [] := rfl
@[simp] theorem tks_9 : tks 9 = [] := rfl
@[simp] theorem tks_10 : tks 10 = [] := rfl
@[simp] theorem tks_11 : tks 11 = [] := rfl
@[simp] theorem tks_12 : tks 12 = [] := rfl
@[simp] theorem tks_13 : tks 13 = [] := rfl
@[simp] theorem tks_14 : tks 14 = [] := rfl
@[simp] theorem tks_15 : tks 15 = [] := rfl
@[simp] theorem tks_16 : tks 16 = [] := rfl
@[simp] theorem tks_17 : tks 17 = [] := rfl
@[simp] theorem tks_18 : tks 18 = [] := rfl
@[simp] theorem tks_19 : tks 19 = [] := rfl
@[simp] theorem tks_20 : tks 20 = [] := rfl
@[simp] theorem tks_21 : tks 21 = [1] := rfl
abbrev PW : Program := PySem.Challenge.pw_unweave_k54_facts_of_branches
theorem is0 : prg.One PW (.top 3, f0) := ⟨by decide, fnB_of (by kernel_rfl) (by kernel_rfl) (by kernel_rfl) (by kernel_rfl)⟩
theorem is1 : prg.One PW (.top 4, f1) := ⟨by decide, fnB_of (by kernel_rfl) (by kernel_rfl) (by kernel_rfl) (by kernel_rfl)⟩
theorem is2 : prg.One PW (.top 5, f2) := ⟨by decide, fnB_of (by kernel_rfl) (by kernel_rfl) (by kernel_rfl) (by kernel_rfl)⟩
theorem is3 : prg.One PW (.top 7, f3) := ⟨by decide, fnB_of (by kernel_rfl) (by kernel_rfl) (by kernel_rfl) (by kernel_rfl)⟩
theorem is4 : prg.One PW (.top 8, f4) := ⟨by decide, fnB_of (by kernel_rfl) (by kernel_rfl) (by kernel_rfl) (by kernel_rfl)⟩
theorem is5 : prg.One PW (.top 9, f5) := ⟨by decide, fnB_of (by kernel_rfl) (by kernel_rfl) (by kernel_rfl) (by kernel_rfl)⟩
theorem is6 : prg.One PW (.top 11, f6) := ⟨by decide, fnB_of (by kernel_rfl) (by kernel_rfl) (by kernel_rfl) (by kernel_rfl)⟩
theorem is7 : prg.One PW (.top 12, f7) := ⟨by decide, fnB_of (by kernel_rfl) (by kernel_rfl) (by kernel_rfl) (by kernel_rfl)⟩
theorem is8 : prg.One PW (.top 13, f8) := ⟨by decide, fnB_of (by kernel_rfl) (by kernel_rfl) (by kernel_rfl) (by kernel_rfl)⟩
theorem is9 : prg.One PW (.top 14, f9) := ⟨by decide, fnB_of (by kernel_rfl) (by kernel_rfl) (by kernel_rfl) (by kernel_rfl)⟩
theorem is10 : prg.One PW (.top 15, f10) := ⟨by decide, fnB_of (by kernel_rfl) (by kernel_rfl) (by kernel_rfl) (by kernel_rfl)⟩
theorem is11 : prg.One PW (.top 16, f11) := ⟨by decide, fnB_of (by kernel_rfl) (by kernel_rfl) (by kernel_rfl) (by kernel_rfl)⟩
theorem is12 : prg.One PW (.top 17, f12) := ⟨by decide, fnB_of (by kernel_rfl) (by kernel_rfl) (by kernel_rfl) (by kernel_rfl)⟩
theorem is13 : prg.One PW (.top 18, f13) := ⟨by decide, fnB_of (by kernel_rfl) (by kernel_rfl) (by kernel_rfl) (by kernel_rfl)⟩
theorem is14 : prg.One PW (.top 19, f14) := ⟨by decide, fnB_of (by kernel_rfl) (by kernel_rfl) (by kernel_rfl) (by kernel_rfl)⟩
theorem is15 : prg.One PW (.top 20, f15) := ⟨by decide, fnB_of (by kernel_rfl) (by kernel_rfl) (by kernel_rfl) (by kernel_rfl)⟩
theorem is16 : prg.One PW (.top 21, f16) := ⟨by decide, fnB_of (by kernel_rfl) (by kernel_rfl) (by kernel_rfl) (by kernel_rfl)⟩
theorem is17 : prg.One PW (.top 22, f17) := ⟨by decide, fnB_of (by kernel_rfl) (by kernel_rfl) (by kernel_rfl) (by kernel_rfl)⟩
theorem is18 : prg.One PW (.top 23, f18) := ⟨by decide, fnB_of (by kernel_rfl) (by kernel_rfl) (by kernel_rfl) (by kernel_rfl)⟩
theorem is19 : prg.One PW (.top 24, f19) := ⟨by decide, fnB_of (by kernel_rfl) (by kernel_rfl) (by kernel_rfl) (by kernel_rfl)⟩
theorem is20 : prg.One PW (.top 25, f20) := ⟨by decide, fnB_of (by kernel_rfl) (by kernel_rfl) (by kernel_rfl) (by kernel_rfl)⟩
theorem is21 : prg.One PW (.top 26, f21) := ⟨by decide, fnB_of (by kernel_rfl) (by kernel_rfl) (by kernel_rfl) (by kernel_rfl)⟩
theorem T0 : prg.T[0]? = some f0 := rfl
theorem T1 : prg.T[1]? = some f1 := rfl
theorem T2 : prg.T[2]? = some f2 := rfl
theorem T3 : prg.T[3]? = some f3 := rfl
theorem T4 : prg.T[4]? = some f4 := rfl
theorem T5 : prg.T[5]? = some f5 := rfl
theorem T6 : prg.T[6]? = some f6 := rfl
theorem T7 : prg.T[7]? = some f7 := rfl
theorem T8 : prg.T[8]? = some f8 := rfl
theorem T9 : prg.T[9]? = some f9 := rfl
theorem T10 : prg.T[10]? = some f10 := rfl
theorem T11 : prg.T[11]? = some f11 := rfl
theorem T12 : prg.T[12]? = some f12 := rfl
theorem T13 : prg.T[13]? = some f13 := rfl
theorem T14 : prg.T[14]? = some f14 := rfl
theorem T15 : prg.T[15]? = some f15 := rfl
theorem T16 : prg.T[16]? = some f16 := rfl
theorem T17 : prg.T[17]? = some f17 := rfl
theorem T18 : prg.T[18]? = some f18 := rfl
theorem T19 : prg.T[19]? = some f19 := rfl
theorem T20 : prg.T[20]? = some f20 := rfl
theorem T21 : prg.T[21]? = some f21 := rfl
theorem prg_is : prg.Is PW := by
  refine ⟨fun d hd => ?_, by kernel_rfl⟩
  simp only [prg, List.mem_cons, List.not_mem_nil, or_false] at hd
  rcases hd with rfl | rfl | rfl | rfl | rfl | rfl | rfl | rfl | rfl | rfl | rfl | rfl | rfl | rfl | rfl | rfl | rfl | rfl | rfl | rfl | rfl | rfl
  · exact is0
  · exact is1
  · exact is2
  · exact is3
  · exact is4
  · exact is5
  · exact is6
  · exact is7
  · exact is8
  · exact is9
  · exact is10
  · exact is11
  · exact is12
  · exact is13
  · exact is14
  · exact is15
  · exact is16
  · exact is17
  · exact is18
  · exact is19
  · exact is20
  · exact is21
end MQ.Law
end
section
set_option Elab.async false
set_option linter.all false
set_option maxRecDepth 100000
set_option maxHeartbeats 4000000
/-! MX, part a: expressions of the laws. -/
namespace MQ
open PySem MP
inductive Ex where
  | var (n : Int) | word (n : Int) | frame (n : Int) | old (n : Int) | mem (e : Ex) | bin (o : Str) (a b : Ex)
  deriving DecidableEq
def Ex.enc : Ex → D
  | .var n => .tup [.str "variable", .int n]
  | .word n => .tup [.str "word", .int n]
  | .frame n => .tup [.str "frame", .int n]
  | .old n => .tup [.str "old", .int n]
  | .mem e => .tup [.str "memory", e.enc]
  | .bin o a b => .tup [.str "binary", .str o, a.enc, b.enc]
def Ex.dep : Ex → Nat
  | .mem e => e.dep + 1
  | .bin _ a b => max a.dep b.dep + 1
  | _ => 0
/-- the operations' names are plain texts -/
def Ex.ok : Ex → Bool
  | .mem e => e.ok
  | .bin o a b => PyData.strOk o && (a.ok && b.ok)
  | _ => true
theorem Ex.im : ∀ e : Ex, e.enc.im = true
  | .var _ | .word _ | .frame _ | .old _ => by simp [Ex.enc]
  | .mem e => by simp [Ex.enc, Ex.im e]
  | .bin o a b => by simp [Ex.enc, Ex.im a, Ex.im b]
@[simp] theorem im_enc {e : Ex} : e.enc.im = true := e.im
@[simp] theorem ims_exs {es : List Ex} : Ds.im (es.map Ex.enc) = true := ims_map fun e => e.im
theorem Ex.gd : ∀ (e : Ex) (k : Nat), e.ok = true → e.dep < k → e.enc.gd k = true
  | .var _, k + 1, _, _ | .word _, k + 1, _, _ | .frame _, k + 1, _, _ | .old _, k + 1, _, _ => by simp [Ex.enc]
  | .mem e, k + 1, h, hk => by
    simp [Ex.enc, Ex.gd e k (by simpa [Ex.ok] using h) (by simp [Ex.dep] at hk; omega)]
  | .bin o a b, k + 1, h, hk => by
    simp [Ex.ok] at h
    simp [Ex.dep] at hk
    simp [Ex.enc, Ex.gd a k h.2.1 (by omega), Ex.gd b k h.2.2 (by omega), h.1]
theorem enc_inj : ∀ {a b : Ex}, a.enc = b.enc → a = b := by
  intro a
  induction a with
  | var n => intro b h; cases b <;> simp (config := {decide := true}) [Ex.enc] at h ⊢ <;> exact h
  | word n => intro b h; cases b <;> simp (config := {decide := true}) [Ex.enc] at h ⊢ <;> exact h
  | frame n => intro b h; cases b <;> simp (config := {decide := true}) [Ex.enc] at h ⊢ <;> exact h
  | old n => intro b h; cases b <;> simp (config := {decide := true}) [Ex.enc] at h ⊢ <;> exact h
  | mem e ih => intro b h; cases b <;> simp (config := {decide := true}) [Ex.enc] at h ⊢; exact ih h
  | bin o a b iha ihb => intro c h; cases c <;> simp (config := {decide := true}) [Ex.enc] at h ⊢; exact ⟨h.1, iha h.2.1, ihb h.2.2⟩
/-! the laws' own drawn expressions; fd, fe: the numbers of the two defs -/
def exprB (fd fe : Nat) : List S := [.asg (.nm 3) (.call fd [.var 0, .lit (.int 7)]),
    .iff (.or (.cmp .eq (.var 1) (.lit (.int 0))) (.cmp .le (.var 3) (.lit (.int 1)))) [.ret (.tup [.lit (.str "variable"), .call fd [.var 0, .var 2]])] [],
    .iff (.cmp .eq (.var 3) (.lit (.int 2))) [.ret (.tup [.lit (.str "word"), .ix (.lst [.lit (.int 0), .lit (.int 1), .lit (.int 2), .lit (.int 255), .lit (.int 65535), .call fd [.var 0, .lit (.int 65536)]]) (.call fd [.var 0, .lit (.int 6)])])] [],
    .iff (.cmp .eq (.var 3) (.lit (.int 3))) [.ret (.tup [.lit (.str "memory"), .call fe [.var 0, .bin .sub (.var 1) (.lit (.int 1)), .var 2]])] [],
    .iff (.cmp .eq (.var 3) (.lit (.int 4))) [.ret (.tup [.lit (.str "frame"), .bin .fdiv (.bin .mul (.call fd [.var 0, .lit (.int 3)]) (.lit (.int 65533))) (.lit (.int 2))])] [],
    .asg (.nm 4) (.lst [.lit (.str "add"), .lit (.str "sub"), .lit (.str "and"), .lit (.str "or"), .lit (.str "xor"), .lit (.str "mul"), .lit (.str "shl"), .lit (.str "shr"), .lit (.str "less"), .lit (.str "below"), .lit (.str "same")]),
    .asg (.nm 5) (.call fe [.var 0, .bin .sub (.var 1) (.lit (.int 1)), .var 2]),
    .ret (.tup [.lit (.str "binary"), .ix (.var 4) (.call fd [.var 0, .lit (.int 11)]), .var 5, .call fe [.var 0, .bin .sub (.var 1) (.lit (.int 1)), .var 2]])]
def opsL : List Str := ["add", "sub", "and", "or", "xor", "mul", "shl", "shr", "less", "below", "same"]
/-- within the ranges of the laws -/
def Ex.In (many : Int) : Ex → Prop
  | .var n => 0 ≤ n ∧ n < many
  | .word n => 0 ≤ n ∧ n < 65536
  | .frame n => 0 ≤ n ∧ n < 65536
  | .old _ => False
  | .mem e => e.In many
  | .bin o a b => o ∈ opsL ∧ a.In many ∧ b.In many
theorem Ex.In.ok {many : Int} : ∀ {e : Ex}, e.In many → e.ok = true
  | .var _, _ | .word _, _ | .frame _, _ | .old _, _ => rfl
  | .mem e, h => by simp [Ex.ok, Ex.In.ok (e := e) h]
  | .bin o a b, h => by
    obtain ⟨h1, h2, h3⟩ := h
    have : ∀ o ∈ opsL, PyData.strOk o = true := by decide +kernel
    simp [Ex.ok, Ex.In.ok h2, Ex.In.ok h3, this o h1]
theorem at_mem {α : Type} {xs : List α} {i : Int} (h0 : 0 ≤ i) (h1 : i < xs.length) : ∃ v ∈ xs, xs[i.toNat]? = some v := by
  have hl : i.toNat < xs.length := by omega
  exact ⟨xs[i.toNat], List.getElem_mem hl, List.getElem?_eq_getElem hl⟩
theorem expr_ok {T : List Fn} {tk : Nat → List Nat} {fd fe : Nat} {fnd fne : Fn} {ns : List Int} (hd : T[fd]? = some fnd) (hdb : fnd.body = drB) (hdp : fnd.ps.length = 2) (hdl : fnd.loc.length = 4) (hdk : tk fd = []) (hdq : fnd.mkr = none)
    (he : T[fe]? = some fne) (heb : fne.body = exprB fd fe) (hep : fne.ps.length = 3) (hel : fne.loc.length = 3) (hek : tk fe = []) (heq : fne.mkr = none) (many : Int) (hm : 0 < many ∧ many < 1073741824) :
    ∀ (deep : Nat) (d : Nat) (t : Int × Nat × Int), deep < d → ∃ (e : Ex) (t' : Int × Nat × Int), callP T tk (d + 1) fe [.tok 0, .int deep, .int many] (dG ns t) = .ok (e.enc, false) (dG ns t') ∧ e.In many ∧ e.dep ≤ deep := by
  intro deep
  induction deep with
  | zero =>
    intro d t hdd
    obtain ⟨d, rfl⟩ : ∃ d', d = d' + 1 := ⟨d - 1, by omega⟩
    have q := fun t m hm => drawC (T := T) (tk := tk) (f := fd) (fn := fnd) d ns t m hd hdb hdp hdl hdk hm hdq
    have e1 : (if Ds.im [D.tok 0, D.int ((0 : Nat) : Int), D.int many] = true then tk fe else (tk fe).map (· + 1000)) = [] := by rw [hek]; split <;> rfl
    have e2 : startP fne [.tok 0, .int ((0 : Nat) : Int), .int many] = [some (.tok 0, false), some (.int ((0 : Nat) : Int), false), some (.int many, false), none, none, none] := by
      unfold startP
      rw [hep, hel]
      rfl
    rw [call_eq he (by rw [hep]; rfl) heq, e1, e2, heb]
    refine ⟨.var (dV ns many (dT ns 7 t)), dT ns many (dT ns 7 t), ?_, ⟨dV_lo hm.1, dV_hi hm.1⟩, Nat.le_refl _⟩
    unfold exprB
    simp (config := {decide := true}) [pS_asg, pT_eq, q, hm, Ex.enc]
  | succ deep ih =>
    intro d t hdd
    obtain ⟨d, rfl⟩ : ∃ d', d = d' + 1 := ⟨d - 1, by omega⟩
    have q := fun t m hm => drawC (T := T) (tk := tk) (f := fd) (fn := fnd) d ns t m hd hdb hdp hdl hdk hm hdq
    have e1 : (if Ds.im [D.tok 0, D.int ((deep + 1 : Nat) : Int), D.int many] = true then tk fe else (tk fe).map (· + 1000)) = [] := by rw [hek]; split <;> rfl
    have e2 : startP fne [.tok 0, .int ((deep + 1 : Nat) : Int), .int many] = [some (.tok 0, false), some (.int ((deep + 1 : Nat) : Int), false), some (.int many, false), none, none, none] := by
      unfold startP
      rw [hep, hel]
      rfl
    have e3 : (((deep + 1 : Nat) : Int) - 1) = (deep : Int) := by omega
    have e4 : ¬((deep + 1 : Nat) : Int) = 0 := by omega
    rw [call_eq he (by rw [hep]; rfl) heq, e1, e2, heb]
    have c0 := dV_lo (ns := ns) (m := 7) (t := t) (by decide)
    have c1 := dV_hi (ns := ns) (m := 7) (t := t) (by decide)
    unfold exprB
    generalize ((deep + 1 : Nat) : Int) = k at *
    by_cases a1 : dV ns 7 t ≤ 1
    · refine ⟨.var (dV ns many (dT ns 7 t)), dT ns many (dT ns 7 t), ?_, ⟨dV_lo hm.1, dV_hi hm.1⟩, Nat.zero_le _⟩
      simp (config := {decide := true}) [pS_asg, pT_eq, q, hm, e4, a1, Ex.enc]
    · by_cases a2 : dV ns 7 t = 2
      · obtain ⟨v, hv, ev⟩ := at_mem (xs := [0, 1, 2, 255, 65535, dV ns 65536 (dT ns 7 t)]) (i := dV ns 6 (dT ns 65536 (dT ns 7 t))) (dV_lo (by decide)) (dV_hi (by decide))
        have ev2 : [D.int 0, .int 1, .int 2, .int 255, .int 65535, .int (dV ns 65536 (dT ns 7 t))][(dV ns 6 (dT ns 65536 (dT ns 7 t))).toNat]? = some (.int v) := by
          have : [D.int 0, .int 1, .int 2, .int 255, .int 65535, .int (dV ns 65536 (dT ns 7 t))] = [0, 1, 2, 255, 65535, dV ns 65536 (dT ns 7 t)].map D.int := rfl
          rw [this, List.getElem?_map, ev]
          rfl
        have w0 := dV_lo (ns := ns) (m := 65536) (t := dT ns 7 t) (by decide)
        have w1 := dV_hi (ns := ns) (m := 65536) (t := dT ns 7 t) (by decide)
        refine ⟨.word v, dT ns 6 (dT ns 65536 (dT ns 7 t)), ?_, ?_, Nat.zero_le _⟩
        · simp (config := {decide := true}) [pS_asg, pT_eq, q, hm, e4, a1, a2, Ex.enc, atI_pos (dV_lo (ns := ns) (m := 6) (t := dT ns 65536 (dT ns 7 t)) (by decide)), ev2]
        · show 0 ≤ v ∧ v < 65536
          simp at hv
          omega
      · by_cases a3 : dV ns 7 t = 3
        · obtain ⟨e, t1, h1, h2, h3⟩ := ih d (dT ns 7 t) (by omega)
          refine ⟨.mem e, t1, ?_, h2, by simp [Ex.dep]; exact h3⟩
          simp (config := {decide := true}) [pS_asg, pT_eq, q, hm, e4, a1, a2, a3, e3, h1, Ex.enc]
        · by_cases a4 : dV ns 7 t = 4
          · have w0 := dV_lo (ns := ns) (m := 3) (t := dT ns 7 t) (by decide)
            have w1 := dV_hi (ns := ns) (m := 3) (t := dT ns 7 t) (by decide)
            refine ⟨.frame (dV ns 3 (dT ns 7 t) * 65533 / 2), dT ns 3 (dT ns 7 t), ?_, by show _ ∧ _; omega, Nat.zero_le _⟩
            simp (config := {decide := true}) (disch := omega) [pS_asg, pT_eq, q, hm, e4, a1, a2, a3, a4, Ex.enc, mul_r, fdiv_ii]
          · obtain ⟨e, t1, h1, h2, h3⟩ := ih d (dT ns 7 t) (by omega)
            obtain ⟨e', t2, h1', h2', h3'⟩ := ih d (dT ns 11 t1) (by omega)
            obtain ⟨v, hv, ev⟩ := at_mem (xs := opsL) (i := dV ns 11 t1) (dV_lo (by decide)) (dV_hi (by decide))
            have ev2 : (opsL.map D.str)[(dV ns 11 t1).toNat]? = some (.str v) := by
              rw [List.getElem?_map, ev]
              rfl
            refine ⟨.bin v e e', t2, ?_, ⟨hv, h2, h2'⟩, by simp [Ex.dep]; omega⟩
            simp only [opsL, List.map_cons, List.map_nil] at ev2
            simp (config := {decide := true}) [pS_asg, pT_eq, q, hm, e4, a1, a2, a3, a4, e3, h1, h1', Ex.enc, lstQ_ok, atI_pos (dV_lo (ns := ns) (m := 11) (t := t1) (by decide)), ev2]
end MQ
end
section
set_option Elab.async false
set_option linter.all false
set_option maxRecDepth 100000
set_option maxHeartbeats 4000000
/-! MQ, part i: rules for running the small language step by step: what is still to be run stands as syntax, not as a function. (printed by gen_mqi.py) -/
namespace MQ
open PySem MP
section
/-- no rfl rule for simp: the kernel shall not reckon -/
theorem nr {α : Sort u} {a : α} : a = a := Eq.trans rfl rfl
variable {C : PCl} {tk : List Nat} {p : PEn} {g : GS} {a b c : E} {es : List E} {xs ys ss : List S} {s : S} {x y z : D} {fr : Bool} {ex : PX}

noncomputable def kB2 (o : BOp) (x : D) (r : PR (D × Bool)) : PR (D × Bool) := r.bind fun v g => oQ g (binP o x v.1)
@[simp] theorem kB2_ok {o : BOp} : kB2 o x (.ok (y, fr) g) = oQ g (binP o x y) := nr
@[simp] theorem kB2_ex {o : BOp} : kB2 o x (.exc ex g) = .exc ex g := nr
noncomputable def kB1 (C : PCl) (o : BOp) (b : E) (p : PEn) (r : PR (D × Bool)) : PR (D × Bool) := r.bind fun v g => kB2 o v.1 (pE C b p g)
@[simp] theorem kB1_ok {o : BOp} : kB1 C o b p (.ok (x, fr) g) = kB2 o x (pE C b p g) := nr
@[simp] theorem kB1_ex {o : BOp} : kB1 C o b p (.exc ex g) = .exc ex g := nr
@[simp high] theorem r_bin {o : BOp} : pE C (.bin o a b) p g = kB1 C o b p (pE C a p g) := pE_bin
noncomputable def kNeg (r : PR (D × Bool)) : PR (D × Bool) := r.bind fun v g => oQ g (negP v.1)
@[simp] theorem kNeg_ok : kNeg (.ok (x, fr) g) = oQ g (negP x) := nr
@[simp] theorem kNeg_ex : kNeg (.exc ex g) = .exc ex g := nr
@[simp high] theorem r_neg : pE C (.neg a) p g = kNeg (pE C a p g) := pE_neg
def kBl (r : PR Bool) : PR (D × Bool) := r.bind fun k g => .ok (.bl k, false) g
@[simp] theorem kBl_ok {k : Bool} : kBl (.ok k g) = .ok (.bl k, false) g := nr
@[simp] theorem kBl_ex : kBl (.exc ex g) = .exc ex g := nr
def kNot (r : PR Bool) : PR (D × Bool) := r.bind fun k g => .ok (.bl (!k), false) g
@[simp] theorem kNot_ok {k : Bool} : kNot (.ok k g) = .ok (.bl (!k), false) g := nr
@[simp] theorem kNot_ex : kNot (.exc ex g) = .exc ex g := nr
def kT (r : PR (D × Bool)) : PR Bool := r.bind fun v g => oQ g (truP v.1 g)
@[simp] theorem kT_ok : kT (.ok (x, fr) g) = oQ g (truP x g) := nr
@[simp] theorem kT_ex : kT (.exc ex g) = .exc ex g := nr
@[simp high] theorem r_T : pT C a p g = kT (pE C a p g) := pT_eq
@[simp high] theorem r_not : pE C (.not a) p g = kNot (kT (pE C a p g)) := by rw [pE_not]; cases pE C a p g <;> rfl
noncomputable def kC2 (o : COp) (x : D) (r : PR (D × Bool)) : PR (D × Bool) := r.bind fun v g => kBl (oQ g (cmpP o x v.1))
@[simp] theorem kC2_ok {o : COp} : kC2 o x (.ok (y, fr) g) = kBl (oQ g (cmpP o x y)) := nr
@[simp] theorem kC2_ex {o : COp} : kC2 o x (.exc ex g) = .exc ex g := nr
noncomputable def kC1 (C : PCl) (o : COp) (b : E) (p : PEn) (r : PR (D × Bool)) : PR (D × Bool) := r.bind fun v g => kC2 o v.1 (pE C b p g)
@[simp] theorem kC1_ok {o : COp} : kC1 C o b p (.ok (x, fr) g) = kC2 o x (pE C b p g) := nr
@[simp] theorem kC1_ex {o : COp} : kC1 C o b p (.exc ex g) = .exc ex g := nr
@[simp high] theorem r_cmp {o : COp} : pE C (.cmp o a b) p g = kC1 C o b p (pE C a p g) := pE_cmp
noncomputable def kD3 (C : PCl) (o : COp) (c : E) (p : PEn) (y : D) (r : PR Bool) : PR (D × Bool) := r.bind fun k g => if k = true then kC2 o y (pE C c p g) else .ok (.bl false, false) g
@[simp] theorem kD3_ok {o : COp} {k : Bool} : kD3 C o c p y (.ok k g) = if k = true then kC2 o y (pE C c p g) else .ok (.bl false, false) g := nr
noncomputable def kD2 (C : PCl) (o o' : COp) (c : E) (p : PEn) (x : D) (r : PR (D × Bool)) : PR (D × Bool) := r.bind fun v g => kD3 C o' c p v.1 (oQ g (cmpP o x v.1))
@[simp] theorem kD2_ok {o o' : COp} : kD2 C o o' c p x (.ok (y, fr) g) = kD3 C o' c p y (oQ g (cmpP o x y)) := nr
noncomputable def kD1 (C : PCl) (o o' : COp) (b c : E) (p : PEn) (r : PR (D × Bool)) : PR (D × Bool) := r.bind fun v g => kD2 C o o' c p v.1 (pE C b p g)
@[simp] theorem kD1_ok {o o' : COp} : kD1 C o o' b c p (.ok (x, fr) g) = kD2 C o o' c p x (pE C b p g) := nr
@[simp high] theorem r_cmp2 {o o' : COp} : pE C (.cmp2 o o' a b c) p g = kD1 C o o' b c p (pE C a p g) := pE_cmp2
noncomputable def kAn2 (C : PCl) (b : E) (p : PEn) (x : D) (r : PR Bool) : PR (D × Bool) := r.bind fun k g => if k = true then pE C b p g else .ok (x, false) g
@[simp] theorem kAn2_ok {k : Bool} : kAn2 C b p x (.ok k g) = if k = true then pE C b p g else .ok (x, false) g := nr
noncomputable def kAn1 (C : PCl) (b : E) (p : PEn) (r : PR (D × Bool)) : PR (D × Bool) := r.bind fun v g => kAn2 C b p v.1 (oQ g (truP v.1 g))
@[simp] theorem kAn1_ok : kAn1 C b p (.ok (x, fr) g) = kAn2 C b p x (oQ g (truP x g)) := nr
@[simp] theorem kAn1_ex : kAn1 C b p (.exc ex g) = .exc ex g := nr
@[simp high] theorem r_and : pE C (.and a b) p g = kAn1 C b p (pE C a p g) := pE_and
noncomputable def kOr2 (C : PCl) (b : E) (p : PEn) (x : D) (r : PR Bool) : PR (D × Bool) := r.bind fun k g => if k = true then .ok (x, false) g else pE C b p g
@[simp] theorem kOr2_ok {k : Bool} : kOr2 C b p x (.ok k g) = if k = true then .ok (x, false) g else pE C b p g := nr
noncomputable def kOr1 (C : PCl) (b : E) (p : PEn) (r : PR (D × Bool)) : PR (D × Bool) := r.bind fun v g => kOr2 C b p v.1 (oQ g (truP v.1 g))
@[simp] theorem kOr1_ok : kOr1 C b p (.ok (x, fr) g) = kOr2 C b p x (oQ g (truP x g)) := nr
@[simp] theorem kOr1_ex : kOr1 C b p (.exc ex g) = .exc ex g := nr
@[simp high] theorem r_or : pE C (.or a b) p g = kOr1 C b p (pE C a p g) := pE_or
noncomputable def kIte (C : PCl) (a b : E) (p : PEn) (r : PR Bool) : PR (D × Bool) := r.bind fun k g => if k = true then pE C a p g else pE C b p g
@[simp] theorem kIte_ok {k : Bool} : kIte C a b p (.ok k g) = if k = true then pE C a p g else pE C b p g := nr
@[simp] theorem kIte_ex : kIte C a b p (.exc ex g) = .exc ex g := nr
@[simp high] theorem r_ite : pE C (.ite c a b) p g = kIte C a b p (kT (pE C c p g)) := by rw [pE_ite]; cases pE C c p g <;> rfl
def kCons (x : D) (r : PR (List D)) : PR (List D) := r.bind fun vs g => .ok (x :: vs) g
@[simp] theorem kCons_ok {vs : List D} : kCons x (.ok vs g) = .ok (x :: vs) g := nr
@[simp] theorem kCons_ex : kCons x (.exc ex g) = .exc ex g := nr
noncomputable def kEs (C : PCl) (es : List E) (p : PEn) (r : PR (D × Bool)) : PR (List D) := r.bind fun v g => kCons v.1 (pEs C es p g)
@[simp] theorem kEs_ok : kEs C es p (.ok (x, fr) g) = kCons x (pEs C es p g) := nr
@[simp] theorem kEs_ex : kEs C es p (.exc ex g) = .exc ex g := nr
@[simp high] theorem r_es : pEs C (a :: es) p g = kEs C es p (pE C a p g) := pEs_cons
noncomputable def kTup  (r : PR (List D)) : PR (D × Bool) := r.bind fun vs g => tupQ vs g
@[simp] theorem kTup_ok  {vs : List D} : kTup  (.ok vs g) = tupQ vs g := nr
@[simp] theorem kTup_ex  : kTup  (.exc ex g) = .exc ex g := nr
@[simp high] theorem r_kTup  : pE C (.tup es) p g = kTup  (pEs C es p g) := pE_tup
noncomputable def kLst  (r : PR (List D)) : PR (D × Bool) := r.bind fun vs g => lstQ vs g
@[simp] theorem kLst_ok  {vs : List D} : kLst  (.ok vs g) = lstQ vs g := nr
@[simp] theorem kLst_ex  : kLst  (.exc ex g) = .exc ex g := nr
@[simp high] theorem r_kLst  : pE C (.lst es) p g = kLst  (pEs C es p g) := pE_lst
noncomputable def kCall (C : PCl) (f : Nat) (r : PR (List D)) : PR (D × Bool) := r.bind fun vs g => C f vs g
@[simp] theorem kCall_ok {f : Nat} {vs : List D} : kCall C f (.ok vs g) = C f vs g := nr
@[simp] theorem kCall_ex {f : Nat} : kCall C f (.exc ex g) = .exc ex g := nr
@[simp high] theorem r_kCall {f : Nat} : pE C (.call f es) p g = kCall C f (pEs C es p g) := pE_call
noncomputable def kBi (k : Bi) (r : PR (List D)) : PR (D × Bool) := r.bind fun vs g => oQ g (biP k vs g)
@[simp] theorem kBi_ok {k : Bi} {vs : List D} : kBi k (.ok vs g) = oQ g (biP k vs g) := nr
@[simp] theorem kBi_ex {k : Bi} : kBi k (.exc ex g) = .exc ex g := nr
@[simp high] theorem r_kBi {k : Bi} : pE C (.bi k es) p g = kBi k (pEs C es p g) := pE_bi
noncomputable def kDisp  (r : PR (List D)) : PR (D × Bool) := r.bind fun vs g => oQ g (dispP vs)
@[simp] theorem kDisp_ok  {vs : List D} : kDisp  (.ok vs g) = oQ g (dispP vs) := nr
@[simp] theorem kDisp_ex  : kDisp  (.exc ex g) = .exc ex g := nr
@[simp high] theorem r_kDisp  : pE C (.disp es) p g = kDisp  (pEs C es p g) := pE_disp
def fD1 (o : Option D) : Option (D × Bool) := o.map fun d => (d, false)
@[simp] theorem fD1_s : fD1 (some x) = some (x, false) := nr
noncomputable def kIx2 (x : D) (r : PR (D × Bool)) : PR (D × Bool) := r.bind fun v g => oQ g (fD1 (ixP x v.1 g))
@[simp] theorem kIx2_ok : kIx2 x (.ok (y, fr) g) = oQ g (fD1 (ixP x y g)) := nr
noncomputable def kIx1 (C : PCl) (b : E) (p : PEn) (r : PR (D × Bool)) : PR (D × Bool) := r.bind fun v g => kIx2 v.1 (pE C b p g)
@[simp] theorem kIx1_ok : kIx1 C b p (.ok (x, fr) g) = kIx2 x (pE C b p g) := nr
@[simp] theorem kIx1_ex : kIx1 C b p (.exc ex g) = .exc ex g := nr
@[simp high] theorem r_ix : pE C (.ix a b) p g = kIx1 C b p (pE C a p g) := pE_ix
@[simp high] theorem r_var {i : Nat} : pE C (.var i) p g = oQ g (fD1 (getP p i)) := pE_var
@[simp high] theorem r_lit {v : MV} : pE C (.lit v) p g = oQ g (fD1 (mvD v)) := pE_lit
def kSl3 (x : D) (l : Option Int) (r : PR (Option Int)) : PR (D × Bool) := r.bind fun u g => oQ g (slP x l u g)
@[simp] theorem kSl3_ok {l u : Option Int} : kSl3 x l (.ok u g) = oQ g (slP x l u g) := nr
noncomputable def kSl2 (C : PCl) (hi : Option E) (p : PEn) (x : D) (r : PR (Option Int)) : PR (D × Bool) := r.bind fun l g => kSl3 x l (pEo C hi p g)
@[simp] theorem kSl2_ok {hi : Option E} {l : Option Int} : kSl2 C hi p x (.ok l g) = kSl3 x l (pEo C hi p g) := nr
noncomputable def kSl1 (C : PCl) (lo hi : Option E) (p : PEn) (r : PR (D × Bool)) : PR (D × Bool) := r.bind fun v g => kSl2 C hi p v.1 (pEo C lo p g)
@[simp] theorem kSl1_ok {lo hi : Option E} : kSl1 C lo hi p (.ok (x, fr) g) = kSl2 C hi p x (pEo C lo p g) := nr
@[simp high] theorem r_sl {lo hi : Option E} : pE C (.sl a lo hi) p g = kSl1 C lo hi p (pE C a p g) := pE_sl
def kEo (r : PR (D × Bool)) : PR (Option Int) := r.bind fun v g => oQ g (intQ v.1)
@[simp] theorem kEo_ok : kEo (.ok (x, fr) g) = oQ g (intQ x) := nr
@[simp high] theorem r_eo : pEo C (some a) p g = kEo (pE C a p g) := pEo_some
def kDg2 (x : D) (r : PR (D × Bool)) : PR (D × Bool) := r.bind fun v g => oQ g ((dGetP x v.1).map fun o => (o.getD .non, false))
@[simp] theorem kDg2_ok : kDg2 x (.ok (y, fr) g) = oQ g ((dGetP x y).map fun o => (o.getD .non, false)) := nr
noncomputable def kDg1 (C : PCl) (b : E) (p : PEn) (r : PR (D × Bool)) : PR (D × Bool) := r.bind fun v g => if v.1.isDct = true then kDg2 v.1 (pE C b p g) else .bad
@[simp] theorem kDg1_ok : kDg1 C b p (.ok (x, fr) g) = if x.isDct = true then kDg2 x (pE C b p g) else .bad := nr
@[simp high] theorem r_dget : pE C (.dget a b) p g = kDg1 C b p (pE C a p g) := pE_dget
def kDh3 (x y : D) (r : PR (D × Bool)) : PR (D × Bool) := r.bind fun v g => oQ g ((dGetP x y).map fun o => (o.getD v.1, false))
@[simp] theorem kDh3_ok : kDh3 x y (.ok (z, fr) g) = oQ g ((dGetP x y).map fun o => (o.getD z, false)) := nr
noncomputable def kDh2 (C : PCl) (c : E) (p : PEn) (x : D) (r : PR (D × Bool)) : PR (D × Bool) := r.bind fun v g => kDh3 x v.1 (pE C c p g)
@[simp] theorem kDh2_ok : kDh2 C c p x (.ok (y, fr) g) = kDh3 x y (pE C c p g) := nr
noncomputable def kDh1 (C : PCl) (b c : E) (p : PEn) (r : PR (D × Bool)) : PR (D × Bool) := r.bind fun v g => if v.1.isDct = true then kDh2 C c p v.1 (pE C b p g) else .bad
@[simp] theorem kDh1_ok : kDh1 C b c p (.ok (x, fr) g) = if x.isDct = true then kDh2 C c p x (pE C b p g) else .bad := nr
@[simp high] theorem r_dget2 : pE C (.dget2 a b c) p g = kDh1 C b c p (pE C a p g) := pE_dget2
def kFld (cs : List Str) (f : Str) (r : PR (D × Bool)) : PR (D × Bool) := r.bind fun v g => oQ g (fD1 (fldP cs v.1 f))
@[simp] theorem kFld_ok {cs : List Str} {f : Str} : kFld cs f (.ok (x, fr) g) = oQ g (fD1 (fldP cs x f)) := nr
@[simp high] theorem r_fld {cs : List Str} {f : Str} : pE C (.fld cs a f) p g = kFld cs f (pE C a p g) := pE_fld
noncomputable def kMe2 (C : PCl) (x : D) (f : Nat) (r : PR (List D)) : PR (D × Bool) := r.bind fun vs g => C f (x :: vs) g
@[simp] theorem kMe2_ok {f : Nat} {vs : List D} : kMe2 C x f (.ok vs g) = C f (x :: vs) g := nr
noncomputable def kMeQ (C : PCl) (x : D) (es : List E) (p : PEn) (g : GS) : Option Nat → PR (D × Bool)
  | some f => kMe2 C x f (pEs C es p g)
  | none => .bad
@[simp] theorem kMeQ_s {f : Nat} : kMeQ C x es p g (some f) = kMe2 C x f (pEs C es p g) := nr
noncomputable def kMe (C : PCl) (cs : List (Str × Nat)) (m : Str) (es : List E) (p : PEn) (r : PR (D × Bool)) : PR (D × Bool) := r.bind fun v g => kMeQ C v.1 es p g (methP cs m v.1)
@[simp] theorem kMe_ok {cs : List (Str × Nat)} {m : Str} : kMe C cs m es p (.ok (x, fr) g) = kMeQ C x es p g (methP cs m x) := nr
@[simp high] theorem r_meth {cs : List (Str × Nat)} {m : Str} : pE C (.meth cs m a es) p g = kMe C cs m es p (pE C a p g) := by
  rw [pE_meth]; unfold kMe; first | rfl | (congr 1; done) | (congr 1; funext v g; unfold methQ kMeQ kMe2; cases methP cs m v.1 <;> rfl)
def kTi (v : MV) (r : PR (D × Bool)) : PR (D × Bool) := r.bind fun y g => oQ g (fD1 (tidxP v y.1))
@[simp] theorem kTi_ok {v : MV} : kTi v (.ok (x, fr) g) = oQ g (fD1 (tidxP v x)) := nr
@[simp high] theorem r_tidx {v : MV} : pE C (.tidx v a) p g = kTi v (pE C a p g) := pE_tidx
def kAR (l : Nat) (x : Str × Option Str) (lo hi : Int) (r : PR (D × Bool)) : PR (D × Bool) := r.bind fun v g => kBl (oQ g (allRP l x lo hi v.1 g))
@[simp] theorem kAR_ok {l : Nat} {n : Str × Option Str} {lo hi : Int} : kAR l n lo hi (.ok (x, fr) g) = kBl (oQ g (allRP l n lo hi x g)) := nr
noncomputable def kDc (C : PCl) (ok : Bool) (t : Tg) (k : IK) (ls ws : List Nat) (p : PEn) (key val : E) (r : PR (List D)) : PR (D × Bool) := r.bind fun vs g1 => dcompQ ok t (fun p g => kvP C key val p g) (srcP k vs) (fun xs => wipeP (lockP xs ls p) ws) g1
@[simp] theorem kDc_ok {ok : Bool} {t : Tg} {k : IK} {ls ws : List Nat} {key val : E} {vs : List D} : kDc C ok t k ls ws p key val (.ok vs g) = dcompQ ok t (fun p g => kvP C key val p g) (srcP k vs) (fun xs => wipeP (lockP xs ls p) ws) g := nr
@[simp high] theorem r_dcomp {ws : List Nat} {t : Tg} {k : IK} {key val : E} : pE C (.dcomp ws t k es key val) p g = kDc C (okW t ws p) t k (leaks es) ws p key val (pEs C es p g) := pE_dcomp
noncomputable def kGQ (an : Bool) (l : Nat) (x : Str × Option Str) (q : QE) (p : PEn) (r : PR (D × Bool)) : PR (D × Bool) := r.bind fun v g => kBl (oQ g (genP an l x q p v.1 g))
@[simp] theorem kGQ_ok {an : Bool} {l : Nat} {n : Str × Option Str} {q : QE} : kGQ an l n q p (.ok (x, fr) g) = kBl (oQ g (genP an l n q p x g)) := nr
@[simp high] theorem r_genQ {an : Bool} {l : Nat} {n : Str × Option Str} {q : QE} : pE C (.genQ an l n q a) p g = kGQ an l n q p (pE C a p g) := pE_genQ
@[simp high] theorem r_allR {l : Nat} {n : Str × Option Str} {lo hi : Int} : pE C (.allR l n lo hi a) p g = kAR l n lo hi (pE C a p g) := pE_allR
def kXi2 (x : D) (r : PR (D × Bool)) : PR (D × Bool) := r.bind fun v g => oQ g (fD1 (idxP x v.1))
@[simp] theorem kXi2_ok : kXi2 x (.ok (y, fr) g) = oQ g (fD1 (idxP x y)) := nr
noncomputable def kXi1 (C : PCl) (b : E) (p : PEn) (r : PR (D × Bool)) : PR (D × Bool) := r.bind fun v g => if v.1.isLst = true then kXi2 v.1 (pE C b p g) else .bad
@[simp] theorem kXi1_ok : kXi1 C b p (.ok (x, fr) g) = if x.isLst = true then kXi2 x (pE C b p g) else .bad := nr
@[simp high] theorem r_index : pE C (.mt .index a [b]) p g = kXi1 C b p (pE C a p g) := pE_index
noncomputable def kCo (C : PCl) (ok : Bool) (t : Tg) (k : IK) (ls ws : List Nat) (p : PEn) (a : E) (r : PR (List D)) : PR (D × Bool) := r.bind fun vs g => compQ ok t p (fun _ g => .ok true g) (fun p g => pE C a p g) (srcP k vs) (fun xs => wipeP (lockP xs ls p) ws) g
@[simp] theorem kCo_ok {o : Bool} {t : Tg} {k : IK} {ls ws : List Nat} {vs : List D} : kCo C o t k ls ws p a (.ok vs g) = compQ o t p (fun _ g => .ok true g) (fun p g => pE C a p g) (srcP k vs) (fun xs => wipeP (lockP xs ls p) ws) g := nr
@[simp high] theorem r_comp {ws : List Nat} {t : Tg} {k : IK} : pE C (.comp ws t k es a) p g = kCo C (okW t ws p) t k (leaks es) ws p a (pEs C es p g) := pE_comp
noncomputable def kCi (C : PCl) (ok : Bool) (t : Tg) (k : IK) (ls ws : List Nat) (p : PEn) (c a : E) (r : PR (List D)) : PR (D × Bool) := r.bind fun vs g => compQ ok t p (fun p g => pT C c p g) (fun p g => pE C a p g) (srcP k vs) (fun xs => wipeP (lockP xs ls p) ws) g
@[simp] theorem kCi_ok {o : Bool} {t : Tg} {k : IK} {ls ws : List Nat} {vs : List D} : kCi C o t k ls ws p c a (.ok vs g) = compQ o t p (fun p g => pT C c p g) (fun p g => pE C a p g) (srcP k vs) (fun xs => wipeP (lockP xs ls p) ws) g := nr
@[simp high] theorem r_compIf {ws : List Nat} {t : Tg} {k : IK} : pE C (.compIf ws t k es c a) p g = kCi C (okW t ws p) t k (leaks es) ws p c a (pEs C es p g) := pE_compIf
noncomputable def kGo (C : PCl) (tk : List Nat) (ss : List S) (r : PSR) : PSR := r.seq fun p g => pSs C tk ss p g
@[simp] theorem kGo_nx : kGo C tk ss (.nx p g) = pSs C tk ss p g := nr
@[simp] theorem kGo_rt : kGo C tk ss (.rt x fr g) = .rt x fr g := nr
@[simp] theorem kGo_bk : kGo C tk ss (.bk p g) = .bk p g := nr
@[simp] theorem kGo_ct : kGo C tk ss (.ct p g) = .ct p g := nr
@[simp] theorem kGo_ex : kGo C tk ss (.exc ex p g) = .exc ex p g := nr
@[simp high] theorem r_go : pSs C tk (s :: ss) p g = kGo C tk ss (pS C tk s p g) := pSs_cons
def kAppP (i : Nat) (ls : List Nat) (p : PEn) (r : PR (D × Bool)) : PSR := r.sr p fun v g => appP i v.1 (holdP v.1 v.2 ls p) g
@[simp] theorem kAppP_ok {i : Nat} {ls : List Nat} : kAppP i ls p (.ok (x, fr) g) = appP i x (holdP x fr ls p) g := nr
@[simp] theorem kAppP_ex {i : Nat} {ls : List Nat} : kAppP i ls p (.exc ex g) = .exc ex p g := nr
@[simp high] theorem r_app {i : Nat} : pS C tk (.expr (.mt .append (.var i) [a])) p g = if ownL p i = true then kAppP i (leak a) p (pE C a p g) else .bad := pS_app
def kEx (p : PEn) (r : PR (D × Bool)) : PSR := r.sr p fun _ g => .nx p g
@[simp] theorem kEx_ok : kEx p (.ok (x, fr) g) = .nx p g := nr
@[simp] theorem kEx_ex : kEx p (.exc ex g) = .exc ex p g := nr
@[simp high] theorem r_ecall {f : Nat} : pS C tk (.expr (.call f es)) p g = kEx p (pE C (.call f es) p g) := pS_expr0 rfl
@[simp high] theorem r_emeth {cs : List (Str × Nat)} {m : Str} : pS C tk (.expr (.meth cs m a es)) p g = kEx p (pE C (.meth cs m a es) p g) := pS_expr0 rfl
@[simp high] theorem r_ebi {k : Bi} : pS C tk (.expr (.bi k es)) p g = kEx p (pE C (.bi k es) p g) := pS_expr0 rfl
def kAs (tk : List Nat) (t : Tg) (ls : List Nat) (p : PEn) (r : PR (D × Bool)) : PSR := r.sr p fun v g => asgP tk t v.1 v.2 (holdP v.1 v.2 ls p) g
@[simp] theorem kAs_ok {t : Tg} {ls : List Nat} : kAs tk t ls p (.ok (x, fr) g) = asgP tk t x fr (holdP x fr ls p) g := nr
@[simp] theorem kAs_ex {t : Tg} {ls : List Nat} : kAs tk t ls p (.exc ex g) = .exc ex p g := nr
noncomputable def kAsQ (C : PCl) (tk : List Nat) (t : Tg) (a : E) (p : PEn) (g : GS) : Option Nat → PSR
  | some i => popP t i p g
  | none => if stK tk t = true then stP t a p g else kAs tk t (leak a) p (pE C a p g)
@[simp] theorem kAsQ_n {t : Tg} : kAsQ C tk t a p g none = if stK tk t = true then stP t a p g else kAs tk t (leak a) p (pE C a p g) := nr
@[simp high] theorem r_asg {t : Tg} : pS C tk (.asg t a) p g = kAsQ C tk t a p g (popOf a) := by rw [pS_asg]; cases popOf a <;> rfl
@[simp 9000] theorem r_pop {t : Tg} {i : Nat} : pS C tk (.asg t (.mt .pop (.var i) [])) p g = popP t i p g := pS_pop
def kXt (i : Nat) (ls : List Nat) (p : PEn) (r : PR (D × Bool)) : PSR := r.sr p fun v g => extP i v.1 (holdP v.1 v.2 ls p) g
@[simp] theorem kXt_ok {i : Nat} {ls : List Nat} : kXt i ls p (.ok (x, fr) g) = extP i x (holdP x fr ls p) g := nr
noncomputable def kAu3 (i : Nat) (p : PEn) (r : PR D) : PSR := r.sr p fun z g => .nx (p.set i (some (z, false))) g
@[simp] theorem kAu3_ok {i : Nat} : kAu3 i p (.ok z g) = .nx (p.set i (some (z, false))) g := nr
noncomputable def kAu2 (i : Nat) (o : BOp) (p : PEn) (x : D) (r : PR (D × Bool)) : PSR := r.sr p fun y g => kAu3 i p (oQ g (augP o x y.1))
@[simp] theorem kAu2_ok {i : Nat} {o : BOp} : kAu2 i o p x (.ok (y, fr) g) = kAu3 i p (oQ g (augP o x y)) := nr
noncomputable def kAu1 (C : PCl) (i : Nat) (o : BOp) (a : E) (p : PEn) (g : GS) (r : PR D) : PSR := r.sr p fun x _ => kAu2 i o p x (pE C a p g)
@[simp] theorem kAu1_ok {i : Nat} {o : BOp} : kAu1 C i o a p g (.ok x g) = kAu2 i o p x (pE C a p g) := nr
@[simp high] theorem r_aug {i : Nat} {o : BOp} : pS C tk (.aug i o a) p g = if o = .add ∧ ownL p i = true then (if (leak a).contains i = true then .bad else kXt i (leak a) p (pE C a p g)) else kAu1 C i o a p g (oQ g (getP p i)) := pS_aug
noncomputable def kSx2 (j : Nat) (p : PEn) (ls : List Nat) (x : D) (f : Bool) (r : PR (D × Bool)) : PSR := r.sr p fun k g => setP j k.1 x (holdP x f ls p) g
@[simp] theorem kSx2_ok {j : Nat} {ls : List Nat} {f : Bool} : kSx2 j p ls x f (.ok (y, fr) g) = setP j y x (holdP x f ls p) g := nr
noncomputable def kSx1 (C : PCl) (j : Nat) (b : E) (p : PEn) (ls : List Nat) (r : PR (D × Bool)) : PSR := r.sr p fun v g => kSx2 j p ls v.1 v.2 (pE C b p g)
@[simp] theorem kSx1_ok {j : Nat} {ls : List Nat} : kSx1 C j b p ls (.ok (x, fr) g) = kSx2 j p ls x fr (pE C b p g) := nr
noncomputable def kSy3 (p : PEn) (v x : D) (f : Bool) (r : PR (D × Bool)) : PSR := r.sr p fun k g => if clP v f = true then setT x k.1 v p g else .bad
@[simp] theorem kSy3_ok {f : Bool} : kSy3 p z x f (.ok (y, fr) g) = if clP z f = true then setT x y z p g else .bad := nr
noncomputable def kSy2 (C : PCl) (b : E) (p : PEn) (v : D) (f : Bool) (r : PR (D × Bool)) : PSR := r.sr p fun x g => kSy3 p v x.1 f (pE C b p g)
@[simp] theorem kSy2_ok {f : Bool} : kSy2 C b p z f (.ok (x, fr) g) = kSy3 p z x f (pE C b p g) := nr
noncomputable def kSy1 (C : PCl) (j : Nat) (b : E) (p : PEn) (r : PR (D × Bool)) : PSR := r.sr p fun v g => kSy2 C b p v.1 v.2 (pE C (.var j) p g)
@[simp] theorem kSy1_ok {j : Nat} : kSy1 C j b p (.ok (x, fr) g) = kSy2 C b p x fr (pE C (.var j) p g) := nr
@[simp high] theorem r_setIx {j : Nat} : pS C tk (.setIx (.var j) b c) p g = if ownC p j = true then kSx1 C j b p (leak c) (pE C c p g) else kSy1 C j b p (pE C c p g) := pS_setIx
def kRt (p : PEn) (r : PR (D × Bool)) : PSR := r.sr p fun v g => .rt v.1 v.2 g
@[simp] theorem kRt_ok : kRt p (.ok (x, fr) g) = .rt x fr g := nr
@[simp] theorem kRt_ex : kRt p (.exc ex g) = .exc ex p g := nr
noncomputable def kRtQ (C : PCl) (a : E) (p : PEn) (g : GS) : Option D → PSR
  | some d => .rt d true g
  | none => kRt p (pE C a p g)
@[simp] theorem kRtQ_s : kRtQ C a p g (some x) = .rt x true g := nr
@[simp] theorem kRtQ_n : kRtQ C a p g none = kRt p (pE C a p g) := nr
@[simp high] theorem r_ret : pS C tk (.ret a) p g = kRtQ C a p g (retO a p) := by rw [pS_ret]; cases retO a p <;> rfl
noncomputable def kIf (C : PCl) (tk : List Nat) (xs ys : List S) (p : PEn) (r : PR Bool) : PSR := r.sr p fun k g => if k = true then pSs C tk xs p g else pSs C tk ys p g
@[simp] theorem kIf_ok {k : Bool} : kIf C tk xs ys p (.ok k g) = if k = true then pSs C tk xs p g else pSs C tk ys p g := nr
@[simp] theorem kIf_ex : kIf C tk xs ys p (.exc ex g) = .exc ex p g := nr
@[simp high] theorem r_iff : pS C tk (.iff a xs ys) p g = kIf C tk xs ys p (pT C a p g) := pS_iff
noncomputable def kFo (C : PCl) (tk : List Nat) (ok : Bool) (t : Tg) (k : IK) (ls : List Nat) (xs : List S) (p : PEn) (r : PR (List D)) : PSR := r.sr p fun vs g => forQ ok t (fun p g => pSs C tk xs p g) (srcP k vs) (fun ys => lockP ys ls p) g
@[simp] theorem kFo_ok {o : Bool} {t : Tg} {k : IK} {ls : List Nat} {vs : List D} : kFo C tk o t k ls xs p (.ok vs g) = forQ o t (fun p g => pSs C tk xs p g) (srcP k vs) (fun ys => lockP ys ls p) g := nr
@[simp] theorem kFo_ex {o : Bool} {t : Tg} {k : IK} {ls : List Nat} : kFo C tk o t k ls xs p (.exc ex g) = .exc ex p g := nr
noncomputable def kFoQ (C : PCl) (tk : List Nat) (t : Tg) (k : IK) (es : List E) (xs : List S) (p : PEn) (g : GS) (q : Option E) : PSR := forL q C t (fun p g => pSs C tk xs p g) p g (kFo C tk (disj (leaks es) (mutds xs)) t k (leaks es) xs p (pEs C es p g))
@[simp] theorem kFoQ_n {t : Tg} {k : IK} : kFoQ C tk t k es xs p g none = kFo C tk (disj (leaks es) (mutds xs)) t k (leaks es) xs p (pEs C es p g) := nr
@[simp high] theorem r_for {t : Tg} {k : IK} : pS C tk (.for_ t k es xs) p g = kFoQ C tk t k es xs p g (lstOf k es) := pS_for
@[simp high] theorem r_whl : pS C tk (.whl a xs) p g = loop .bad (whileTurnP C a (fun p g => pSs C tk xs p g)) 0 (p, g) := pS_whl
def kSf (cs : List Str) (f : Str) (j : Nat) (ls : List Nat) (p : PEn) (r : PR (D × Bool)) : PSR := r.sr p fun v g => setFP cs f j v.1 (holdP v.1 v.2 ls p) g
@[simp] theorem kSf_ok {cs : List Str} {f : Str} {j : Nat} {ls : List Nat} : kSf cs f j ls p (.ok (x, fr) g) = setFP cs f j x (holdP x fr ls p) g := nr
@[simp high] theorem r_setFld {cs : List Str} {f : Str} {j : Nat} : pS C tk (.setFld cs (.var j) f a) p g = if ownI p j = true then kSf cs f j (leak a) p (pE C a p g) else .bad := pS_setFld
@[simp] theorem disj_nil {ys : List Nat} : disj [] ys = true := nr
@[simp] theorem disj_cons {n : Nat} {ns ys : List Nat} : disj (n :: ns) ys = (!ys.contains n && disj ns ys) := nr
@[simp] theorem atI_6 {α : Type} {xs : List α} : L2.atI xs 6 = xs[6]? := atI_lit (n := 6)
@[simp] theorem atI_7 {α : Type} {xs : List α} : L2.atI xs 7 = xs[7]? := atI_lit (n := 7)
@[simp] theorem atI_8 {α : Type} {xs : List α} : L2.atI xs 8 = xs[8]? := atI_lit (n := 8)
@[simp] theorem atI_9 {α : Type} {xs : List α} : L2.atI xs 9 = xs[9]? := atI_lit (n := 9)
@[simp] theorem atI_10 {α : Type} {xs : List α} : L2.atI xs 10 = xs[10]? := atI_lit (n := 10)
@[simp] theorem atI_11 {α : Type} {xs : List α} : L2.atI xs 11 = xs[11]? := atI_lit (n := 11)
@[simp] theorem atI_12 {α : Type} {xs : List α} : L2.atI xs 12 = xs[12]? := atI_lit (n := 12)
@[simp] theorem atI_13 {α : Type} {xs : List α} : L2.atI xs 13 = xs[13]? := atI_lit (n := 13)
end
end MQ
end
section
set_option Elab.async false
set_option linter.all false
set_option maxRecDepth 100000
set_option maxHeartbeats 4000000
/-! MX, part ll: the laws' own drawn facts of registers and slots, and what holds of them. -/
namespace MQ
open PySem MP
/-! ### words -/
def wdB (fd : Nat) : List S := [.asg (.nm 1) (.call fd [.var 0, .lit (.int 4)]),
    .iff (.cmp .eq (.var 1) (.lit (.int 0))) [.ret (.call fd [.var 0, .lit (.int 65536)])] [],
    .iff (.cmp .eq (.var 1) (.lit (.int 1))) [.ret (.ix (.lst [.lit (.int 0), .lit (.int 1), .lit (.int 255), .lit (.int 256), .lit (.int 32768), .lit (.int 64511), .lit (.int 64512), .lit (.int 65535)]) (.call fd [.var 0, .lit (.int 8)]))] [],
    .ret (.call fd [.var 0, .lit (.int 6)])]
theorem atI_in {xs : List Int} {i : Int} (h0 : 0 ≤ i) (h1 : i < xs.length) : ∃ v ∈ xs, L2.atI (xs.map D.int) i = some (.int v) := by
  have hl : i.toNat < xs.length := by omega
  refine ⟨xs[i.toNat], List.getElem_mem hl, ?_⟩
  rw [atI_pos h0, List.getElem?_map, List.getElem?_eq_getElem hl]
  rfl
/-- a word of a list of eight -/
def hv (held : List Int) (i : Int) : Int := held.getD i.toNat 0
theorem at_hv {held : List Int} {i : Int} (h0 : 0 ≤ i) (h1 : i < held.length) : L2.atI (held.map D.int) i = some (.int (hv held i)) := by
  have hl : i.toNat < held.length := by omega
  rw [atI_pos h0, List.getElem?_map, List.getElem?_eq_getElem hl]
  unfold hv
  rw [List.getD_eq_getElem?_getD, List.getElem?_eq_getElem hl]
  rfl
theorem hv_mem {held : List Int} {i : Int} (h0 : 0 ≤ i) (h1 : i < held.length) : hv held i ∈ held := by
  have hl : i.toNat < held.length := by omega
  unfold hv
  rw [List.getD_eq_getElem?_getD, List.getElem?_eq_getElem hl]
  exact List.getElem_mem hl
structure Eight (held : List Int) : Prop where
  len : held.length = 8
  rg : ∀ x ∈ held, 0 ≤ x ∧ x < 65536
theorem Eight.at {held : List Int} (h : Eight held) {i : Int} (h0 : 0 ≤ i) (h1 : i < 8) : L2.atI (held.map D.int) i = some (.int (hv held i)) := at_hv h0 (by rw [h.len]; exact h1)
theorem Eight.b {held : List Int} (h : Eight held) {i : Int} (h0 : 0 ≤ i) (h1 : i < 8) : 0 ≤ hv held i ∧ hv held i < 65536 := h.rg _ (hv_mem h0 (by rw [h.len]; exact h1))
/-! ### tests -/
def tstV (o : Nat) (l r : Int) : Bool := match o with
  | 0 => decide (l < r)
  | 1 => decide ((l + 32768) % 65536 < (r + 32768) % 65536)
  | _ => decide (l = r)
def cmbV (o : Nat) (l r : Int) : Int := if tstV o l r = true then 1 else 0
def cmbB (fb fw : Nat) : List S := [.iff (.cmp .eq (.var 0) (.lit (.int 0))) [.ret (.bin .mod (.bi .int [.bin .add (.var 1) (.var 2)]) (.lit (.int 65536)))] [],
    .iff (.cmp .eq (.var 0) (.lit (.int 1))) [.ret (.bin .mod (.bi .int [.bin .sub (.var 1) (.var 2)]) (.lit (.int 65536)))] [],
    .iff (.cmp .le (.var 0) (.lit (.int 4))) [.ret (.call fb [.var 0, .var 1, .var 2])] [],
    .iff (.cmp .eq (.var 0) (.lit (.int 5))) [.ret (.bin .mod (.bi .int [.bin .mul (.var 1) (.var 2)]) (.lit (.int 65536)))] [],
    .iff (.cmp .eq (.var 0) (.lit (.int 6))) [.ret (.bin .mod (.bi .int [.bin .mul (.var 1) (.call fw [.bin .mod (.bi .int [.var 2]) (.lit (.int 16))])]) (.lit (.int 65536)))] [],
    .iff (.cmp .eq (.var 0) (.lit (.int 7))) [.ret (.bin .fdiv (.var 1) (.call fw [.bin .mod (.bi .int [.var 2]) (.lit (.int 16))]))] [],
    .iff (.cmp .eq (.var 0) (.lit (.int 8))) [.ret (.bi .int [.cmp .lt (.var 1) (.var 2)])] [],
    .iff (.cmp .eq (.var 0) (.lit (.int 9))) [.ret (.bi .int [.cmp .lt (.bin .mod (.bi .int [.bin .add (.var 1) (.lit (.int 32768))]) (.lit (.int 65536))) (.bin .mod (.bi .int [.bin .add (.var 2) (.lit (.int 32768))]) (.lit (.int 65536)))])] [],
    .ret (.bi .int [.cmp .eq (.var 1) (.var 2)])]
def opS (o : Nat) : Str := match o with
  | 0 => "less"
  | 1 => "below"
  | _ => "same"
section
variable {T : List Fn} {tk : Nat → List Nat} {g : GS}
theorem cmb_ok {f fb fw : Nat} (Dc : Df T tk f (cmbB fb fw) 3 0) {o : Nat} (ho : o < 3) (l r : Int) (d : Nat) : callP T tk (d + 1) f [.int (8 + (o : Int)), .int l, .int r] g = .ok (.int (cmbV o l r), false) g := by
  rw [Dc.call rfl]
  unfold cmbB cmbV
  have m1 : ∀ y : Int, binP .mod (.int y) (.int 65536) = some (.int (y % 65536), false) := fun y => mod_ii (by decide)
  match o, ho with
  | 0, _ => simp (config := {decide := true}) [List.replicate, tstV, m1]
  | 1, _ => simp (config := {decide := true}) [List.replicate, tstV, m1]
  | 2, _ => simp (config := {decide := true}) [List.replicate, tstV, m1]
end
/-! ### facts -/
structure Fa where
  lo : Int
  hi : Int
  og : D
  lk : D
def Fa.enc (f : Fa) : D := .tup [.tup [.int f.lo, .int f.hi], f.og, f.lk]
structure Sl where
  di : Int
  lo : Int
  hi : Int
  og : D
def Sl.enc (s : Sl) : D := .tup [.int s.di, .tup [.int s.lo, .int s.hi], s.og]
def fsE (fs : List Fa) (ss : List Sl) : D := .tup [.tup (fs.map Fa.enc), .tup (ss.map Sl.enc)]
/-- the origin of a value -/
inductive OgOk (ent : List Int) (v : Int) : D → Prop
  | non : OgOk ent v .non
  | some {i : Int} (h0 : 0 ≤ i) (h1 : i < 8) (e : hv ent i = v) : OgOk ent v (.int i)
inductive LkOk (held : List Int) (k : Int) : D → Prop
  | non : LkOk held k .non
  | eq {a : Int} (h0 : 0 ≤ a) (h1 : a < 8) (ne : a ≠ k) (e : hv held a = hv held k) : LkOk held k (.tup [.str "equal", .int a])
  | op {o : Nat} {a b : Int} (ho : o < 3) (h0 : 0 ≤ a) (h1 : a < 8) (h2 : 0 ≤ b) (h3 : b < 8) (na : a ≠ k) (nb : b ≠ k) (e : cmbV o (hv held a) (hv held b) = hv held k) : LkOk held k (.tup [.str (opS o), .int a, .int b])
theorem OgOk.im {ent : List Int} {v : Int} {x : D} (h : OgOk ent v x) : x.im = true := by cases h <;> simp
theorem OgOk.gd {ent : List Int} {v : Int} {x : D} (h : OgOk ent v x) {k : Nat} : x.gd k = true := by cases h <;> simp
theorem opS_ok (o : Nat) : PyData.strOk (opS o) = true := by unfold opS; split <;> exact strOk_lit _
theorem LkOk.im {held : List Int} {v : Int} {x : D} (h : LkOk held v x) : x.im = true := by cases h <;> simp
theorem LkOk.gd {held : List Int} {v : Int} {x : D} (h : LkOk held v x) {k : Nat} : x.gd (k + 1) = true := by cases h <;> simp [opS_ok, strOk_lit]
/-- a fact of register k -/
structure FaOk (held ent : List Int) (k : Int) (f : Fa) : Prop where
  lo : f.lo ≤ hv held k
  hi : hv held k ≤ f.hi
  l0 : 0 ≤ f.lo
  h0 : f.hi ≤ 65535
  og : OgOk ent (hv held k) f.og
  lk : LkOk held k f.lk
structure SlOk (W : Int → Int) (ent : List Int) (s : Sl) : Prop where
  lo : s.lo ≤ W (65536 - s.di)
  hi : W (65536 - s.di) ≤ s.hi
  l0 : 0 ≤ s.lo
  h0 : s.hi ≤ 65535
  og : OgOk ent (W (65536 - s.di)) s.og
structure FsOk (held ent : List Int) (W : Int → Int) (fs : List Fa) (ss : List Sl) : Prop where
  len : fs.length = 8
  fa : ∀ (k : Nat) (f : Fa), fs[k]? = some f → FaOk held ent (k : Int) f
  sl : ∀ s ∈ ss, SlOk W ent s
/-- the words of a dict -/
structure WdOk (ks : List L2.Key) (xs : List D) (W : Int → Int) : Prop where
  get : ∀ k : Int, ((kIx ks (.inl k)).bind fun i => xs[i]?).getD (.int 0) = .int (W k)
  rg : ∀ k, 0 ≤ W k ∧ W k < 65536
  im : Ds.im xs = true
section
variable {ns : List Int} {G : GS} {K : Nat} {T : List Fn} {tk : Nat → List Nat} {fd : Nat}
theorem word_ok (hK : K < G.length) (Dd : Df T tk fd drB 2 4) {f : Nat} (Dw : Df T tk f (wdB fd) 1 1) (d : Nat) (t : Int × Nat × Int) : ∃ (v : Int) (t' : Int × Nat × Int), callP T tk (d + 2) f [.tok K] (sG G K ns t) = .ok (.int v, false) (sG G K ns t') ∧ 0 ≤ v ∧ v < 65536 := by
  have q := fun t m hm => Dd.drawG (ns := ns) hK d t m hm
  have q4 := q t 4 (by decide)
  have c4 : 0 ≤ dV ns 4 t ∧ dV ns 4 t < 4 := ⟨dV_lo (by decide), dV_hi (by decide)⟩
  rw [Dw.call rfl]
  generalize dV ns 4 t = v4 at *
  generalize dT ns 4 t = t1 at *
  by_cases h0 : v4 = 0
  · have q5 := q t1 65536 (by decide)
    refine ⟨dV ns 65536 t1, dT ns 65536 t1, ?_, dV_lo (by decide), dV_hi (by decide)⟩
    unfold wdB
    simp (config := {decide := true}) [List.replicate, q4, h0, q5]
  · by_cases h1 : v4 = 1
    · have q5 := q t1 8 (by decide)
      obtain ⟨v, hv, ev⟩ := atI_in (xs := [0, 1, 255, 256, 32768, 64511, 64512, 65535]) (i := dV ns 8 t1) (dV_lo (by decide)) (dV_hi (by decide))
      have ev2 : L2.atI [D.int 0, .int 1, .int 255, .int 256, .int 32768, .int 64511, .int 64512, .int 65535] (dV ns 8 t1) = some (.int v) := ev
      have hb : 0 ≤ v ∧ v < 65536 := by
        simp only [List.mem_cons, List.not_mem_nil, or_false] at hv
        omega
      refine ⟨v, dT ns 8 t1, ?_, hb⟩
      unfold wdB
      simp (config := {decide := true}) [List.replicate, q4, h1, q5, lstQ_ok, ev2]
    · have q5 := q t1 6 (by decide)
      have c6 : 0 ≤ dV ns 6 t1 ∧ dV ns 6 t1 < 6 := ⟨dV_lo (by decide), dV_hi (by decide)⟩
      refine ⟨dV ns 6 t1, dT ns 6 t1, ?_, by omega, by omega⟩
      unfold wdB
      simp (config := {decide := true}) [List.replicate, q4, h0, h1, q5]
/-! around -/
def arB (fd : Nat) : List S := [.asg (.nm 2) (.ix (.lst [.var 1, .lit (.int 0), .bi .max2 [.lit (.int 0), .bin .sub (.var 1) (.lit (.int 1))], .bin .fdiv (.var 1) (.lit (.int 2))]) (.call fd [.var 0, .lit (.int 4)])),
    .asg (.nm 3) (.ix (.lst [.var 1, .lit (.int 65535), .bi .min2 [.lit (.int 65535), .bin .add (.var 1) (.lit (.int 1))], .bi .min2 [.lit (.int 65535), .bin .add (.bin .mul (.lit (.int 2)) (.var 1)) (.lit (.int 5))]]) (.call fd [.var 0, .lit (.int 4)])),
    .ret (.tup [.var 2, .var 3])]
theorem around_ok (hK : K < G.length) (Dd : Df T tk fd drB 2 4) {f : Nat} (Da : Df T tk f (arB fd) 2 2) (d : Nat) (t : Int × Nat × Int) (v : Int) (hv : 0 ≤ v ∧ v < 65536) : ∃ (lo hi : Int) (t' : Int × Nat × Int), callP T tk (d + 2) f [.tok K, .int v] (sG G K ns t) = .ok (.tup [.int lo, .int hi], false) (sG G K ns t') ∧ (lo ≤ v ∧ v ≤ hi) ∧ 0 ≤ lo ∧ hi ≤ 65535 := by
  have q := fun t m hm => Dd.drawG (ns := ns) hK d t m hm
  have q4 := q t 4 (by decide)
  have c4 : 0 ≤ dV ns 4 t ∧ dV ns 4 t < 4 := ⟨dV_lo (by decide), dV_hi (by decide)⟩
  rw [Da.call rfl]
  generalize dV ns 4 t = v4 at *
  generalize dT ns 4 t = t1 at *
  have q5 := q t1 4 (by decide)
  have c5 : 0 ≤ dV ns 4 t1 ∧ dV ns 4 t1 < 4 := ⟨dV_lo (by decide), dV_hi (by decide)⟩
  generalize dV ns 4 t1 = v5 at *
  generalize dT ns 4 t1 = t2 at *
  have b1 : ∃ a, (if (v - 1 : Int) > 0 then v - 1 else 0) = a ∧ 0 ≤ a ∧ a ≤ v := ⟨_, rfl, by split <;> omega, by split <;> omega⟩
  obtain ⟨a, ea, a0, a1⟩ := b1
  have b2 : ∃ a, (if (v + 1 : Int) < 65535 then v + 1 else 65535) = a ∧ v ≤ a ∧ a ≤ 65535 := ⟨_, rfl, by split <;> omega, by split <;> omega⟩
  obtain ⟨b, eb, b0, b1⟩ := b2
  have b3 : ∃ a, (if (2 * v + 5 : Int) < 65535 then 2 * v + 5 else 65535) = a ∧ v ≤ a ∧ a ≤ 65535 := ⟨_, rfl, by split <;> omega, by split <;> omega⟩
  obtain ⟨c, ec, c0, c1⟩ := b3
  obtain ⟨lo, hl, e1⟩ := atI_in (xs := [v, 0, a, v / 2]) (i := v4) c4.1 c4.2
  obtain ⟨hi, hh, e2⟩ := atI_in (xs := [v, 65535, b, c]) (i := v5) c5.1 c5.2
  have e1 : L2.atI [D.int v, .int 0, .int a, .int (v / 2)] v4 = some (.int lo) := e1
  have e2 : L2.atI [D.int v, .int 65535, .int b, .int c] v5 = some (.int hi) := e2
  have hl : lo ≤ v ∧ 0 ≤ lo := by simp only [List.mem_cons, List.not_mem_nil, or_false] at hl; omega
  have hh : v ≤ hi ∧ hi ≤ 65535 := by simp only [List.mem_cons, List.not_mem_nil, or_false] at hh; omega
  have m1 : binP .mul (.int 2) (.int v) = some (.int (2 * v), false) := mul_l (by decide) (by decide)
  have m2 : binP .fdiv (.int v) (.int 2) = some (.int (v / 2), false) := fdiv_ii (by decide) (by decide)
  have x1 : biP .max2 [.int 0, .int (v - 1)] (sG G K ns t) = some (.int a, false) := by rw [bi_max2, ea]
  have x2 : biP .min2 [.int 65535, .int (v + 1)] (sG G K ns t1) = some (.int b, false) := by rw [bi_min2, eb]
  have x3 : biP .min2 [.int 65535, .int (2 * v + 5)] (sG G K ns t1) = some (.int c, false) := by rw [bi_min2, ec]
  refine ⟨lo, hi, t2, ?_, ⟨hl.1, hh.1⟩, hl.2, hh.2⟩
  unfold arB
  simp (config := {decide := true}) [List.replicate, q4, q5, m1, m2, x1, x2, x3, lstQ_ok, e1, e2, -bi_max2, -bi_min2]
/-! origins -/
def ogX0 : E := .cmp .eq (.ix (.var 2) (.var 4)) (.var 1)
def ogX1 : E := .var 4
@[simp] theorem l_ogX1 : leak ogX1 = [4] := rfl
def ogB (fd : Nat) : List S := [.asg (.nm 3) (.compIf [4] (.nm 4) .rng1 [.lit (.int 8)] ogX0 ogX1),
    .iff (.and (.cmp .gt (.bi .len [.var 3]) (.lit (.int 0))) (.cmp .gt (.call fd [.var 0, .lit (.int 3)]) (.lit (.int 0)))) [.ret (.ix (.var 3) (.call fd [.var 0, .bi .len [.var 3]]))] [],
    .ret (.lit .non)]
theorem origin_ok (hK : K < G.length) (Dd : Df T tk fd drB 2 4) {f : Nat} (Do : Df T tk f (ogB fd) 3 2) (d : Nat) (t : Int × Nat × Int) (v : Int) {ent : List Int} (he : Eight ent) : ∃ (x : D) (t' : Int × Nat × Int), callP T tk (d + 2) f [.tok K, .int v, .lst (ent.map .int)] (sG G K ns t) = .ok (x, false) (sG G K ns t') ∧ OgOk ent v x := by
  have q := fun t m hm => Dd.drawG (ns := ns) hK d t m hm
  rw [Do.call rfl]
  have r8 : rngD 0 8 = ([0, 1, 2, 3, 4, 5, 6, 7] : List Int).map D.int := rfl
  have cc := compP_typ (t := .nm 4) (p := [some (.tok K, false), some (.int v, false), some (.lst (ent.map .int), false), none, none]) (tst := fun p g => kT (pE (callP T tk (d + 1)) ogX0 p g)) (elt := fun p g => pE (callP T tk (d + 1)) ogX1 p g) (g := sG G K ns t) D.int (fun i => decide (hv ent i = v)) D.int [0, 1, 2, 3, 4, 5, 6, 7] [] (by decide) fun i m => by
    have hi : 0 ≤ i ∧ i < 8 := by simp only [List.mem_cons, List.not_mem_nil, or_false] at m; omega
    have ha := he.at hi.1 hi.2
    refine ⟨_, false, rfl, ?_, fun _ => ?_⟩
    · unfold ogX0
      simp [ha]
    · unfold ogX1
      simp
  rw [List.nil_append, ← r8] at cc
  generalize hF : List.filter (fun i => decide (hv ent i = v)) [0, 1, 2, 3, 4, 5, 6, 7] = F at cc
  have hFm : ∀ i ∈ F, (0 ≤ i ∧ i < 8) ∧ hv ent i = v := fun i m => by
    rw [← hF, List.mem_filter] at m
    have m1 := m.1
    simp only [List.mem_cons, List.not_mem_nil, or_false] at m1
    exact ⟨by omega, by simpa using m.2⟩
  have hFl : F.length ≤ 8 := by rw [← hF]; exact List.length_filter_le _ _
  have sr := src_rng1 (j := 8) (by decide) (by decide)
  have sr : srcP .rng1 [.int 8] = some (rngD 0 8) := sr
  have st : pSs (callP T tk (d + 1)) [] ((ogB fd).take 1) [some (.tok K, false), some (.int v, false), some (.lst (ent.map .int), false), none, none] (sG G K ns t) = .nx [some (.tok K, false), some (.int v, false), some (.lst (ent.map .int), false), some (.lst (F.map .int), true), none] (sG G K ns t) := by
    unfold ogB
    simp [sr, compQ, okW, cc]
  have st' : pSs (callP T tk (d + 1)) [] ((ogB fd).take 1) ([D.tok K, .int v, .lst (ent.map .int)].map (fun x => some (x, false)) ++ List.replicate (3 + 2 - 3) none) (sG G K ns t) = _ := st
  have cut : ogB fd = (ogB fd).take 1 ++ (ogB fd).drop 1 := rfl
  rw [cut, run_appP]
  by_cases h0 : F = []
  · subst h0
    refine ⟨.non, t, ?_, .non⟩
    refine (congrArg (fun z => PSR.res (PSR.seq z _)) st').trans ?_
    rw [PSR.seq_nx]
    unfold ogB
    simp
  · have hp : 0 < F.length := List.length_pos_iff.mpr h0
    have q3 := q t 3 (by decide)
    generalize dV ns 3 t = v3 at *
    generalize dT ns 3 t = t1 at *
    by_cases h3 : 0 < v3
    · have q4 := q t1 (F.length : Int) (by omega)
      obtain ⟨x, hx, ex⟩ := atI_in (xs := F) (i := dV ns (F.length : Int) t1) (dV_lo (by omega)) (dV_hi (by omega))
      refine ⟨.int x, dT ns (F.length : Int) t1, ?_, .some (hFm x hx).1.1 (hFm x hx).1.2 (hFm x hx).2⟩
      refine (congrArg (fun z => PSR.res (PSR.seq z _)) st').trans ?_
      rw [PSR.seq_nx]
      unfold ogB
      simp [hp, q3, h3, q4, ex]
    · refine ⟨.non, t1, ?_, .non⟩
      refine (congrArg (fun z => PSR.res (PSR.seq z _)) st').trans ?_
      rw [PSR.seq_nx]
      unfold ogB
      simp [hp, q3, h3]
/-! links -/
def lkB (fd fc : Nat) : List S := [.asg (.nm 3) (.call fd [.var 0, .lit (.int 8)]),
    .asg (.nm 4) (.call fd [.var 0, .lit (.int 8)]),
    .asg (.nm 5) (.bin .add (.lit (.int 8)) (.call fd [.var 0, .lit (.int 3)])),
    .iff (.and (.cmp .ne (.var 3) (.var 2)) (.and (.cmp .eq (.ix (.var 1) (.var 3)) (.ix (.var 1) (.var 2))) (.cmp .eq (.call fd [.var 0, .lit (.int 2)]) (.lit (.int 1))))) [.ret (.tup [.lit (.str "equal"), .var 3])] [],
    .iff (.and (.cmp .ne (.var 3) (.var 2)) (.and (.cmp .ne (.var 4) (.var 2)) (.cmp .eq (.call fc [.var 5, .ix (.var 1) (.var 3), .ix (.var 1) (.var 4)]) (.ix (.var 1) (.var 2))))) [.ret (.tup [.ix (.lst [.lit (.str "less"), .lit (.str "below"), .lit (.str "same")]) (.bin .sub (.var 5) (.lit (.int 8))), .var 3, .var 4])] [],
    .ret (.lit .non)]
theorem opS_at {o : Nat} (ho : o < 3) : L2.atI [D.str "less", .str "below", .str "same"] ((8 : Int) + o - 8) = some (.str (opS o)) := by
  match o, ho with
  | 0, _ => rfl
  | 1, _ => rfl
  | 2, _ => rfl
theorem link_ok (hK : K < G.length) (Dd : Df T tk fd drB 2 4) {f fc fb fw : Nat} (Dc : Df T tk fc (cmbB fb fw) 3 0) (Dl : Df T tk f (lkB fd fc) 3 3) (d : Nat) (t : Int × Nat × Int) (k : Int) (hk : 0 ≤ k ∧ k < 8) {held : List Int} (he : Eight held) : ∃ (x : D) (t' : Int × Nat × Int), callP T tk (d + 2) f [.tok K, .lst (held.map .int), .int k] (sG G K ns t) = .ok (x, false) (sG G K ns t') ∧ LkOk held k x := by
  have q := fun t m hm => Dd.drawG (ns := ns) hK d t m hm
  rw [Dl.call rfl]
  have q1 := q t 8 (by decide)
  have c1 : 0 ≤ dV ns 8 t ∧ dV ns 8 t < 8 := ⟨dV_lo (by decide), dV_hi (by decide)⟩
  generalize dV ns 8 t = a at *
  generalize dT ns 8 t = t1 at *
  have q2 := q t1 8 (by decide)
  have c2 : 0 ≤ dV ns 8 t1 ∧ dV ns 8 t1 < 8 := ⟨dV_lo (by decide), dV_hi (by decide)⟩
  generalize dV ns 8 t1 = b at *
  generalize dT ns 8 t1 = t2 at *
  have q3 := q t2 3 (by decide)
  have c3 : 0 ≤ dV ns 3 t2 ∧ dV ns 3 t2 < 3 := ⟨dV_lo (by decide), dV_hi (by decide)⟩
  obtain ⟨o, eo⟩ : ∃ o : Nat, dV ns 3 t2 = (o : Int) := ⟨(dV ns 3 t2).toNat, by omega⟩
  rw [eo] at q3 c3
  have ho : o < 3 := by omega
  generalize dT ns 3 t2 = t3 at *
  have ha := he.at c1.1 c1.2
  have hb := he.at c2.1 c2.2
  have hkk := he.at hk.1 hk.2
  have eop := opS_at ho
  have qc := fun t => cmb_ok (g := sG G K ns t) Dc ho (hv held a) (hv held b) d
  generalize hop : ((8 : Int) + (o : Int)) = op at *
  have im := ims_ints (xs := held)
  generalize held.map D.int = H at *
  have st : pSs (callP T tk (d + 1)) [] ((lkB fd fc).take 3) [some (.tok K, false), some (.lst H, false), some (.int k, false), none, none, none] (sG G K ns t) = .nx [some (.tok K, false), some (.lst H, false), some (.int k, false), some (.int a, false), some (.int b, false), some (.int op, false)] (sG G K ns t3) := by
    unfold lkB
    simp [q1, q2, q3, hop]
  have p2 : ∀ t', ∃ x, pSs (callP T tk (d + 1)) [] ((lkB fd fc).drop 4) [some (.tok K, false), some (.lst H, false), some (.int k, false), some (.int a, false), some (.int b, false), some (.int op, false)] (sG G K ns t') = .rt x false (sG G K ns t') ∧ LkOk held k x := by
    intro t'
    have qc := qc t'
    by_cases h1 : a = k
    · refine ⟨.non, ?_, .non⟩
      unfold lkB
      simp [h1]
    · by_cases h2 : b = k
      · refine ⟨.non, ?_, .non⟩
        unfold lkB
        simp [h1, h2]
      · by_cases h3 : cmbV o (hv held a) (hv held b) = hv held k
        · refine ⟨_, ?_, .op ho c1.1 c1.2 c2.1 c2.2 h1 h2 h3⟩
          unfold lkB
          simp [h1, h2, h3, ha, hb, hkk, qc, eop, lstQ_ok]
        · refine ⟨.non, ?_, .non⟩
          unfold lkB
          simp [h1, h2, h3, ha, hb, hkk, qc]
  have p1 : ∃ t' , (∃ x, pS (callP T tk (d + 1)) [] (.iff (.and (.cmp .ne (.var 3) (.var 2)) (.and (.cmp .eq (.ix (.var 1) (.var 3)) (.ix (.var 1) (.var 2))) (.cmp .eq (.call fd [.var 0, .lit (.int 2)]) (.lit (.int 1))))) [.ret (.tup [.lit (.str "equal"), .var 3])] []) [some (.tok K, false), some (.lst H, false), some (.int k, false), some (.int a, false), some (.int b, false), some (.int op, false)] (sG G K ns t3) = .rt x false (sG G K ns t') ∧ LkOk held k x) ∨ pS (callP T tk (d + 1)) [] (.iff (.and (.cmp .ne (.var 3) (.var 2)) (.and (.cmp .eq (.ix (.var 1) (.var 3)) (.ix (.var 1) (.var 2))) (.cmp .eq (.call fd [.var 0, .lit (.int 2)]) (.lit (.int 1))))) [.ret (.tup [.lit (.str "equal"), .var 3])] []) [some (.tok K, false), some (.lst H, false), some (.int k, false), some (.int a, false), some (.int b, false), some (.int op, false)] (sG G K ns t3) = .nx [some (.tok K, false), some (.lst H, false), some (.int k, false), some (.int a, false), some (.int b, false), some (.int op, false)] (sG G K ns t') := by
    by_cases h1 : a = k
    · exact ⟨t3, .inr (by simp [h1])⟩
    · by_cases h2 : hv held a = hv held k
      · have q4 := q t3 2 (by decide)
        generalize dV ns 2 t3 = v2 at *
        generalize dT ns 2 t3 = t4 at *
        by_cases h3 : v2 = 1
        · exact ⟨t4, .inl ⟨_, by simp [h1, h2, ha, hkk, q4, h3], .eq c1.1 c1.2 h1 h2⟩⟩
        · exact ⟨t4, .inr (by simp [h1, h2, ha, hkk, q4, h3])⟩
      · exact ⟨t3, .inr (by simp [h1, h2, ha, hkk])⟩
  have cut : lkB fd fc = (lkB fd fc).take 3 ++ (lkB fd fc).drop 3 := rfl
  obtain ⟨t', p1⟩ := p1
  have st' : pSs (callP T tk (d + 1)) [] ((lkB fd fc).take 3) ([D.tok K, .lst H, .int k].map (fun x => some (x, false)) ++ List.replicate (3 + 3 - 3) none) (sG G K ns t) = _ := st
  have e2 : (lkB fd fc).drop 3 = .iff (.and (.cmp .ne (.var 3) (.var 2)) (.and (.cmp .eq (.ix (.var 1) (.var 3)) (.ix (.var 1) (.var 2))) (.cmp .eq (.call fd [.var 0, .lit (.int 2)]) (.lit (.int 1))))) [.ret (.tup [.lit (.str "equal"), .var 3])] [] :: (lkB fd fc).drop 4 := rfl
  rcases p1 with ⟨x, p1, hx⟩ | p1
  · refine ⟨x, t', ?_, hx⟩
    rw [cut, run_appP]
    refine (congrArg (fun z => PSR.res (PSR.seq z _)) st').trans ?_
    rw [PSR.seq_nx, e2, pSs_cons, p1]
    rfl
  · obtain ⟨x, p2, hx⟩ := p2 t'
    refine ⟨x, t', ?_, hx⟩
    rw [cut, run_appP]
    refine (congrArg (fun z => PSR.res (PSR.seq z _)) st').trans ?_
    rw [PSR.seq_nx, e2, pSs_cons, p1, PSR.seq_nx, p2]
    rfl
end
end MQ
end
section
set_option Elab.async false
set_option linter.all false
set_option maxRecDepth 100000
set_option maxHeartbeats 4000000
/-! MX, part mm: the laws' own facts, states and what fits. -/
namespace MQ
open PySem MP
/-! ### facts -/
def ftW0 (fa fo fl : Nat) : List S := [.expr (.mt .append (.var 5) [.tup [.call fa [.var 0, .ix (.var 1) (.var 6)], .call fo [.var 0, .ix (.var 1) (.var 6), .var 2], .call fl [.var 0, .var 1, .var 6]]])]
def ftW1 (fd fa fo : Nat) (mx : Int) : List S := [.iff (.and (.cmp .eq (.call fd [.var 0, .lit (.int 3)]) (.lit (.int 1))) (.cmp .lt (.bi .len [.var 7]) (.lit (.int mx)))) [.asg (.nm 9) (.dget2 (.var 3) (.bin .sub (.lit (.int 65536)) (.var 8)) (.lit (.int 0))), .expr (.mt .append (.var 7) [.tup [.var 8, .call fa [.var 0, .var 9], .call fo [.var 0, .var 9, .var 2]]])] []]
@[simp] theorem m_ftW0 {fa fo fl : Nat} : mutds (ftW0 fa fo fl) = [5] := rfl
@[simp] theorem m_ftW1 {fd fa fo : Nat} {mx : Int} : mutds (ftW1 fd fa fo mx) = [7] := rfl
def ftB (fd fa fo fl : Nat) (mx ex : Int) : List S := [.asg (.nm 5) (.lst []),
    .for_ (.nm 6) .rng1 [.lit (.int 8)] (ftW0 fa fo fl),
    .asg (.nm 7) (.lst []),
    .for_ (.nm 8) .rng2 [.lit (.int 1), .bin .add (.var 4) (.lit (.int ex))] (ftW1 fd fa fo mx),
    .ret (.tup [.bi .tuple [.var 5], .bi .tuple [.var 7]])]
theorem rng_at {lo : Int} {n k : Nat} {v : D} (h : (rngD lo n)[k]? = some v) : k < n ∧ v = .int (lo + k) := by
  have h1 : k < n := by
    have := (List.getElem?_eq_some_iff.mp h).1
    rwa [rngD_length] at this
  have h2 : ((List.range n).map fun (k : Nat) => D.int (lo + (k : Int)))[k]? = some v := h
  rw [List.getElem?_map, List.getElem?_range h1] at h2
  exact ⟨h1, (Option.some.inj h2).symm⟩
theorem wd_get {ks : List L2.Key} {xs : List D} {W : Int → Int} (h : WdOk ks xs W) (k : Int) : ((dGetP (.dct ks xs) (.int k)).map fun o => (o.getD (.int 0), false)) = some (.int (W k), false) := by
  rw [dget_d, key_int]
  simp only [Option.map_some]
  rw [h.get k]
theorem fa_im {held ent : List Int} {k : Int} {f : Fa} (h : FaOk held ent k f) : f.enc.im = true := by
  simp [Fa.enc, h.og.im, h.lk.im]
theorem sl_im {W : Int → Int} {ent : List Int} {s : Sl} (h : SlOk W ent s) : s.enc.im = true := by
  simp [Sl.enc, h.og.im]
theorem fs_im {held ent : List Int} {W : Int → Int} {fs : List Fa} {ss : List Sl} (h : FsOk held ent W fs ss) : Ds.im (fs.map Fa.enc) = true ∧ Ds.im (ss.map Sl.enc) = true := by
  constructor
  · refine ims_of fun x m => ?_
    obtain ⟨f, hf, rfl⟩ := List.mem_map.mp m
    obtain ⟨k, hk, e⟩ := List.getElem_of_mem hf
    exact fa_im (h.fa k f (by rw [List.getElem?_eq_getElem hk, e]))
  · refine ims_of fun x m => ?_
    obtain ⟨s, hs, rfl⟩ := List.mem_map.mp m
    exact sl_im (h.sl s hs)
theorem fs_gd {held ent : List Int} {W : Int → Int} {fs : List Fa} {ss : List Sl} (h : FsOk held ent W fs ss) : (fsE fs ss).gd 10 = true := by
  unfold fsE
  rw [gd_tup, gds_cons, gds_cons, gds_nil, gd_tup, gd_tup, Bool.and_true, Bool.and_eq_true]
  constructor
  · refine gds_of fun x m => ?_
    obtain ⟨f, hf, rfl⟩ := List.mem_map.mp m
    obtain ⟨k, hk, e⟩ := List.getElem_of_mem hf
    have q := h.fa k f (by rw [List.getElem?_eq_getElem hk, e])
    simp [Fa.enc, q.og.gd, q.lk.gd]
  · refine gds_of fun x m => ?_
    obtain ⟨s, hs, rfl⟩ := List.mem_map.mp m
    have q := h.sl s hs
    simp [Sl.enc, q.og.gd]
section
variable {ns : List Int} {G : GS} {K : Nat} {T : List Fn} {tk : Nat → List Nat} {fd fa fo fl fc fb fw : Nat}
theorem facts_ok (hK : K < G.length) (Dd : Df T tk fd drB 2 4) (Da : Df T tk fa (arB fd) 2 2) (Do : Df T tk fo (ogB fd) 3 2) (Dc : Df T tk fc (cmbB fb fw) 3 0) (Dl : Df T tk fl (lkB fd fc) 3 3) {f : Nat} {mx ex : Int} (Df' : Df T tk f (ftB fd fa fo fl mx ex) 5 5) (hmx : mx < 100) (d : Nat) (t : Int × Nat × Int)
    {held ent : List Int} (he : Eight held) (hn : Eight ent) {ks : List L2.Key} {xs : List D} {W : Int → Int} (hw : WdOk ks xs W) (h : Int) (hh : 0 ≤ h + ex - 1 ∧ h + ex < 100) :
    ∃ (fs : List Fa) (ss : List Sl) (t' : Int × Nat × Int), callP T tk (d + 3) f [.tok K, .lst (held.map .int), .lst (ent.map .int), .dct ks xs, .int h] (sG G K ns t) = .ok (fsE fs ss, false) (sG G K ns t') ∧ FsOk held ent W fs ss ∧ ss.length ≤ 100 ∧ (ss.map Sl.di).Pairwise (· < ·) := by
  rw [Df'.call rfl]
  obtain ⟨p1, g1, l1, t1, fs, e6, rfl, rfl, a1, a2⟩ := forP_inv (t := .nm 6) (b := fun p g => pSs (callP T tk (d + 2)) [] (ftW0 fa fo fl) p g)
    (fun i p g => ∃ (t : Int × Nat × Int) (fs : List Fa) (e6 : Option (D × Bool)), p = [some (.tok K, false), some (.lst (held.map .int), false), some (.lst (ent.map .int), false), some (.dct ks xs, false), some (.int h, false), some (.lst (fs.map Fa.enc), true), e6, none, none, none] ∧ g = sG G K ns t ∧ fs.length = i ∧ ∀ (k : Nat) f, fs[k]? = some f → FaOk held ent k f) (rngD 0 8) 0
    [some (.tok K, false), some (.lst (held.map .int), false), some (.lst (ent.map .int), false), some (.dct ks xs, false), some (.int h, false), some (.lst [], true), none, none, none, none] (sG G K ns t) ⟨t, [], none, rfl, rfl, rfl, (fun k f q => by cases q)⟩ (by
      intro k v p g hk hI
      obtain ⟨t, fs, e6, rfl, rfl, a1, a2⟩ := hI
      obtain ⟨hk8, rfl⟩ := rng_at hk
      have hb : 0 ≤ (0 + (k : Int)) ∧ (0 + (k : Int)) < 8 := by omega
      have ha := he.at hb.1 hb.2
      have hvb := he.b hb.1 hb.2
      obtain ⟨lo, hi, t1, q1, b1, b2⟩ := around_ok (ns := ns) hK Dd Da d t _ hvb
      obtain ⟨og, t2, q2, b3⟩ := origin_ok (ns := ns) hK Dd Do d t1 (hv held (0 + (k : Int))) hn
      obtain ⟨lk, t3, q3, b4⟩ := link_ok (ns := ns) hK Dd Dc Dl d t2 (0 + (k : Int)) hb he
      have ap := fun (x : D) (p : PEn) (g : GS) => appL_ok (i := 5) (d := x) (p := p) (g := g) (xs := fs.map Fa.enc) (by rw [List.length_map]; omega)
      have i1 := b3.im
      have i2 := b4.im
      refine ⟨_, [some (.tok K, false), some (.lst (held.map .int), false), some (.lst (ent.map .int), false), some (.dct ks xs, false), some (.int h, false), some (.lst ((fs ++ [(⟨lo, hi, og, lk⟩ : Fa)]).map Fa.enc), true), some (.int (0 + (k : Int)), false), none, none, none], sG G K ns t3, rfl, .inl ?_, t3, fs ++ [(⟨lo, hi, og, lk⟩ : Fa)], some (.int (0 + (k : Int)), false), rfl, rfl, by rw [List.length_append, a1]; rfl, ?_⟩
      · rw [List.map_append]
        show pSs (callP T tk (d + 2)) [] (ftW0 fa fo fl) [some (.tok K, false), some (.lst (held.map .int), false), some (.lst (ent.map .int), false), some (.dct ks xs, false), some (.int h, false), some (.lst (fs.map Fa.enc), true), some (.int (0 + (k : Int)), false), none, none, none] (sG G K ns t) = _
        unfold ftW0
        generalize (0 + (k : Int)) = kk at *
        generalize held.map D.int = H at *
        generalize ent.map D.int = N at *
        generalize fs.map Fa.enc = L at *
        simp [ha, q1, q2, q3, ap, i1, i2, Fa.enc]
      · intro j f hj
        by_cases hj2 : j < fs.length
        · rw [List.getElem?_append_left hj2] at hj
          exact a2 j f hj
        · rw [List.getElem?_append_right (by omega)] at hj
          obtain ⟨e1, e2⟩ : j - fs.length = 0 ∧ f = (⟨lo, hi, og, lk⟩ : Fa) := by
            cases hd : j - fs.length with
            | zero => rw [hd] at hj; exact ⟨rfl, (Option.some.inj hj).symm⟩
            | succ m => rw [hd] at hj; cases hj
          have ejk : (j : Int) = 0 + (k : Int) := by omega
          rw [ejk, e2]
          exact ⟨b1.1, b1.2, b2.1, b2.2, b3, b4⟩)
  rw [rngD_length, Nat.zero_add] at a1
  obtain ⟨p2, g2, l2, t2, ss, e8, e9, rfl, rfl, c1, c2, c3, c4⟩ := forP_inv (t := .nm 8) (b := fun p g => pSs (callP T tk (d + 2)) [] (ftW1 fd fa fo mx) p g)
    (fun i p g => ∃ (t : Int × Nat × Int) (ss : List Sl) (e8 e9 : Option (D × Bool)), p = [some (.tok K, false), some (.lst (held.map .int), false), some (.lst (ent.map .int), false), some (.dct ks xs, false), some (.int h, false), some (.lst (fs.map Fa.enc), true), e6, some (.lst (ss.map Sl.enc), true), e8, e9] ∧ g = sG G K ns t ∧ ss.length ≤ i ∧ (∀ s ∈ ss, SlOk W ent s) ∧ (∀ s ∈ ss, s.di < 1 + (i : Int)) ∧ (ss.map Sl.di).Pairwise (· < ·)) (rngD 1 (h + ex - 1).toNat) 0
    [some (.tok K, false), some (.lst (held.map .int), false), some (.lst (ent.map .int), false), some (.dct ks xs, false), some (.int h, false), some (.lst (fs.map Fa.enc), true), e6, some (.lst [], true), none, none] (sG G K ns t1) ⟨t1, [], none, none, rfl, rfl, Nat.le_refl _, (fun _ q => by cases q), (fun _ q => by cases q), List.Pairwise.nil⟩ (by
      intro k v p g hk hI
      obtain ⟨t, ss, e8, e9, rfl, rfl, c1, c2, c3, c4⟩ := hI
      obtain ⟨hk8, rfl⟩ := rng_at hk
      have q0 := Dd.drawG (ns := ns) hK (d + 1) t 3 (by decide)
      generalize dV ns 3 t = v3 at *
      generalize dT ns 3 t = t1 at *
      have him : Ds.im (fs.map Fa.enc) = true := ims_of fun x m => by
        obtain ⟨f, hf, rfl⟩ := List.mem_map.mp m
        obtain ⟨j, hj, e⟩ := List.getElem_of_mem hf
        exact fa_im (a2 j f (by rw [List.getElem?_eq_getElem hj, e]))
      by_cases hz : v3 = 1 ∧ ((ss.length : Nat) : Int) < mx
      · have hwb := hw.rg (65536 - (1 + (k : Int)))
        obtain ⟨lo, hi, t2, q1, b1, b2⟩ := around_ok (ns := ns) hK Dd Da d t1 _ hwb
        obtain ⟨og, t3, q2, b3⟩ := origin_ok (ns := ns) hK Dd Do d t2 (W (65536 - (1 + (k : Int)))) hn
        have ap := fun (x : D) (p : PEn) (g : GS) => appL_ok (i := 7) (d := x) (p := p) (g := g) (xs := ss.map Sl.enc) (by rw [List.length_map]; omega)
        have i1 := b3.im
        have gg := wd_get hw (65536 - (1 + (k : Int)))
        have new : SlOk W ent ⟨1 + (k : Int), lo, hi, og⟩ := ⟨b1.1, b1.2, b2.1, b2.2, b3⟩
        refine ⟨_, [some (.tok K, false), some (.lst (held.map .int), false), some (.lst (ent.map .int), false), some (.dct ks xs, false), some (.int h, false), some (.lst (fs.map Fa.enc), true), e6, some (.lst ((ss ++ [(⟨1 + (k : Int), lo, hi, og⟩ : Sl)]).map Sl.enc), true), some (.int (1 + (k : Int)), false), some (.int (W (65536 - (1 + (k : Int)))), false)], sG G K ns t3, rfl, .inl ?_, t3, ss ++ [(⟨1 + (k : Int), lo, hi, og⟩ : Sl)], _, _, rfl, rfl, ?_, ?_, ?_, ?_⟩
        · rw [List.map_append]
          show pSs (callP T tk (d + 2)) [] (ftW1 fd fa fo mx) [some (.tok K, false), some (.lst (held.map .int), false), some (.lst (ent.map .int), false), some (.dct ks xs, false), some (.int h, false), some (.lst (fs.map Fa.enc), true), e6, some (.lst (ss.map Sl.enc), true), some (.int (1 + (k : Int)), false), e9] (sG G K ns t) = _
          have ln : ((ss.map Sl.enc).length : Int) < mx := by rw [List.length_map]; exact hz.2
          unfold ftW1
          generalize (1 + (k : Int)) = kk at *
          generalize held.map D.int = H at *
          generalize ent.map D.int = N at *
          generalize fs.map Fa.enc = L at *
          generalize ss.map Sl.enc = M at *
          simp [q0, hz.1, ln, gg, q1, q2, ap, i1, Sl.enc, -dget_d]
        · rw [List.length_append]; simp; omega
        · intro s hs
          rcases List.mem_append.mp hs with hs | hs
          · exact c2 s hs
          · rw [List.mem_singleton.mp hs]; exact new
        · intro s hs
          rcases List.mem_append.mp hs with hs | hs
          · have := c3 s hs; omega
          · rw [List.mem_singleton.mp hs]; show (1 + (k : Int)) < _; omega
        · rw [List.map_append, List.pairwise_append]
          refine ⟨c4, List.pairwise_singleton _ _, fun a ha b hb => ?_⟩
          obtain ⟨s, hs, rfl⟩ := List.mem_map.mp ha
          have := c3 s hs
          rw [List.map_cons, List.map_nil, List.mem_singleton] at hb
          rw [hb]
          show s.di < 1 + (k : Int)
          omega
      · refine ⟨_, [some (.tok K, false), some (.lst (held.map .int), false), some (.lst (ent.map .int), false), some (.dct ks xs, false), some (.int h, false), some (.lst (fs.map Fa.enc), true), e6, some (.lst (ss.map Sl.enc), true), some (.int (1 + (k : Int)), false), e9], sG G K ns t1, rfl, .inl ?_, t1, ss, _, _, rfl, rfl, by omega, c2, fun s hs => by have := c3 s hs; omega, c4⟩
        show pSs (callP T tk (d + 2)) [] (ftW1 fd fa fo mx) [some (.tok K, false), some (.lst (held.map .int), false), some (.lst (ent.map .int), false), some (.dct ks xs, false), some (.int h, false), some (.lst (fs.map Fa.enc), true), e6, some (.lst (ss.map Sl.enc), true), some (.int (1 + (k : Int)), false), e9] (sG G K ns t) = _
        have ln : ¬ (v3 = 1 ∧ ((ss.map Sl.enc).length : Int) < mx) := by rw [List.length_map]; exact hz
        unfold ftW1
        generalize (1 + (k : Int)) = kk at *
        generalize held.map D.int = H at *
        generalize ent.map D.int = N at *
        generalize fs.map Fa.enc = L at *
        generalize ss.map Sl.enc = M at *
        by_cases h1 : v3 = 1
        · have h2 : ¬ (M.length : Int) < mx := fun z => ln ⟨h1, z⟩
          simp [q0, h1, h2]
        · simp [q0, h1])
  have ok : FsOk held ent W fs ss := ⟨a1, a2, c2⟩
  rw [rngD_length, Nat.zero_add] at c1
  refine ⟨fs, ss, t2, ?_, ok, by omega, c4⟩
  obtain ⟨i1, i2⟩ := fs_im ok
  have s1 : srcP .rng1 [.int 8] = some (rngD 0 8) := src_rng1 (by decide) (by decide)
  have s2 := src_rng2 (i := 1) (j := h + ex) (by decide) (by decide) (by omega) (by omega)
  unfold ftB fsE
  generalize (h + ex - 1).toNat = nn at *
  have s2 : srcP .rng2 [.int 1, .int (h + ex)] = some (rngD 1 nn) := s2
  generalize held.map D.int = H at *
  generalize ent.map D.int = N at *
  generalize fs.map Fa.enc = L at *
  generalize ss.map Sl.enc = M at *
  simp [List.replicate, s1, s2, disj, l1, l2, i1, i2]
/-! ### what fits -/
def fitW0 (fc : Nat) : List S := [.asg (.tp [7, 8, 9]) (.ix (.ix (.var 0) (.lit (.int 0))) (.var 4)), .iff (.or (.not (.cmp2 .le .le (.ix (.var 7) (.lit (.int 0))) (.ix (.var 1) (.var 4)) (.ix (.var 7) (.lit (.int 1))))) (.and (.cmp .isn (.var 8) (.lit .non)) (.cmp .ne (.ix (.var 2) (.var 8)) (.ix (.var 1) (.var 4))))) [.ret (.lit (.bl false))] [], .iff (.and (.cmp .isn (.var 9) (.lit .non)) (.and (.cmp .eq (.ix (.var 9) (.lit (.int 0))) (.lit (.str "equal"))) (.cmp .ne (.ix (.var 1) (.ix (.var 9) (.lit (.int 1)))) (.ix (.var 1) (.var 4))))) [.ret (.lit (.bl false))] [], .iff (.and (.cmp .isn (.var 9) (.lit .non)) (.cmp .ne (.ix (.var 9) (.lit (.int 0))) (.lit (.str "equal")))) [.asg (.nm 10) (.bin .add (.mt .index (.lst [.lit (.str "less"), .lit (.str "below"), .lit (.str "same")]) [.ix (.var 9) (.lit (.int 0))]) (.lit (.int 8))), .iff (.cmp .ne (.call fc [.var 10, .ix (.var 1) (.ix (.var 9) (.lit (.int 1))), .ix (.var 1) (.ix (.var 9) (.lit (.int 2)))]) (.ix (.var 1) (.var 4))) [.ret (.lit (.bl false))] []] []]
def fitW1 : List S := [.asg (.nm 6) (.dget2 (.var 3) (.bin .sub (.lit (.int 65536)) (.ix (.var 5) (.lit (.int 0)))) (.lit (.int 0))), .iff (.or (.not (.cmp2 .le .le (.ix (.ix (.var 5) (.lit (.int 1))) (.lit (.int 0))) (.var 6) (.ix (.ix (.var 5) (.lit (.int 1))) (.lit (.int 1))))) (.and (.cmp .isn (.ix (.var 5) (.lit (.int 2))) (.lit .non)) (.cmp .ne (.ix (.var 2) (.ix (.var 5) (.lit (.int 2)))) (.var 6)))) [.ret (.lit (.bl false))] []]
@[simp] theorem m_fitW0 {fc : Nat} : mutds (fitW0 fc) = [] := rfl
@[simp] theorem m_fitW1 : mutds fitW1 = [] := rfl
def fitB (fc : Nat) : List S := [.iff (.or (.not (.bi .isTup [.var 0])) (.or (.cmp .ne (.bi .len [.var 0]) (.lit (.int 2))) (.cmp .ne (.bi .len [.ix (.var 0) (.lit (.int 0))]) (.lit (.int 8))))) [.ret (.lit (.bl false))] [],
    .for_ (.nm 4) .rng1 [.lit (.int 8)] (fitW0 fc),
    .for_ (.nm 5) .val [.ix (.var 0) (.lit (.int 1))] fitW1,
    .ret (.lit (.bl true))]
theorem eqv_ll {s t : String} : PyData.eqv (D.str (Str.ofString s)).pd (D.str (Str.ofString t)).pd = decide (s = t) := by
  rw [eqv_gd (k := 1) (j := 1) (by simp) (by simp)]
  simp
theorem idx_op {o : Nat} (ho : o < 3) : idxP (.lst [.str "less", .str "below", .str "same"]) (.str (opS o)) = some (.int (o : Int)) := by
  match o, ho with
  | 0, _ => simp [idxP, idxD, D.flat, opS, eqv_ll]
  | 1, _ => simp [idxP, idxD, D.flat, opS, eqv_ll]
  | 2, _ => simp [idxP, idxD, D.flat, opS, eqv_ll]
theorem opS_ne {o : Nat} (ho : o < 3) : eqP (.str (opS o)) (.str "equal") = some false := by
  match o, ho with
  | 0, _ => exact (eq_ll).trans (by decide)
  | 1, _ => exact (eq_ll).trans (by decide)
  | 2, _ => exact (eq_ll).trans (by decide)
theorem fit_w0 (Dc : Df T tk fc (cmbB fb fw) 3 0) {g : GS} (d : Nat) {held ent : List Int} (he : Eight held) (hn : Eight ent) {fs : List Fa} {ss : List Sl} {k : Nat} (hk : k < 8) {f : Fa} (hf : fs[k]? = some f) (ok : FaOk held ent (k : Int) f) (e3 e5 e6 e7 e8 e9 e10 : Option (D × Bool)) :
    ∃ f7 f8 f9 f10, pSs (callP T tk (d + 1)) [] (fitW0 fc) [some (fsE fs ss, false), some (.lst (held.map .int), false), some (.lst (ent.map .int), false), e3, some (.int (k : Int), false), e5, e6, e7, e8, e9, e10] g = .nx [some (fsE fs ss, false), some (.lst (held.map .int), false), some (.lst (ent.map .int), false), e3, some (.int (k : Int), false), e5, e6, f7, f8, f9, f10] g := by
  have ha := he.at (i := (k : Int)) (by omega) (by omega)
  have hx : L2.atI (fs.map Fa.enc) (k : Int) = some f.enc := by rw [atI_pos (by omega), List.getElem?_map, Int.toNat_natCast, hf]; rfl
  obtain ⟨lo, hi, og, lk⟩ := f
  have b1 := ok.lo
  have b2 := ok.hi
  have o1 := ok.og
  have l1 := ok.lk
  simp only at b1 b2 o1 l1
  have iog := o1.im
  have ilk := l1.im
  have st1 : pS (callP T tk (d + 1)) [] (.asg (.tp [7, 8, 9]) (.ix (.ix (.var 0) (.lit (.int 0))) (.var 4))) [some (fsE fs ss, false), some (.lst (held.map .int), false), some (.lst (ent.map .int), false), e3, some (.int (k : Int), false), e5, e6, e7, e8, e9, e10] g = .nx [some (fsE fs ss, false), some (.lst (held.map .int), false), some (.lst (ent.map .int), false), e3, some (.int (k : Int), false), e5, e6, some (.tup [.int lo, .int hi], false), some (og, false), some (lk, false), e10] g := by
    unfold fsE
    generalize held.map D.int = H at *
    generalize ent.map D.int = N at *
    generalize fs.map Fa.enc = L at *
    generalize ss.map Sl.enc = M at *
    simp [hx, Fa.enc, iog, ilk]
  unfold fitW0
  rw [pSs_cons, st1, PSR.seq_nx]
  have t1 : pT (callP T tk (d + 1)) (.or (.not (.cmp2 .le .le (.ix (.var 7) (.lit (.int 0))) (.ix (.var 1) (.var 4)) (.ix (.var 7) (.lit (.int 1))))) (.and (.cmp .isn (.var 8) (.lit .non)) (.cmp .ne (.ix (.var 2) (.var 8)) (.ix (.var 1) (.var 4))))) [some (fsE fs ss, false), some (.lst (held.map .int), false), some (.lst (ent.map .int), false), e3, some (.int (k : Int), false), e5, e6, some (.tup [.int lo, .int hi], false), some (og, false), some (lk, false), e10] g = .ok false g := by
    generalize fsE fs ss = F at *
    cases o1 with
    | non =>
      generalize held.map D.int = H at *
      generalize ent.map D.int = N at *
      simp [ha, b1, b2]
    | some h0 h1 e =>
      have hb := hn.at h0 h1
      generalize held.map D.int = H at *
      generalize ent.map D.int = N at *
      simp [ha, b1, b2, hb, e]
  rw [pSs_cons, pS_iff, t1, PR.sr_ok, if_neg (by decide), pSs_nil, PSR.seq_nx]
  generalize fsE fs ss = F at *
  cases l1 with
  | non =>
    refine ⟨some (.tup [.int lo, .int hi], false), some (og, false), some (.non, false), e10, ?_⟩
    simp
  | @eq a h0 h1 ne e =>
    have hb := he.at h0 h1
    refine ⟨some (.tup [.int lo, .int hi], false), some (og, false), some (.tup [.str "equal", .int a], false), e10, ?_⟩
    generalize held.map D.int = H at *
    simp [ha, hb, e]
  | @op o a b ho h0 h1 h2 h3 na nb e =>
    have hb := he.at h0 h1
    have hc := he.at h2 h3
    have n1 := opS_ne ho
    have n2 := idx_op ho
    have qc := cmb_ok (g := g) Dc ho (hv held a) (hv held b) d
    rw [Int.add_comm] at qc
    refine ⟨some (.tup [.int lo, .int hi], false), some (og, false), some (.tup [.str (opS o), .int a, .int b], false), some (.int ((o : Int) + 8), false), ?_⟩
    generalize held.map D.int = H at *
    simp [ha, hb, hc, n1, n2, qc, e, lstQ_ok]
theorem fit_w1 (C : PCl) {g : GS} {ent : List Int} (hn : Eight ent) {ks : List L2.Key} {xs : List D} {W : Int → Int} (hw : WdOk ks xs W) {s : Sl} (ok : SlOk W ent s) (e0 e1 e4 e6 e7 e8 e9 e10 : Option (D × Bool)) :
    ∃ f6, pSs C [] fitW1 [e0, e1, some (.lst (ent.map .int), false), some (.dct ks xs, false), e4, some (s.enc, false), e6, e7, e8, e9, e10] g = .nx [e0, e1, some (.lst (ent.map .int), false), some (.dct ks xs, false), e4, some (s.enc, false), f6, e7, e8, e9, e10] g := by
  have gg := wd_get hw (65536 - s.di)
  obtain ⟨di, lo, hi, og⟩ := s
  have b1 := ok.lo
  have b2 := ok.hi
  have o1 := ok.og
  simp only at b1 b2 o1 gg
  refine ⟨some (.int (W (65536 - di)), false), ?_⟩
  unfold fitW1 Sl.enc
  generalize W (65536 - di) = w at *
  cases o1 with
  | non =>
    generalize ent.map D.int = N at *
    simp [gg, b1, b2, -dget_d]
  | some h0 h1 e =>
    have hb := hn.at h0 h1
    generalize ent.map D.int = N at *
    simp [gg, b1, b2, hb, e, -dget_d]
theorem fit_ok (Dc : Df T tk fc (cmbB fb fw) 3 0) {f : Nat} (Dt : Df T tk f (fitB fc) 4 7) {g : GS} (d : Nat) {held ent : List Int} (he : Eight held) (hn : Eight ent) {ks : List L2.Key} {xs : List D} {W : Int → Int} (hw : WdOk ks xs W) {fs : List Fa} {ss : List Sl} (ok : FsOk held ent W fs ss) :
    callP T tk (d + 2) f [fsE fs ss, .lst (held.map .int), .lst (ent.map .int), .dct ks xs] g = .ok (.bl true, false) g := by
  rw [Dt.call rfl]
  obtain ⟨p1, g1, l1, rfl, e4, f7, f8, f9, f10, rfl⟩ := forP_inv (t := .nm 4) (b := fun p g => pSs (callP T tk (d + 1)) [] (fitW0 fc) p g)
    (fun i p g' => g = g' ∧ ∃ e4 f7 f8 f9 f10, p = [some (fsE fs ss, false), some (.lst (held.map .int), false), some (.lst (ent.map .int), false), some (.dct ks xs, false), e4, none, none, f7, f8, f9, f10]) (rngD 0 8) 0
    [some (fsE fs ss, false), some (.lst (held.map .int), false), some (.lst (ent.map .int), false), some (.dct ks xs, false), none, none, none, none, none, none, none] g ⟨rfl, _, _, _, _, _, rfl⟩ (by
      intro k v p g' hk hI
      obtain ⟨rfl, e4, f7, f8, f9, f10, rfl⟩ := hI
      obtain ⟨hk8, rfl⟩ := rng_at hk
      have hkl : k < fs.length := by rw [ok.len]; exact hk8
      have hf := List.getElem?_eq_getElem hkl
      obtain ⟨g7, g8, g9, g10, q⟩ := fit_w0 (g := g) (ss := ss) Dc d he hn hk8 hf (ok.fa k _ hf) (some (.dct ks xs, false)) none none f7 f8 f9 f10
      rw [show (0 + (k : Int)) = (k : Int) by omega]
      exact ⟨_, _, _, rfl, .inl q, rfl, _, _, _, _, _, rfl⟩)
  have l2 : ∀ (rs : List Sl), (∀ s ∈ rs, SlOk W ent s) → ∀ e5 e6 : Option (D × Bool), ∃ g5 g6, forP (.nm 5) (fun p g => pSs (callP T tk (d + 1)) [] fitW1 p g) (rs.map Sl.enc) [some (fsE fs ss, false), some (.lst (held.map .int), false), some (.lst (ent.map .int), false), some (.dct ks xs, false), e4, e5, e6, f7, f8, f9, f10] g = .nx [some (fsE fs ss, false), some (.lst (held.map .int), false), some (.lst (ent.map .int), false), some (.dct ks xs, false), e4, g5, g6, f7, f8, f9, f10] g := by
    intro rs
    induction rs with
    | nil => intro _ e5 e6; exact ⟨e5, e6, rfl⟩
    | cons s rs ih =>
      intro h e5 e6
      obtain ⟨g6, q⟩ := fit_w1 (g := g) (callP T tk (d + 1)) hn hw (h s List.mem_cons_self) (some (fsE fs ss, false)) (some (.lst (held.map .int), false)) e4 e6 f7 f8 f9 f10
      obtain ⟨h5, h6, ih⟩ := ih (fun t m => h t (List.mem_cons_of_mem _ m)) (some (s.enc, false)) g6
      refine ⟨h5, h6, ?_⟩
      have q' : pSs (callP T tk (d + 1)) [] fitW1 ([some (fsE fs ss, false), some (.lst (held.map .int), false), some (.lst (ent.map .int), false), some (.dct ks xs, false), e4, e5, e6, f7, f8, f9, f10].set 5 (some (s.enc, false))) g = _ := q
      rw [List.map_cons, forP_cons rfl, q']
      exact ih
  obtain ⟨g5, g6, l2⟩ := l2 ss ok.sl none none
  have s1 : srcP .rng1 [.int 8] = some (rngD 0 8) := src_rng1 (by decide) (by decide)
  have ln : ((fs.map Fa.enc).length : Int) = 8 := by rw [List.length_map, ok.len]; rfl
  have ln2 : (fs.map Fa.enc).length = 8 := by rw [List.length_map, ok.len]
  obtain ⟨i1, i2⟩ := fs_im ok
  unfold fitB
  unfold fsE at *
  generalize held.map D.int = H at *
  generalize ent.map D.int = N at *
  generalize fs.map Fa.enc = L at *
  generalize ss.map Sl.enc = M at *
  simp (config := {decide := true}) [List.replicate, ln, ln2, s1, disj, l1, l2, i1, i2]
end
end MQ
end
section
set_option Elab.async false
set_option linter.all false
set_option maxRecDepth 100000
set_option maxHeartbeats 4000000
/-! MX, part nn: the laws' own drawn states of a machine. -/
namespace MQ
open PySem MP
theorem kIx_ap : ∀ (ks : List L2.Key) (k j : L2.Key), kIx (ks ++ [k]) j = match kIx ks j with
    | some i => some i
    | none => if k = j then some ks.length else none
  | [], k, j => by
    by_cases h : k = j
    · simp [kIx, h]
    · simp [kIx, h]
  | a :: ks, k, j => by
    rw [List.cons_append, kIx, kIx]
    by_cases h : a = j
    · simp [h]
    · rw [if_neg h, if_neg h, kIx_ap ks k j]
      cases kIx ks j with
      | some i => rfl
      | none => by_cases h2 : k = j <;> simp [h2]
theorem kIx_at : ∀ {ks : List L2.Key} {j : L2.Key} {i : Nat}, kIx ks j = some i → ks[i]? = some j
  | a :: ks, j, i, h => by
    rw [kIx] at h
    by_cases e : a = j
    · rw [if_pos e] at h
      cases h
      rw [e]
      rfl
    · rw [if_neg e] at h
      obtain ⟨m, hm, rfl⟩ := Option.map_eq_some_iff.mp h
      rw [List.getElem?_cons_succ]
      exact kIx_at hm
/-- a word goes into the dict -/
theorem wd_put {ks : List L2.Key} {xs : List D} {W : Int → Int} (h : WdOk ks xs W) (hl : ks.length = xs.length) (k v : Int) (hv : 0 ≤ v ∧ v < 65536) :
    ∃ ks' xs', dPutP ks xs (.inl k) (.int v) = .dct ks' xs' ∧ WdOk ks' xs' (fun j => if j = k then v else W j) ∧ ks'.length = xs'.length ∧ ks'.length ≤ ks.length + 1 := by
  have rg : ∀ j, 0 ≤ (if j = k then v else W j) ∧ (if j = k then v else W j) < 65536 := fun j => by
    split
    · exact hv
    · exact h.rg j
  unfold dPutP
  cases e : kIx ks (.inl k) with
  | some i =>
    have hi := kIx_at e
    have hil : i < xs.length := by rw [← hl]; exact (List.getElem?_eq_some_iff.mp hi).1
    refine ⟨ks, xs.set i (.int v), rfl, ⟨fun j => ?_, rg, ?_⟩, by rw [List.length_set, hl], by omega⟩
    · have hg := h.get j
      by_cases hj : j = k
      · subst hj
        rw [e, if_pos rfl]
        simp [hil]
      · rw [if_neg hj, ← hg]
        cases e2 : kIx ks (.inl j) with
        | none => rfl
        | some m =>
          have hm := kIx_at e2
          have ne : i ≠ m := fun z => by
            subst z
            rw [hi] at hm
            cases hm
            exact hj rfl
          simp [List.getElem?_set_ne ne]
    · refine ims_of fun y m => ?_
      rcases List.mem_or_eq_of_mem_set m with m | rfl
      · have := h.im
        rw [ims_all, List.all_eq_true] at this
        exact this y m
      · simp
  | none =>
    refine ⟨ks ++ [.inl k], xs ++ [.int v], rfl, ⟨fun j => ?_, rg, by simp [h.im]⟩, by simp [hl], by simp⟩
    have hg := h.get j
    rw [kIx_ap]
    by_cases hj : j = k
    · subst hj
      rw [e, if_pos rfl]
      simp [hl]
    · rw [if_neg hj, ← hg]
      have ne : ¬ ((.inl k : L2.Key) = .inl j) := fun z => hj (by injection z with z; exact z.symm)
      cases e2 : kIx ks (.inl j) with
      | none => simp [ne]
      | some m =>
        have hm := (List.getElem?_eq_some_iff.mp (kIx_at e2)).1
        simp [List.getElem?_append_left (show m < xs.length by omega)]
def stX0 (fw : Nat) : E := .call fw [.var 0]
def stX1 (fd fw : Nat) : E := .ix (.lst [.ix (.var 1) (.var 6), .call fd [.var 0, .lit (.int 2)], .call fw [.var 0]]) (.call fd [.var 0, .lit (.int 3)])
def stW2 (fd fw : Nat) : List S := [.setIx (.var 4) (.bin .sub (.lit (.int 65536)) (.var 5)) (.ix (.lst [.ix (.var 1) (.call fd [.var 0, .lit (.int 8)]), .call fw [.var 0]]) (.call fd [.var 0, .lit (.int 2)]))]
@[simp] theorem l_stX0 {fw : Nat} : leak (stX0 fw) = [0] := rfl
@[simp] theorem l_stX1 {fd fw : Nat} : leak (stX1 fd fw) = [1, 0, 0] := rfl
@[simp] theorem m_stW2 {fd fw : Nat} : mutds (stW2 fd fw) = [4] := rfl
def stB (fd fw : Nat) (hE : E) : List S := [.asg (.nm 1) (.comp [6] (.nm 6) .rng1 [.lit (.int 8)] (stX0 fw)),
    .asg (.nm 2) (.comp [6] (.nm 6) .rng1 [.lit (.int 8)] (stX1 fd fw)),
    .asg (.nm 3) hE,
    .asg (.nm 4) (.dnew),
    .for_ (.nm 5) .rng2 [.lit (.int 1), .bin .add (.var 3) (.lit (.int 3))] (stW2 fd fw),
    .ret (.lst [.var 1, .var 2, .var 4, .var 3])]
section
variable {ns : List Int} {G : GS} {K : Nat} {T : List Fn} {tk : Nat → List Nat} {fd fw : Nat}
theorem state_ok (hK : K < G.length) (Dd : Df T tk fd drB 2 4) (Dw : Df T tk fw (wdB fd) 1 1) {f : Nat} {hE : E} (Ds' : Df T tk f (stB fd fw hE) 1 6) (hp : popOf hE = none) (d : Nat) (t : Int × Nat × Int)
    (hh : ∀ p t, getP p 0 = some (.tok K) → ∃ (h : Int) (t' : Int × Nat × Int), pE (callP T tk (d + 2)) hE p (sG G K ns t) = .ok (.int h, false) (sG G K ns t') ∧ 0 ≤ h ∧ h ≤ 12) :
    ∃ (ent held : List Int) (ks : List L2.Key) (xs : List D) (W : Int → Int) (h : Int) (t' : Int × Nat × Int), callP T tk (d + 3) f [.tok K] (sG G K ns t) = .ok (.lst [.lst (ent.map .int), .lst (held.map .int), .dct ks xs, .int h], true) (sG G K ns t') ∧ Eight ent ∧ Eight held ∧ WdOk ks xs W ∧ 0 ≤ h ∧ h ≤ 12 := by
  rw [Ds'.call rfl]
  have s1 : srcP .rng1 [.int 8] = some (rngD 0 8) := src_rng1 (by decide) (by decide)
  obtain ⟨ds, g1, c1, t1, ent, rfl, rfl, a1, a2⟩ := compP_inv (t := .nm 6) (p := [some (.tok K, false), none, none, none, none, none, none]) (elt := fun p g => pE (callP T tk (d + 2)) (stX0 fw) p g)
    (fun i acc g => ∃ (t : Int × Nat × Int) (ent : List Int), acc = ent.map .int ∧ g = sG G K ns t ∧ ent.length = i ∧ ∀ x ∈ ent, 0 ≤ x ∧ x < 65536) (rngD 0 8) [] 0 (sG G K ns t) (by simp) ⟨t, [], rfl, rfl, rfl, fun _ q => by cases q⟩ (by
      intro k x acc g hk hI
      obtain ⟨t, ent, rfl, rfl, a1, a2⟩ := hI
      obtain ⟨v, t', q, b⟩ := word_ok (ns := ns) hK Dd Dw d t
      refine ⟨_, .int v, false, sG G K ns t', rfl, ?_, t', ent ++ [v], by simp, rfl, by simp; omega, ?_⟩
      · unfold stX0
        simp [q]
      · intro y hy
        rcases List.mem_append.mp hy with hy | hy
        · exact a2 y hy
        · rw [List.mem_singleton.mp hy]; exact b)
  rw [rngD_length, Nat.zero_add] at a1
  have he : Eight ent := ⟨a1, a2⟩
  obtain ⟨ds, g1, c2, t2, held, rfl, rfl, a3, a4⟩ := compP_inv (t := .nm 6) (p := [some (.tok K, false), some (.lst (ent.map .int), true), none, none, none, none, none]) (elt := fun p g => pE (callP T tk (d + 2)) (stX1 fd fw) p g)
    (fun i acc g => ∃ (t : Int × Nat × Int) (held : List Int), acc = held.map .int ∧ g = sG G K ns t ∧ held.length = i ∧ ∀ x ∈ held, 0 ≤ x ∧ x < 65536) (rngD 0 8) [] 0 (sG G K ns t1) (by simp) ⟨t1, [], rfl, rfl, rfl, fun _ q => by cases q⟩ (by
      intro k x acc g hk hI
      obtain ⟨t, held, rfl, rfl, a3, a4⟩ := hI
      obtain ⟨hk8, rfl⟩ := rng_at hk
      have ha := he.at (i := 0 + (k : Int)) (by omega) (by omega)
      have hb := he.b (i := 0 + (k : Int)) (by omega) (by omega)
      have q0 := Dd.drawG (ns := ns) hK (d + 1) t 2 (by decide)
      have c0 : 0 ≤ dV ns 2 t ∧ dV ns 2 t < 2 := ⟨dV_lo (by decide), dV_hi (by decide)⟩
      obtain ⟨v, t', q, b⟩ := word_ok (ns := ns) hK Dd Dw d (dT ns 2 t)
      have q3 := Dd.drawG (ns := ns) hK (d + 1) t' 3 (by decide)
      obtain ⟨r, hr, er⟩ := atI_in (xs := [hv ent (0 + (k : Int)), dV ns 2 t, v]) (i := dV ns 3 t') (dV_lo (by decide)) (dV_hi (by decide))
      have er : L2.atI [D.int (hv ent (0 + (k : Int))), .int (dV ns 2 t), .int v] (dV ns 3 t') = some (.int r) := er
      refine ⟨_, .int r, false, sG G K ns (dT ns 3 t'), rfl, ?_, _, held ++ [r], by simp, rfl, by simp; omega, ?_⟩
      · unfold stX1
        generalize (0 + (k : Int)) = kk at *
        generalize ent.map D.int = N at *
        simp [ha, q0, q, q3, lstQ_ok, er]
      · intro y hy
        rcases List.mem_append.mp hy with hy | hy
        · exact a4 y hy
        · rw [List.mem_singleton.mp hy]
          simp only [List.mem_cons, List.not_mem_nil, or_false] at hr
          rcases hr with rfl | rfl | rfl <;> omega)
  rw [rngD_length, Nat.zero_add] at a3
  have hd : Eight held := ⟨a3, a4⟩
  obtain ⟨h, t3, qh, h0, h1⟩ := hh [some (.tok K, false), some (.lst (ent.map .int), true), some (.lst (held.map .int), true), none, none, none, none] t2 (by simp)
  obtain ⟨p3, g3, l3, t4, ks, xs, W, e5, rfl, rfl, w1, w2, w3⟩ := forP_inv (t := .nm 5) (b := fun p g => pSs (callP T tk (d + 2)) [] (stW2 fd fw) p g)
    (fun i p g => ∃ (t : Int × Nat × Int) (ks : List L2.Key) (xs : List D) (W : Int → Int) (e5 : Option (D × Bool)), p = [some (.tok K, false), some (.lst (ent.map .int), true), some (.lst (held.map .int), true), some (.int h, false), some (.dct ks xs, true), e5, none] ∧ g = sG G K ns t ∧ WdOk ks xs W ∧ ks.length = xs.length ∧ ks.length ≤ i) (rngD 1 (h + 2).toNat) 0
    [some (.tok K, false), some (.lst (ent.map .int), true), some (.lst (held.map .int), true), some (.int h, false), some (.dct [] [], true), none, none] (sG G K ns t3) ⟨t3, [], [], fun _ => 0, none, rfl, rfl, ⟨fun k => rfl, fun k => by decide, rfl⟩, rfl, Nat.le_refl _⟩ (by
      intro k v p g hk hI
      obtain ⟨t, ks, xs, W, e5, rfl, rfl, w1, w2, w3⟩ := hI
      obtain ⟨hk8, rfl⟩ := rng_at hk
      have q0 := Dd.drawG (ns := ns) hK (d + 1) t 8 (by decide)
      have ha := he.at (i := dV ns 8 t) (dV_lo (by decide)) (dV_hi (by decide))
      have hb := he.b (i := dV ns 8 t) (dV_lo (by decide)) (dV_hi (by decide))
      obtain ⟨v, t', q, b⟩ := word_ok (ns := ns) hK Dd Dw d (dT ns 8 t)
      have q3 := Dd.drawG (ns := ns) hK (d + 1) t' 2 (by decide)
      obtain ⟨r, hr, er⟩ := atI_in (xs := [hv ent (dV ns 8 t), v]) (i := dV ns 2 t') (dV_lo (by decide)) (dV_hi (by decide))
      have er : L2.atI [D.int (hv ent (dV ns 8 t)), .int v] (dV ns 2 t') = some (.int r) := er
      have rb : 0 ≤ r ∧ r < 65536 := by
        simp only [List.mem_cons, List.not_mem_nil, or_false] at hr
        rcases hr with rfl | rfl <;> omega
      obtain ⟨ks', xs', ep, w4, w5, w6⟩ := wd_put w1 w2 (65536 - (1 + (k : Int))) r rb
      have se := fun (p : PEn) (g : GS) => setL_d (i := 4) (d := .int r) (p := p) (g := g) (k := .int (65536 - (1 + (k : Int)))) (kk := .inl (65536 - (1 + (k : Int)))) (ks := ks) (xs := xs) rfl (by omega)
      rw [ep] at se
      refine ⟨_, [some (.tok K, false), some (.lst (ent.map .int), true), some (.lst (held.map .int), true), some (.int h, false), some (.dct ks' xs', true), some (.int (1 + (k : Int)), false), none], sG G K ns (dT ns 2 t'), rfl, .inl ?_, _, ks', xs', _, _, rfl, rfl, w4, w5, by omega⟩
      show pSs (callP T tk (d + 2)) [] (stW2 fd fw) [some (.tok K, false), some (.lst (ent.map .int), true), some (.lst (held.map .int), true), some (.int h, false), some (.dct ks xs, true), some (.int (1 + (k : Int)), false), none] (sG G K ns t) = _
      unfold stW2
      generalize (1 + (k : Int)) = kk at *
      generalize ent.map D.int = N at *
      generalize held.map D.int = H at *
      simp [q0, ha, q, q3, lstQ_ok, er, se])
  refine ⟨ent, held, ks, xs, W, h, t4, ?_, he, hd, w1, h0, h1⟩
  have s2 := src_rng2 (i := 1) (j := h + 3) (by decide) (by decide) (by omega) (by omega)
  have e2 : (h + 3 - 1).toNat = (h + 2).toNat := by omega
  rw [e2] at s2
  have i1 := ims_ints (xs := ent)
  have i2 := ims_ints (xs := held)
  unfold stB
  generalize ent.map D.int = N at *
  generalize held.map D.int = H at *
  generalize (h + 2).toNat = nn at *
  simp [List.replicate, s1, s2, disj, compQ, okW, c1, c2, hp, qh, l3, i1, i2, lstQ_ok]
end
end MQ
end
section
set_option Elab.async false
set_option linter.all false
set_option maxRecDepth 100000
set_option maxHeartbeats 4000000
namespace MQ
open PySem MP
def mn2 (i j : Int) : Int := if j < i then j else i
def mx2 (i j : Int) : Int := if j > i then j else i
theorem mn2_b (i j : Int) : mn2 i j ≤ i ∧ mn2 i j ≤ j ∧ (mn2 i j = i ∨ mn2 i j = j) := by unfold mn2; split <;> omega
theorem mx2_b (i j : Int) : i ≤ mx2 i j ∧ j ≤ mx2 i j ∧ (mx2 i j = i ∨ mx2 i j = j) := by unfold mx2; split <;> omega
theorem minI_mem : ∀ (x : Int) (xs : List Int), minI x xs ∈ x :: xs
  | x, [] => by simp [minI]
  | x, y :: xs => by
    have := minI_mem (if y < x then y else x) xs
    rw [minI]
    rcases List.mem_cons.mp this with h | h
    · rw [h]; split <;> simp
    · exact List.mem_cons_of_mem _ (List.mem_cons_of_mem _ h)
theorem maxI_mem : ∀ (x : Int) (xs : List Int), maxI x xs ∈ x :: xs
  | x, [] => by simp [maxI]
  | x, y :: xs => by
    have := maxI_mem (if y > x then y else x) xs
    rw [maxI]
    rcases List.mem_cons.mp this with h | h
    · rw [h]; split <;> simp
    · exact List.mem_cons_of_mem _ (List.mem_cons_of_mem _ h)
/-- the ends of an image -/
structure KnOk (kn : List Int) : Prop where
  lo : 0 ∈ kn
  hi : 65535 ∈ kn
  rg : ∀ x ∈ kn, 0 ≤ x ∧ x ≤ 65535
  len : kn.length < 1000
def abF (kn : List Int) (w : Int) : List Int := kn.filter fun e => decide (w ≤ e)
def beF (kn : List Int) (w : Int) : List Int := kn.filter fun e => decide (e ≤ w)
def abV (kn : List Int) (w : Int) : Int := match abF kn w with
  | x :: xs => minI x xs
  | [] => 0
def beV (kn : List Int) (w : Int) : Int := match beF kn w with
  | x :: xs => maxI x xs
  | [] => 0
theorem ab_ok {kn : List Int} (h : KnOk kn) {w : Int} (hw : w ≤ 65535) : (∀ g, biP .minL [.lst ((abF kn w).map .int)] g = some (.int (abV kn w), false)) ∧ w ≤ abV kn w ∧ 0 ≤ abV kn w ∧ abV kn w ≤ 65535 := by
  unfold abV
  have m : 65535 ∈ abF kn w := List.mem_filter.mpr ⟨h.hi, by simpa using hw⟩
  cases e : abF kn w with
  | nil => rw [e] at m; cases m
  | cons x xs =>
    have m2 := minI_mem x xs
    rw [← e] at m2
    have m3 := List.mem_filter.mp m2
    have m4 := h.rg _ m3.1
    exact ⟨fun g => min_l, by simpa using m3.2, m4.1, m4.2⟩
theorem be_ok {kn : List Int} (h : KnOk kn) {w : Int} (hw : 0 ≤ w) : (∀ g, biP .maxL [.lst ((beF kn w).map .int)] g = some (.int (beV kn w), false)) ∧ beV kn w ≤ w ∧ 0 ≤ beV kn w ∧ beV kn w ≤ 65535 := by
  unfold beV
  have m : 0 ∈ beF kn w := List.mem_filter.mpr ⟨h.lo, by simpa using hw⟩
  cases e : beF kn w with
  | nil => rw [e] at m; cases m
  | cons x xs =>
    have m2 := maxI_mem x xs
    rw [← e] at m2
    have m3 := List.mem_filter.mp m2
    have m4 := h.rg _ m3.1
    exact ⟨fun g => max_l, by simpa using m3.2, m4.1, m4.2⟩
theorem dedI_len : ∀ ns : List Int, (dedI ns).length ≤ ns.length
  | [] => Nat.le_refl _
  | x :: r => by
    have := dedI_len r
    unfold dedI
    split <;> simp <;> omega
theorem setI_len (ns : List Int) : (setI ns).length ≤ ns.length := by
  unfold setI
  rw [List.length_mergeSort]
  exact dedI_len ns
namespace Law
section
variable {g : GS}
theorem c0 (d : Nat) {kn : List Int} (h : KnOk kn) {w : Int} (hw : 0 ≤ w) : callP prg.T tks (d + 1) 0 [.lst (kn.map .int), .int w] g = .ok (.int (beV kn w), false) g := by
  rw [call_eq T0 rfl]
  have q := (be_ok h hw).1 g
  have hl := h.len
  have cc := compP_typ (t := .nm 2) (p := [some (.lst (kn.map .int), false), some (.int w, false), none]) (tst := fun p g => kT (pE (callP prg.T tks d) x0_0 p g)) (elt := fun p g => pE (callP prg.T tks d) x0_1 p g) (g := g) D.int (fun e => decide (e ≤ w)) D.int kn [] (by simp; omega) fun e m => ⟨_, false, rfl, by unfold x0_0; simp, fun _ => by unfold x0_1; simp⟩
  rw [List.nil_append] at cc
  have cc : compP _ _ _ _ _ _ _ = PR.ok (.lst ((beF kn w).map .int), true) g := cc
  unfold f0 b0
  simp [startP, List.replicate, compQ, okW, cc, q]
theorem c1 (d : Nat) {kn : List Int} (h : KnOk kn) {w : Int} (hw : w ≤ 65535) : callP prg.T tks (d + 1) 1 [.lst (kn.map .int), .int w] g = .ok (.int (abV kn w), false) g := by
  rw [call_eq T1 rfl]
  have q := (ab_ok h hw).1 g
  have hl := h.len
  have cc := compP_typ (t := .nm 2) (p := [some (.lst (kn.map .int), false), some (.int w, false), none]) (tst := fun p g => kT (pE (callP prg.T tks d) x1_0 p g)) (elt := fun p g => pE (callP prg.T tks d) x1_1 p g) (g := g) D.int (fun e => decide (w ≤ e)) D.int kn [] (by simp; omega) fun e m => ⟨_, false, rfl, by unfold x1_0; simp, fun _ => by unfold x1_1; simp⟩
  rw [List.nil_append] at cc
  have cc : compP _ _ _ _ _ _ _ = PR.ok (.lst ((abF kn w).map .int), true) g := cc
  unfold f1 b1
  simp [startP, List.replicate, compQ, okW, cc, q]
/-- two spans cut -/
def cutS (a b c e : Int) : Option (Int × Int) := if mn2 b e < mx2 a c then none else some (mx2 a c, mn2 b e)
def spE : Option (Int × Int) → D
  | none => .non
  | some (a, b) => .tup [.int a, .int b]
theorem c2 (d : Nat) (a b c e : Int) : callP prg.T tks (d + 1) 2 [.tup [.int a, .int b], .tup [.int c, .int e]] g = .ok (spE (cutS a b c e), false) g := by
  rw [call_eq T2 rfl]
  unfold f2 b2 cutS
  have h1 : (if c > a then c else a) = mx2 a c := rfl
  have h2 : (if e < b then e else b) = mn2 b e := rfl
  by_cases h : mn2 b e < mx2 a c
  · rw [if_pos h]
    simp [startP, List.replicate, h1, h2, h, spE, -gt_iff_lt]
  · rw [if_neg h]
    simp [startP, List.replicate, h1, h2, h, spE, -gt_iff_lt]
theorem c18 (d : Nat) (a b c e : Int) : callP prg.T tks (d + 1) 18 [.tup [.int a, .int b], .int c, .int e] g = .ok (.tup [.int (mx2 a c), .int (mn2 b e)], false) g := by
  rw [call_eq T18 rfl]
  unfold f18 b18
  have h1 : (if c > a then c else a) = mx2 a c := rfl
  have h2 : (if e < b then e else b) = mn2 b e := rfl
  simp [startP, List.replicate, h1, h2, -gt_iff_lt]
/-- the facts with another span -/
def wsp (fs : List Fa) (n : Nat) (lo hi : Int) (f : Fa) : List Fa := fs.set n ⟨lo, hi, f.og, f.lk⟩
theorem c3 (d : Nat) {fs : List Fa} (im : Ds.im (fs.map Fa.enc) = true) (hl : fs.length = 8) {n : Nat} {f : Fa} (hf : fs[n]? = some f) (lo hi : Int) : callP prg.T tks (d + 1) 3 [.tup (fs.map Fa.enc), .int (n : Int), .tup [.int lo, .int hi]] g = .ok (.tup ((wsp fs n lo hi f).map Fa.enc), false) g := by
  rw [call_eq T3 rfl]
  have hn : n < 8 := by rw [← hl]; exact (List.getElem?_eq_some_iff.mp hf).1
  have hx : L2.atI (fs.map Fa.enc) (n : Int) = some (.tup [.tup [.int f.lo, .int f.hi], f.og, f.lk]) := by rw [atI_pos (by omega), List.getElem?_map, Int.toNat_natCast, hf]; rfl
  have hL : (fs.map Fa.enc).length = 8 := by rw [List.length_map, hl]
  have s1 : slP (.tup (fs.map Fa.enc)) none (some (n : Int)) g = some (.tup ((fs.map Fa.enc).take n), false) := by
    unfold slP
    simp only
    rw [if_neg (by rw [HT.sIx_nat, hL]; omega), cut_to]
  have s2 : slP (.tup (fs.map Fa.enc)) (some ((n : Int) + 1)) none g = some (.tup ((fs.map Fa.enc).drop (n + 1)), false) := by
    have e : ((n : Int) + 1) = ((n + 1 : Nat) : Int) := by omega
    unfold slP
    simp only
    rw [e, if_neg (by rw [HT.sIx_nat, hL]; omega), cut_from]
  have a1 : addP (.tup ((fs.map Fa.enc).take n)) (.tup [.tup [.tup [.int lo, .int hi], f.og, f.lk]]) = some (.tup ((fs.map Fa.enc).take n ++ [.tup [.tup [.int lo, .int hi], f.og, f.lk]]), false) := add_tt (by rw [List.length_take]; simp; omega)
  have a2 : addP (.tup ((fs.map Fa.enc).take n ++ [.tup [.tup [.int lo, .int hi], f.og, f.lk]])) (.tup ((fs.map Fa.enc).drop (n + 1))) = some (.tup (((fs.map Fa.enc).take n ++ [.tup [.tup [.int lo, .int hi], f.og, f.lk]]) ++ (fs.map Fa.enc).drop (n + 1)), false) := add_tt (by rw [List.length_append, List.length_take, List.length_drop]; simp; omega)
  have e : ((fs.map Fa.enc).take n ++ [.tup [.tup [.int lo, .int hi], f.og, f.lk]]) ++ (fs.map Fa.enc).drop (n + 1) = (wsp fs n lo hi f).map Fa.enc := by
    unfold wsp
    rw [List.map_set, List.set_eq_take_append_cons_drop, if_pos (by omega), List.append_assoc]
    rfl
  rw [e] at a2
  unfold f3 b3
  generalize ((wsp fs n lo hi f).map Fa.enc) = R at *
  generalize fs.map Fa.enc = L at *
  generalize L.take n = LA at *
  generalize L.drop (n + 1) = LB at *
  simp [startP, List.replicate, hx, s1, s2, a1, a2]
/-! ends -/
theorem c11 (hd : Df prg.T tks 6 drB 2 4) (hw : Df prg.T tks 7 (wdB 6) 1 1) (d : Nat) (ns : List Int) {G : GS} {K : Nat} (hK : K < G.length) (t : Int × Nat × Int) : ∃ (kn : List Int) (t' : Int × Nat × Int), callP prg.T tks (d + 3) 11 [.tok K] (sG G K ns t) = .ok (.lst (kn.map .int), true) (sG G K ns t') ∧ KnOk kn := by
  rw [call_eq T11 rfl]
  have q := hd.drawG (ns := ns) hK (d + 1) t 4 (by decide)
  have b : 0 ≤ dV ns 4 t ∧ dV ns 4 t < 4 := ⟨dV_lo (by decide), dV_hi (by decide)⟩
  generalize dV ns 4 t = v4 at *
  generalize dT ns 4 t = t1 at *
  obtain ⟨p1, g1, ql, t2, fnd, e2, e3, rfl, rfl, a1, a2, a3, a4⟩ := forP_inv (t := .nm 2) (b := fun p g => pSs (callP prg.T tks (d + 2)) [] w11_0 p g)
    (fun i p g => ∃ (t : Int × Nat × Int) (fnd : List Int) (e2 e3 : Option (D × Bool)), p = [some (.tok K, false), some (.lst (fnd.map .int), true), e2, e3] ∧ g = sG G K ns t ∧ 0 ∈ fnd ∧ 65535 ∈ fnd ∧ (∀ x ∈ fnd, 0 ≤ x ∧ x ≤ 65535) ∧ fnd.length = 6 + 3 * i) (rngD 0 v4.toNat) 0
    [some (.tok K, false), some (.lst (([0, 1, 255, 64511, 64512, 65535] : List Int).map .int), true), none, none] (sG G K ns t1) ⟨t1, [0, 1, 255, 64511, 64512, 65535], none, none, rfl, rfl, by decide, by decide, by decide, rfl⟩ (by
      intro k v p g hk hI
      obtain ⟨t, fnd, e2, e3, rfl, rfl, a1, a2, a3, a4⟩ := hI
      obtain ⟨hk8, rfl⟩ := rng_at hk
      obtain ⟨w, t', qw, bw⟩ := word_ok (ns := ns) hK hd hw d t
      have x1 : ∀ g, biP .max2 [.int 0, .int (w - 1)] g = some (.int (mx2 0 (w - 1)), false) := fun g => rfl
      have x2 : ∀ g, biP .min2 [.int 65535, .int (w + 1)] g = some (.int (mn2 65535 (w + 1)), false) := fun g => rfl
      have m1 := mx2_b 0 (w - 1)
      have m2 := mn2_b 65535 (w + 1)
      have ad : addP (.lst (fnd.map .int)) (.lst [.int (mx2 0 (w - 1)), .int w, .int (mn2 65535 (w + 1))]) = some (.lst ((fnd ++ [mx2 0 (w - 1), w, mn2 65535 (w + 1)]).map .int), true) := by
        rw [add_ll (by rw [List.length_map]; simp; omega), List.map_append]
        rfl
      have im := ims_ints (xs := fnd ++ [mx2 0 (w - 1), w, mn2 65535 (w + 1)])
      refine ⟨_, [some (.tok K, false), some (.lst ((fnd ++ [mx2 0 (w - 1), w, mn2 65535 (w + 1)]).map .int), true), some (.int (0 + (k : Int)), false), some (.int w, false)], sG G K ns t', rfl, .inl ?_, t', _, _, _, rfl, rfl, by simp [a1], by simp [a2], ?_, by simp; omega⟩
      · show pSs (callP prg.T tks (d + 2)) [] w11_0 [some (.tok K, false), some (.lst (fnd.map .int), true), some (.int (0 + (k : Int)), false), e3] (sG G K ns t) = _
        unfold w11_0
        generalize ((fnd ++ [mx2 0 (w - 1), w, mn2 65535 (w + 1)]).map D.int) = L2 at *
        generalize fnd.map D.int = L at *
        simp [qw, x1, x2, ad, im, lstQ_ok, -bi_max2, -bi_min2]
      · intro x hx
        rcases List.mem_append.mp hx with hx | hx
        · exact a3 x hx
        · simp only [List.mem_cons, List.not_mem_nil, or_false] at hx
          omega)
  rw [rngD_length] at a4
  refine ⟨setI fnd, t2, ?_, setI_mem.mpr a1, setI_mem.mpr a2, fun x hx => a3 x (setI_mem.mp hx), by have := setI_len fnd; omega⟩
  have sr := src_rng1 (j := v4) (by omega) (by omega)
  have ss := fun g => sset_l (g := g) (xs := fnd) (by omega)
  unfold f11 b11
  have ql : forP _ _ _ [some (.tok K, false), some (.lst [.int 0, .int 1, .int 255, .int 64511, .int 64512, .int 65535], true), none, none] _ = _ := ql
  generalize fnd.map D.int = L at *
  generalize (setI fnd).map D.int = L2 at *
  simp [startP, List.replicate, q, sr, disj, lstQ_ok, ql, ss]
end
end Law
end MQ
end
section
set_option Elab.async false
set_option linter.all false
set_option maxRecDepth 100000
set_option maxHeartbeats 4000000
namespace MQ
open PySem MP
structure Cu where
  a : Int
  b : Int
  c : Int
  e : Int
def cutsV (kn : List Int) (o : Nat) (a0 a1 b0 b1 : Int) (z : Bool) : Option Cu :=
  if o = 2 then (if z = true then some ⟨0, 65535, 0, 65535⟩ else some ⟨b0, b1, a0, a1⟩)
  else if o = 1 ∧ (32768 ≤ a1 ∨ 32768 ≤ b1) then some ⟨0, 65535, 0, 65535⟩
  else if z = true then some ⟨b0, 65535, 0, a1⟩
  else if b1 = 0 then none
  else some ⟨0, abV kn (b1 - 1), beV kn (a0 + 1), 65535⟩
def cuE : Option Cu → D
  | none => .non
  | some c => .tup [.tup [.int c.a, .int c.b], .tup [.int c.c, .int c.e]]
def cuL : Option Cu → D
  | none => .non
  | some c => .lst [.tup [.int c.a, .int c.b], .tup [.int c.c, .int c.e]]
namespace Law
section
variable {g : GS}
theorem c4 (d : Nat) {kn : List Int} (h : KnOk kn) {o : Nat} (ho : o < 3) (p q a0 a1 b0 b1 : Int) (z : Bool) (ha : 0 ≤ a0) (hb : b1 ≤ 65535) : callP prg.T tks (d + 2) 4 [.lst (kn.map .int), .tup [.str (opS o), .int p, .int q], .tup [.int a0, .int a1], .tup [.int b0, .int b1], .bl z] g = .ok (cuE (cutsV kn o a0 a1 b0 b1 z), false) g := by
  rw [call_eq T4 rfl]
  have q1 := c1 (g := g) d h (w := b1 - 1) (by omega)
  have q2 := c0 (g := g) d h (w := a0 + 1) (by omega)
  unfold f4 b4 cutsV
  generalize kn.map D.int = N at *
  match o, ho with
  | 2, _ => cases z <;> simp (config := {decide := true}) [startP, List.replicate, opS, cuE]
  | 0, _ =>
    cases z
    · by_cases hz : b1 = 0
      · simp (config := {decide := true}) [startP, List.replicate, opS, cuE, hz]
      · simp (config := {decide := true}) [startP, List.replicate, opS, cuE, hz, q1, q2]
    · simp (config := {decide := true}) [startP, List.replicate, opS, cuE]
  | 1, _ =>
    by_cases hx : 32768 ≤ a1
    · simp (config := {decide := true}) [startP, List.replicate, opS, cuE, hx]
    · by_cases hy : 32768 ≤ b1
      · simp (config := {decide := true}) [startP, List.replicate, opS, cuE, hx, hy]
      · cases z
        · by_cases hz : b1 = 0
          · subst hz
            simp (config := {decide := true}) [startP, List.replicate, opS, cuE, hx]
          · simp (config := {decide := true}) [startP, List.replicate, opS, cuE, hx, hy, hz, q1, q2]
        · simp (config := {decide := true}) [startP, List.replicate, opS, cuE, hx, hy]
theorem c19 (d : Nat) {kn : List Int} (h : KnOk kn) {o : Nat} (ho : o < 3) (a0 a1 b0 b1 : Int) (z : Bool) (ha : 0 ≤ a0) (hb : b1 ≤ 65535) : ∃ fr, callP prg.T tks (d + 2) 19 [.lst (kn.map .int), .str (opS o), .tup [.int a0, .int a1], .tup [.int b0, .int b1], .bl z] g = .ok (cuL (cutsV kn o a0 a1 b0 b1 z), fr) g := by
  rw [call_eq T19 rfl]
  have q1 := (ab_ok h (w := b1 - 1) (by omega)).1 g
  have q2 := (be_ok h (w := a0 + 1) (by omega)).1 g
  have hl := h.len
  have k1 := compP_typ (t := .nm 5) (p := [some (.lst (kn.map .int), false), some (.str (opS o), false), some (.tup [.int a0, .int a1], false), some (.tup [.int b0, .int b1], false), some (.bl z, false), none]) (tst := fun p g => kT (pE (callP prg.T tks (d + 1)) x19_0 p g)) (elt := fun p g => pE (callP prg.T tks (d + 1)) x19_1 p g) (g := g) D.int (fun e => decide (b1 - 1 ≤ e)) D.int kn [] (by simp; omega) fun e m => ⟨_, false, rfl, by unfold x19_0; simp, fun _ => by unfold x19_1; simp⟩
  have k2 := compP_typ (t := .nm 5) (p := [some (.lst (kn.map .int), false), some (.str (opS o), false), some (.tup [.int a0, .int a1], false), some (.tup [.int b0, .int b1], false), some (.bl z, false), none]) (tst := fun p g => kT (pE (callP prg.T tks (d + 1)) x19_2 p g)) (elt := fun p g => pE (callP prg.T tks (d + 1)) x19_3 p g) (g := g) D.int (fun e => decide (e ≤ a0 + 1)) D.int kn [] (by simp; omega) fun e m => ⟨_, false, rfl, by unfold x19_2; simp, fun _ => by unfold x19_3; simp⟩
  rw [List.nil_append] at k1 k2
  have k1 : compP _ _ _ _ _ _ _ = PR.ok (.lst ((abF kn (b1 - 1)).map .int), true) g := k1
  have k2 : compP _ _ _ _ _ _ _ = PR.ok (.lst ((beF kn (a0 + 1)).map .int), true) g := k2
  have im := ims_ints (xs := kn)
  unfold f19 b19 cutsV
  generalize (abF kn (b1 - 1)).map D.int = A1 at *
  generalize (beF kn (a0 + 1)).map D.int = A2 at *
  generalize kn.map D.int = N at *
  match o, ho with
  | 2, _ => cases z <;> exact ⟨true, by simp (config := {decide := true}) [startP, List.replicate, opS, cuL, lstQ_ok]⟩
  | 0, _ =>
    have o0 : opS 0 = Str.ofString "less" := rfl
    rw [o0] at k1 k2 ⊢
    cases z
    · by_cases hz : b1 = 0
      · exact ⟨false, by simp (config := {decide := true}) [startP, List.replicate, cuL, hz]⟩
      · exact ⟨true, by simp (config := {decide := true}) [startP, List.replicate, cuL, hz, q1, q2, compQ, okW, k1, k2, lstQ_ok, im]⟩
    · exact ⟨true, by simp (config := {decide := true}) [startP, List.replicate, cuL, lstQ_ok]⟩
  | 1, _ =>
    have o0 : opS 1 = Str.ofString "below" := rfl
    rw [o0] at k1 k2 ⊢
    have e1 : biP .max2 [.int a1, .int b1] g = some (.int (mx2 a1 b1), false) := rfl
    have mb := mx2_b a1 b1
    by_cases hx : 32768 ≤ a1 ∨ 32768 ≤ b1
    · have hm : 32768 ≤ mx2 a1 b1 := by omega
      exact ⟨true, by simp (config := {decide := true}) [startP, List.replicate, cuL, hx, e1, hm, lstQ_ok, -bi_max2]⟩
    · have hm : ¬ 32768 ≤ mx2 a1 b1 := by omega
      cases z
      · by_cases hz : b1 = 0
        · exact ⟨false, by simp (config := {decide := true}) only [hz] at *; simp (config := {decide := true}) [startP, List.replicate, cuL, hx, e1, hm, -bi_max2]⟩
        · exact ⟨true, by simp (config := {decide := true}) [startP, List.replicate, cuL, hx, e1, hm, hz, q1, q2, compQ, okW, k1, k2, lstQ_ok, im, -bi_max2]⟩
      · exact ⟨true, by simp (config := {decide := true}) [startP, List.replicate, cuL, hx, e1, hm, lstQ_ok, -bi_max2]⟩
end
/-- what the cuts keep -/
theorem cut_true {kn : List Int} (h : KnOk kn) {o : Nat} (ho : o < 3) {a0 a1 b0 b1 l r : Int} (la : a0 ≤ l ∧ l ≤ a1) (rb : b0 ≤ r ∧ r ≤ b1) (ha : 0 ≤ a0 ∧ a1 ≤ 65535) (hb : 0 ≤ b0 ∧ b1 ≤ 65535) {z : Bool} (hz : tstV o l r = !z) :
    ∃ c, cutsV kn o a0 a1 b0 b1 z = some c ∧ (c.a ≤ l ∧ l ≤ c.b) ∧ (c.c ≤ r ∧ r ≤ c.e) := by
  unfold cutsV
  by_cases h2 : o = 2
  · subst h2
    rw [if_pos rfl]
    cases z
    · have e : l = r := by simpa [tstV] using hz
      exact ⟨_, if_neg (by decide), by simp only; omega, by simp only; omega⟩
    · exact ⟨_, if_pos rfl, by simp only; omega, by simp only; omega⟩
  · rw [if_neg h2]
    by_cases h3 : o = 1 ∧ (32768 ≤ a1 ∨ 32768 ≤ b1)
    · rw [if_pos h3]
      exact ⟨_, rfl, by simp only; omega, by simp only; omega⟩
    · rw [if_neg h3]
      have lt : (decide (l < r)) = !z := by
        rw [← hz]
        match o, ho with
        | 0, _ => rfl
        | 1, _ =>
          show decide (l < r) = decide ((l + 32768) % 65536 < (r + 32768) % 65536)
          rw [decide_eq_decide]
          omega
        | 2, _ => exact absurd rfl h2
      cases z
      · have lt : l < r := by simpa using lt
        have h4 : ¬ b1 = 0 := by omega
        rw [if_neg (by decide), if_neg h4]
        have k1 := (ab_ok h (w := b1 - 1) (by omega)).2
        have k2 := (be_ok h (w := a0 + 1) (by omega)).2
        exact ⟨_, rfl, by simp only; omega, by simp only; omega⟩
      · have lt : ¬ l < r := by simpa using lt
        rw [if_pos rfl]
        exact ⟨_, rfl, by simp only; omega, by simp only; omega⟩
end Law
end MQ
end
section
set_option Elab.async false
set_option linter.all false
set_option maxRecDepth 100000
set_option maxHeartbeats 4000000
namespace MQ
open PySem MP
open Law (wsp)
structure FsG (fs : List Fa) : Prop where
  len : fs.length = 8
  og : ∀ f ∈ fs, f.og.gd 8 = true
  lk : ∀ f ∈ fs, f.lk.gd 8 = true
  iog : ∀ f ∈ fs, f.og.im = true
  ilk : ∀ f ∈ fs, f.lk.im = true
theorem FsOk.G {held ent : List Int} {W : Int → Int} {fs : List Fa} {ss : List Sl} (h : FsOk held ent W fs ss) : FsG fs := by
  have k : ∀ f ∈ fs, ∃ k : Nat, FaOk held ent (k : Int) f := fun f hf => by
    obtain ⟨k, hk, e⟩ := List.getElem_of_mem hf
    exact ⟨k, h.fa k f (by rw [List.getElem?_eq_getElem hk, e])⟩
  exact ⟨h.len, fun f m => (k f m).choose_spec.og.gd, fun f m => (k f m).choose_spec.lk.gd, fun f m => (k f m).choose_spec.og.im, fun f m => (k f m).choose_spec.lk.im⟩
theorem wsp_G {fs : List Fa} (h : FsG fs) {n : Nat} {f : Fa} (hf : fs[n]? = some f) (lo hi : Int) : FsG (wsp fs n lo hi f) := by
  have hm := List.mem_of_getElem? hf
  have c : ∀ y ∈ wsp fs n lo hi f, y ∈ fs ∨ y = ⟨lo, hi, f.og, f.lk⟩ := fun y m => List.mem_or_eq_of_mem_set m
  refine ⟨by unfold wsp; rw [List.length_set, h.len], fun y m => ?_, fun y m => ?_, fun y m => ?_, fun y m => ?_⟩
  · rcases c y m with m | rfl
    · exact h.og y m
    · exact h.og f hm
  · rcases c y m with m | rfl
    · exact h.lk y m
    · exact h.lk f hm
  · rcases c y m with m | rfl
    · exact h.iog y m
    · exact h.iog f hm
  · rcases c y m with m | rfl
    · exact h.ilk y m
    · exact h.ilk f hm
theorem wsp_ok {held ent : List Int} {W : Int → Int} {fs : List Fa} {ss : List Sl} (h : FsOk held ent W fs ss) {n : Nat} {f : Fa} (hf : fs[n]? = some f) {lo hi : Int} (b : lo ≤ hv held (n : Int) ∧ hv held (n : Int) ≤ hi) (c : 0 ≤ lo ∧ hi ≤ 65535) : FsOk held ent W (wsp fs n lo hi f) ss := by
  refine ⟨by unfold wsp; rw [List.length_set, h.len], fun k y hy => ?_, h.sl⟩
  unfold wsp at hy
  by_cases e : n = k
  · subst e
    have hl := (List.getElem?_eq_some_iff.mp hf).1
    rw [List.getElem?_set_self hl] at hy
    cases hy
    have q := h.fa n f hf
    exact ⟨b.1, b.2, c.1, c.2, q.og, q.lk⟩
  · rw [List.getElem?_set_ne e] at hy
    exact h.fa k y hy
theorem FsG.ims {fs : List Fa} (h : FsG fs) : Ds.im (fs.map Fa.enc) = true := ims_of fun x m => by
  obtain ⟨f, hf, rfl⟩ := List.mem_map.mp m
  simp [Fa.enc, h.iog f hf, h.ilk f hf]
def reE (ss : List Sl) : Option (List Fa) → D
  | none => .non
  | some fs => fsE fs ss
theorem wsp_at {fs : List Fa} {n a : Nat} {f : Fa} {lo hi : Int} (h : n ≠ a) : (wsp fs n lo hi f)[a]? = fs[a]? := by
  unfold wsp
  rw [List.getElem?_set_ne h]
namespace Law
/-- one side of a branch -/
def sideV (kn : List Int) (fs : List Fa) (n : Nat) (z : Bool) (f : Fa) (lk : Option (Nat × Nat × Nat)) : Option (List Fa) :=
  match cutS f.lo f.hi (if z = true then 0 else 1) (if z = true then 0 else 65535) with
  | none => none
  | some (lo, hi) => match lk with
    | none => some (wsp fs n lo hi f)
    | some (o, a, b) => match fs[a]?, fs[b]? with
      | some x, some y => match cutsV kn o x.lo x.hi y.lo y.hi z with
        | none => none
        | some c => match cutS x.lo x.hi c.a c.b, cutS y.lo y.hi c.c c.e with
          | some (l0, l1), some (r0, r1) => match (wsp (wsp fs n lo hi f) a l0 l1 x)[b]? with
            | some y2 => some (wsp (wsp (wsp fs n lo hi f) a l0 l1 x) b r0 r1 y2)
            | none => none
          | _, _ => none
      | _, _ => none
section
variable {g : GS}
theorem at_fa {fs : List Fa} {n : Nat} {f : Fa} (hf : fs[n]? = some f) : L2.atI (fs.map Fa.enc) (n : Int) = some (.tup [.tup [.int f.lo, .int f.hi], f.og, f.lk]) := by
  rw [atI_pos (by omega), List.getElem?_map, Int.toNat_natCast, hf]; rfl
/-- how the link of a fact is read -/
inductive LkR : D → Option (Nat × Nat × Nat) → Prop
  | non : LkR .non none
  | eq (a : Int) : LkR (.tup [.str "equal", .int a]) none
  | op {o a b : Nat} (ho : o < 3) (ha : a < 8) (hb : b < 8) : LkR (.tup [.str (opS o), .int (a : Int), .int (b : Int)]) (some (o, a, b))
theorem c5 (d : Nat) {kn : List Int} (h : KnOk kn) {fs : List Fa} {ss : List Sl} (G : FsG fs) (is : Ds.im (ss.map Sl.enc) = true) {n : Nat} {f : Fa} (hf : fs[n]? = some f) (hr : ∀ x ∈ fs, 0 ≤ x.lo ∧ x.hi ≤ 65535) {lk : Option (Nat × Nat × Nat)} (hk : LkR f.lk lk) (hne : ∀ o a b, lk = some (o, a, b) → a ≠ n ∧ b ≠ n) (z : Bool) :
    callP prg.T tks (d + 3) 5 [.lst (kn.map .int), fsE fs ss, .int (n : Int), .bl z] g = .ok (reE ss (sideV kn fs n z f lk), false) g := by
  rw [call_eq T5 rfl]
  have hm := List.mem_of_getElem? hf
  have iG := G.ims
  have q2 := c2 (g := g) (d + 1) f.lo f.hi (if z = true then 0 else 1) (if z = true then 0 else 65535)
  have hx := at_fa hf
  have st1 : pSs (callP prg.T tks (d + 2)) [] (b5.take 2) [some (.lst (kn.map .int), false), some (fsE fs ss, false), some (.int (n : Int), false), some (.bl z, false), none, none, none, none, none, none, none, none, none] g =
      .nx [some (.lst (kn.map .int), false), some (fsE fs ss, false), some (.int (n : Int), false), some (.bl z, false), some (spE (cutS f.lo f.hi (if z = true then 0 else 1) (if z = true then 0 else 65535)), false), some (.tup (fs.map Fa.enc), false), none, none, none, none, none, none, some (.tup (ss.map Sl.enc), false)] g := by
    have im : (spE (cutS f.lo f.hi (if z = true then 0 else 1) (if z = true then 0 else 65535))).im = true := by unfold spE; split <;> simp
    unfold b5 fsE
    generalize spE (cutS f.lo f.hi (if z = true then 0 else 1) (if z = true then 0 else 65535)) = R at *
    generalize kn.map D.int = N at *
    generalize fs.map Fa.enc = F1 at *
    generalize ss.map Sl.enc = S1 at *
    cases z
    · have q2 : callP prg.T tks (d + 2) 2 [.tup [.int f.lo, .int f.hi], .tup [.int 1, .int 65535]] g = .ok (R, false) g := q2
      simp [hx, q2, im, iG, is]
    · have q2 : callP prg.T tks (d + 2) 2 [.tup [.int f.lo, .int f.hi], .tup [.int 0, .int 0]] g = .ok (R, false) g := q2
      simp [hx, q2, im, iG, is]
  show (pSs (callP prg.T tks (d + 2)) (if _ then _ else _) b5 _ g).res = _
  have e0 : (if Ds.im [D.lst (kn.map .int), fsE fs ss, .int (n : Int), .bl z] = true then tks 5 else (tks 5).map (· + 1000)) = [] := by split <;> rfl
  have e1 : b5 = b5.take 2 ++ b5.drop 2 := rfl
  rw [e0, e1, run_appP]
  refine (congrArg (fun z => PSR.res (PSR.seq z _)) (show pSs _ _ _ (startP f5 [D.lst (kn.map .int), fsE fs ss, .int (n : Int), .bl z]) g = _ from st1)).trans ?_
  rw [PSR.seq_nx]
  unfold sideV
  clear st1 q2
  cases hc : cutS f.lo f.hi (if z = true then 0 else 1) (if z = true then 0 else 65535) with
  | none =>
    simp only [spE, reE]
    generalize fsE fs ss = F0 at *
    unfold b5
    simp
  | some sp =>
    obtain ⟨lo, hi⟩ := sp
    simp only [spE]
    have q3 := c3 (g := g) (d + 1) iG G.len hf lo hi
    have G1 := wsp_G G hf lo hi
    have iG1 := G1.ims
    have ew : (wsp fs n lo hi f)[n]? = some ⟨lo, hi, f.og, f.lk⟩ := by
      unfold wsp
      exact List.getElem?_set_self (List.getElem?_eq_some_iff.mp hf).1
    have hx1 : L2.atI ((wsp fs n lo hi f).map Fa.enc) (n : Int) = some (.tup [.tup [.int lo, .int hi], f.og, f.lk]) := at_fa ew
    have ilk := G.ilk f hm
    have st2 : pSs (callP prg.T tks (d + 2)) [] ((b5.drop 2).take 3) [some (.lst (kn.map .int), false), some (fsE fs ss, false), some (.int (n : Int), false), some (.bl z, false), some (.tup [.int lo, .int hi], false), some (.tup (fs.map Fa.enc), false), none, none, none, none, none, none, some (.tup (ss.map Sl.enc), false)] g =
        .nx [some (.lst (kn.map .int), false), some (fsE fs ss, false), some (.int (n : Int), false), some (.bl z, false), some (.tup [.int lo, .int hi], false), some (.tup ((wsp fs n lo hi f).map Fa.enc), false), some (f.lk, false), none, none, none, none, none, some (.tup (ss.map Sl.enc), false)] g := by
      generalize fsE fs ss = F0 at *
      generalize (wsp fs n lo hi f).map Fa.enc = F2 at *
      generalize kn.map D.int = N at *
      generalize fs.map Fa.enc = F1 at *
      generalize ss.map Sl.enc = S1 at *
      unfold b5
      simp [q3, hx1, iG1, ilk]
    have e2 : b5.drop 2 = (b5.drop 2).take 3 ++ b5.drop 5 := rfl
    rw [e2, run_appP, st2, PSR.seq_nx]
    clear st2 q3 hx1 ew ilk
    generalize f.lk = LK at hk ⊢
    cases hk with
    | non =>
      simp only [reE]
      unfold fsE
      generalize (wsp fs n lo hi f).map Fa.enc = F2 at *
      unfold b5
      simp
    | eq a =>
      simp only [reE]
      unfold fsE
      generalize (wsp fs n lo hi f).map Fa.enc = F2 at *
      unfold b5
      simp
    | @op o a b ho ha hb =>
      obtain ⟨na, nb⟩ := hne o a b rfl
      have ea := List.getElem?_eq_getElem (show a < fs.length by rw [G.len]; exact ha)
      have eb := List.getElem?_eq_getElem (show b < fs.length by rw [G.len]; exact hb)
      have ma := List.mem_of_getElem? ea
      have mb := List.mem_of_getElem? eb
      generalize fs[a]'(by rw [G.len]; exact ha) = x at ea ma
      generalize fs[b]'(by rw [G.len]; exact hb) = y at eb mb
      simp only [ea, eb]
      have ra := hr x ma
      have rb := hr y mb
      have ea1 : (wsp fs n lo hi f)[a]? = some x := by rw [wsp_at (Ne.symm na), ea]
      have eb1 : (wsp fs n lo hi f)[b]? = some y := by rw [wsp_at (Ne.symm nb), eb]
      have xa := at_fa ea1
      have xb := at_fa eb1
      have q4 := c4 (g := g) d h ho (a : Int) (b : Int) x.lo x.hi y.lo y.hi z ra.1 rb.2
      have no := opS_ne ho
      have icu : (cuE (cutsV kn o x.lo x.hi y.lo y.hi z)).im = true := by unfold cuE; split <;> simp
      have st3 : pSs (callP prg.T tks (d + 2)) [] ((b5.drop 5).take 4) [some (.lst (kn.map .int), false), some (fsE fs ss, false), some (.int (n : Int), false), some (.bl z, false), some (.tup [.int lo, .int hi], false), some (.tup ((wsp fs n lo hi f).map Fa.enc), false), some (.tup [.str (opS o), .int (a : Int), .int (b : Int)], false), none, none, none, none, none, some (.tup (ss.map Sl.enc), false)] g =
          .nx [some (.lst (kn.map .int), false), some (fsE fs ss, false), some (.int (n : Int), false), some (.bl z, false), some (.tup [.int lo, .int hi], false), some (.tup ((wsp fs n lo hi f).map Fa.enc), false), some (.tup [.str (opS o), .int (a : Int), .int (b : Int)], false), some (.tup [.int x.lo, .int x.hi], false), some (.tup [.int y.lo, .int y.hi], false), some (cuE (cutsV kn o x.lo x.hi y.lo y.hi z), false), none, none, some (.tup (ss.map Sl.enc), false)] g := by
        generalize fsE fs ss = F0 at *
        generalize (wsp fs n lo hi f).map Fa.enc = F2 at *
        generalize kn.map D.int = N at *
        generalize fs.map Fa.enc = F1 at *
        generalize ss.map Sl.enc = S1 at *
        generalize cuE (cutsV kn o x.lo x.hi y.lo y.hi z) = CU at *
        unfold b5
        simp [no, xa, xb, q4, icu]
      have e3 : b5.drop 5 = (b5.drop 5).take 4 ++ b5.drop 9 := rfl
      rw [e3, run_appP, st3, PSR.seq_nx]
      clear st3 q4 icu
      cases hcu : cutsV kn o x.lo x.hi y.lo y.hi z with
      | none =>
        simp only [cuE, reE]
        generalize fsE fs ss = F0 at *
        generalize (wsp fs n lo hi f).map Fa.enc = F2 at *
        unfold b5
        simp
      | some c =>
        simp only [cuE]
        have q5 := c2 (g := g) (d + 1) x.lo x.hi c.a c.b
        have q6 := c2 (g := g) (d + 1) y.lo y.hi c.c c.e
        have i5 : (spE (cutS x.lo x.hi c.a c.b)).im = true := by unfold spE; split <;> simp
        have i6 : (spE (cutS y.lo y.hi c.c c.e)).im = true := by unfold spE; split <;> simp
        have st4 : pSs (callP prg.T tks (d + 2)) [] ((b5.drop 9).take 3) [some (.lst (kn.map .int), false), some (fsE fs ss, false), some (.int (n : Int), false), some (.bl z, false), some (.tup [.int lo, .int hi], false), some (.tup ((wsp fs n lo hi f).map Fa.enc), false), some (.tup [.str (opS o), .int (a : Int), .int (b : Int)], false), some (.tup [.int x.lo, .int x.hi], false), some (.tup [.int y.lo, .int y.hi], false), some (.tup [.tup [.int c.a, .int c.b], .tup [.int c.c, .int c.e]], false), none, none, some (.tup (ss.map Sl.enc), false)] g =
            .nx [some (.lst (kn.map .int), false), some (fsE fs ss, false), some (.int (n : Int), false), some (.bl z, false), some (.tup [.int lo, .int hi], false), some (.tup ((wsp fs n lo hi f).map Fa.enc), false), some (.tup [.str (opS o), .int (a : Int), .int (b : Int)], false), some (.tup [.int x.lo, .int x.hi], false), some (.tup [.int y.lo, .int y.hi], false), some (.tup [.tup [.int c.a, .int c.b], .tup [.int c.c, .int c.e]], false), some (spE (cutS x.lo x.hi c.a c.b), false), some (spE (cutS y.lo y.hi c.c c.e), false), some (.tup (ss.map Sl.enc), false)] g := by
          generalize fsE fs ss = F0 at *
          generalize (wsp fs n lo hi f).map Fa.enc = F2 at *
          generalize kn.map D.int = N at *
          generalize ss.map Sl.enc = S1 at *
          generalize spE (cutS x.lo x.hi c.a c.b) = R1 at *
          generalize spE (cutS y.lo y.hi c.c c.e) = R2 at *
          unfold b5
          simp [q5, q6, i5, i6]
        have e4 : b5.drop 9 = (b5.drop 9).take 3 ++ b5.drop 12 := rfl
        rw [e4, run_appP, st4, PSR.seq_nx]
        clear st4 q5 q6 i5 i6
        cases h5 : cutS x.lo x.hi c.a c.b with
        | none =>
          simp only [spE, reE]
          generalize fsE fs ss = F0 at *
          generalize (wsp fs n lo hi f).map Fa.enc = F2 at *
          unfold b5
          simp
        | some sl =>
          obtain ⟨l0, l1⟩ := sl
          cases h6 : cutS y.lo y.hi c.c c.e with
          | none =>
            simp only [spE, reE]
            generalize fsE fs ss = F0 at *
            generalize (wsp fs n lo hi f).map Fa.enc = F2 at *
            unfold b5
            simp
          | some sr =>
            obtain ⟨r0, r1⟩ := sr
            have G2 := wsp_G G1 ea1 l0 l1
            have eb2 := List.getElem?_eq_getElem (show b < (wsp (wsp fs n lo hi f) a l0 l1 x).length by rw [G2.len]; exact hb)
            generalize (wsp (wsp fs n lo hi f) a l0 l1 x)[b]'(by rw [G2.len]; exact hb) = y2 at eb2
            simp only [eb2, spE, reE]
            have q7 := c3 (g := g) (d + 1) iG1 G1.len ea1 l0 l1
            have q8 := c3 (g := g) (d + 1) G2.ims G2.len eb2 r0 r1
            unfold fsE
            generalize (wsp (wsp (wsp fs n lo hi f) a l0 l1 x) b r0 r1 y2).map Fa.enc = F4 at *
            generalize (wsp (wsp fs n lo hi f) a l0 l1 x).map Fa.enc = F3 at *
            generalize (wsp fs n lo hi f).map Fa.enc = F2 at *
            unfold b5
            simp [q7, q8]
end
end Law
end MQ
end
section
set_option Elab.async false
set_option linter.all false
set_option maxRecDepth 100000
set_option maxHeartbeats 4000000
namespace MQ
open PySem MP
namespace Law
section
variable {g : GS}
theorem cut_eq (a b c e : Int) : cutS a b c e = if mn2 b e < mx2 a c then none else some (mx2 a c, mn2 b e) := rfl
theorem ixN_fs {fs : List Fa} (h : fs.length = 8) {n : Nat} (hn : n < 8) : L2.ixN (fs.map Fa.enc).length (n : Int) = some n := by
  rw [ixN_pos (by omega) (by rw [List.length_map, h]; omega)]
  rfl
theorem set_fs (fs : List Fa) (n : Nat) (lo hi : Int) (f : Fa) : (fs.map Fa.enc).set n (.tup [.tup [.int lo, .int hi], f.og, f.lk]) = (wsp fs n lo hi f).map Fa.enc := by
  unfold wsp
  rw [List.map_set]
  rfl
theorem c20 (d : Nat) {kn : List Int} (h : KnOk kn) {fs : List Fa} {ss : List Sl} (G : FsG fs) (is : Ds.im (ss.map Sl.enc) = true) {n : Nat} {f : Fa} (hf : fs[n]? = some f) (hr : ∀ x ∈ fs, 0 ≤ x.lo ∧ x.hi ≤ 65535) {lk : Option (Nat × Nat × Nat)} (hk : LkR f.lk lk) (hne : ∀ o a b, lk = some (o, a, b) → a ≠ n ∧ b ≠ n) (z : Bool) :
    callP prg.T tks (d + 3) 20 [.lst (kn.map .int), fsE fs ss, .int (n : Int), .bl z] g = .ok (reE ss (sideV kn fs n z f lk), false) g := by
  rw [call_eq T20 rfl]
  have hm := List.mem_of_getElem? hf
  have hn : n < 8 := by rw [← G.len]; exact (List.getElem?_eq_some_iff.mp hf).1
  have iG := G.ims
  have q2 := c18 (g := g) (d + 1) f.lo f.hi (if z = true then 0 else 1) (if z = true then 0 else 65535)
  have hx := at_fa hf
  have ilk := G.ilk f hm
  have iog := G.iog f hm
  have mulx : ∀ y : Int, binP .mul (.int 65535) (.int y) = some (.int (65535 * y), false) := fun y => mul_l (by decide) (by decide)
  have st1 : pSs (callP prg.T tks (d + 2)) [] (b20.take 2) [some (.lst (kn.map .int), false), some (fsE fs ss, false), some (.int (n : Int), false), some (.bl z, false), none, none, none, none, none, none, none, none] g =
      .nx [some (.lst (kn.map .int), false), some (fsE fs ss, false), some (.int (n : Int), false), some (.bl z, false), some (.lst (fs.map Fa.enc), true), some (.tup [.int (mx2 f.lo (if z = true then 0 else 1)), .int (mn2 f.hi (if z = true then 0 else 65535))], false), none, none, none, none, none, none] g := by
    unfold b20 fsE
    generalize kn.map D.int = N at *
    generalize fs.map Fa.enc = F1 at *
    generalize ss.map Sl.enc = S1 at *
    cases z
    · have q2 : callP prg.T tks (d + 2) 18 [.tup [.int f.lo, .int f.hi], .int 1, .int 65535] g = .ok (.tup [.int (mx2 f.lo 1), .int (mn2 f.hi 65535)], false) g := q2
      simp [hx, mulx, q2, iG]
    · have q2 : callP prg.T tks (d + 2) 18 [.tup [.int f.lo, .int f.hi], .int 0, .int 0] g = .ok (.tup [.int (mx2 f.lo 0), .int (mn2 f.hi 0)], false) g := q2
      simp [hx, mulx, q2, iG]
  show (pSs (callP prg.T tks (d + 2)) (if _ then _ else _) b20 _ g).res = _
  have e0 : (if Ds.im [D.lst (kn.map .int), fsE fs ss, .int (n : Int), .bl z] = true then tks 20 else (tks 20).map (· + 1000)) = [] := by split <;> rfl
  have e1 : b20 = b20.take 2 ++ b20.drop 2 := rfl
  rw [e0, e1, run_appP]
  refine (congrArg (fun z => PSR.res (PSR.seq z _)) (show pSs _ _ _ (startP f20 [D.lst (kn.map .int), fsE fs ss, .int (n : Int), .bl z]) g = _ from st1)).trans ?_
  rw [PSR.seq_nx]
  unfold sideV
  clear st1 q2
  rw [cut_eq]
  generalize mx2 f.lo (if z = true then 0 else 1) = lo
  generalize mn2 f.hi (if z = true then 0 else 65535) = hi
  by_cases hc : hi < lo
  · rw [if_pos hc]
    simp only [reE]
    generalize fsE fs ss = F0 at *
    unfold b20
    simp [hc]
  · rw [if_neg hc]
    simp only
    have G1 := wsp_G G hf lo hi
    have iG1 := G1.ims
    have ix := ixN_fs G.len hn
    have se := set_fs fs n lo hi f
    have st2 : pSs (callP prg.T tks (d + 2)) [] ((b20.drop 2).take 3) [some (.lst (kn.map .int), false), some (fsE fs ss, false), some (.int (n : Int), false), some (.bl z, false), some (.lst (fs.map Fa.enc), true), some (.tup [.int lo, .int hi], false), none, none, none, none, none, none] g =
        .nx [some (.lst (kn.map .int), false), some (fsE fs ss, false), some (.int (n : Int), false), some (.bl z, false), some (.lst ((wsp fs n lo hi f).map Fa.enc), true), some (.tup [.int lo, .int hi], false), some (f.lk, false), none, none, none, none, none] g := by
      generalize fsE fs ss = F0 at *
      generalize (wsp fs n lo hi f).map Fa.enc = F2 at *
      generalize kn.map D.int = N at *
      generalize fs.map Fa.enc = F1 at *
      unfold b20
      simp [hc, hx, ix, se, iog, ilk]
    have e2 : b20.drop 2 = (b20.drop 2).take 3 ++ b20.drop 5 := rfl
    rw [e2, run_appP, st2, PSR.seq_nx]
    clear st2 ilk
    generalize f.lk = LK at hk ⊢
    cases hk with
    | non =>
      simp only [reE]
      unfold fsE
      generalize (wsp fs n lo hi f).map Fa.enc = F2 at *
      unfold b20
      simp [iG1]
    | eq a =>
      simp only [reE]
      unfold fsE
      generalize (wsp fs n lo hi f).map Fa.enc = F2 at *
      unfold b20
      simp [iG1]
    | @op o a b ho ha hb =>
      obtain ⟨na, nb⟩ := hne o a b rfl
      have ea := List.getElem?_eq_getElem (show a < fs.length by rw [G.len]; exact ha)
      have eb := List.getElem?_eq_getElem (show b < fs.length by rw [G.len]; exact hb)
      have ma := List.mem_of_getElem? ea
      have mb := List.mem_of_getElem? eb
      generalize fs[a]'(by rw [G.len]; exact ha) = x at ea ma
      generalize fs[b]'(by rw [G.len]; exact hb) = y at eb mb
      simp only [ea, eb]
      have ra := hr x ma
      have rb := hr y mb
      have ea1 : (wsp fs n lo hi f)[a]? = some x := by rw [wsp_at (Ne.symm na), ea]
      have eb1 : (wsp fs n lo hi f)[b]? = some y := by rw [wsp_at (Ne.symm nb), eb]
      have xa := at_fa ea1
      have xb := at_fa eb1
      obtain ⟨fr, q4⟩ := c19 (g := g) d h ho x.lo x.hi y.lo y.hi z ra.1 rb.2
      have no := opS_ne ho
      have e3 : b20.drop 5 = (b20.drop 5).take 4 ++ b20.drop 9 := rfl
      rw [e3, run_appP]
      cases hcu : cutsV kn o x.lo x.hi y.lo y.hi z with
      | none =>
        rw [hcu, cuL] at q4
        have st3 : pSs (callP prg.T tks (d + 2)) [] ((b20.drop 5).take 4) [some (.lst (kn.map .int), false), some (fsE fs ss, false), some (.int (n : Int), false), some (.bl z, false), some (.lst ((wsp fs n lo hi f).map Fa.enc), true), some (.tup [.int lo, .int hi], false), some (.tup [.str (opS o), .int (a : Int), .int (b : Int)], false), none, none, none, none, none] g =
            .nx [some (.lst (kn.map .int), false), some (fsE fs ss, false), some (.int (n : Int), false), some (.bl z, false), some (.lst ((wsp fs n lo hi f).map Fa.enc), true), some (.tup [.int lo, .int hi], false), some (.tup [.str (opS o), .int (a : Int), .int (b : Int)], false), some (.tup [.int x.lo, .int x.hi], false), some (.tup [.int y.lo, .int y.hi], false), some (.non, fr), none, none] g := by
          generalize fsE fs ss = F0 at *
          generalize (wsp fs n lo hi f).map Fa.enc = F2 at *
          generalize kn.map D.int = N at *
          unfold b20
          cases fr
          · simp [no, xa, xb, q4]
          · have cl : clP D.non true = false := rfl
            simp [no, xa, xb, q4, hold_no cl]
        rw [st3, PSR.seq_nx]
        simp only [reE]
        generalize fsE fs ss = F0 at *
        generalize (wsp fs n lo hi f).map Fa.enc = F2 at *
        unfold b20
        simp
      | some c =>
        rw [hcu, cuL] at q4
        have ic : Ds.im [D.tup [.int c.a, .int c.b], .tup [.int c.c, .int c.e]] = true := by simp
        have st3 : pSs (callP prg.T tks (d + 2)) [] ((b20.drop 5).take 4) [some (.lst (kn.map .int), false), some (fsE fs ss, false), some (.int (n : Int), false), some (.bl z, false), some (.lst ((wsp fs n lo hi f).map Fa.enc), true), some (.tup [.int lo, .int hi], false), some (.tup [.str (opS o), .int (a : Int), .int (b : Int)], false), none, none, none, none, none] g =
            .nx [some (.lst (kn.map .int), false), some (fsE fs ss, false), some (.int (n : Int), false), some (.bl z, false), some (.lst ((wsp fs n lo hi f).map Fa.enc), true), some (.tup [.int lo, .int hi], false), some (.tup [.str (opS o), .int (a : Int), .int (b : Int)], false), some (.tup [.int x.lo, .int x.hi], false), some (.tup [.int y.lo, .int y.hi], false), some (.lst [.tup [.int c.a, .int c.b], .tup [.int c.c, .int c.e]], fr), none, none] g := by
          generalize fsE fs ss = F0 at *
          generalize (wsp fs n lo hi f).map Fa.enc = F2 at *
          generalize kn.map D.int = N at *
          unfold b20
          cases fr
          · simp [no, xa, xb, q4]
          · simp [no, xa, xb, q4]
        rw [st3, PSR.seq_nx]
        simp only
        have q5 := c18 (g := g) (d + 1) x.lo x.hi c.a c.b
        have q6 := c18 (g := g) (d + 1) y.lo y.hi c.c c.e
        rw [cut_eq, cut_eq]
        generalize mx2 x.lo c.a = l0 at *
        generalize mn2 x.hi c.b = l1 at *
        generalize mx2 y.lo c.c = r0 at *
        generalize mn2 y.hi c.e = r1 at *
        clear st3
        have st4 : pSs (callP prg.T tks (d + 2)) [] ((b20.drop 9).take 3) [some (.lst (kn.map .int), false), some (fsE fs ss, false), some (.int (n : Int), false), some (.bl z, false), some (.lst ((wsp fs n lo hi f).map Fa.enc), true), some (.tup [.int lo, .int hi], false), some (.tup [.str (opS o), .int (a : Int), .int (b : Int)], false), some (.tup [.int x.lo, .int x.hi], false), some (.tup [.int y.lo, .int y.hi], false), some (.lst [.tup [.int c.a, .int c.b], .tup [.int c.c, .int c.e]], fr), none, none] g =
            .nx [some (.lst (kn.map .int), false), some (fsE fs ss, false), some (.int (n : Int), false), some (.bl z, false), some (.lst ((wsp fs n lo hi f).map Fa.enc), true), some (.tup [.int lo, .int hi], false), some (.tup [.str (opS o), .int (a : Int), .int (b : Int)], false), some (.tup [.int x.lo, .int x.hi], false), some (.tup [.int y.lo, .int y.hi], false), some (.lst [.tup [.int c.a, .int c.b], .tup [.int c.c, .int c.e]], fr), some (.tup [.int l0, .int l1], false), some (.tup [.int r0, .int r1], false)] g := by
          generalize fsE fs ss = F0 at *
          generalize (wsp fs n lo hi f).map Fa.enc = F2 at *
          generalize kn.map D.int = N at *
          unfold b20
          simp [q5, q6]
        have e4 : b20.drop 9 = (b20.drop 9).take 3 ++ b20.drop 12 := rfl
        rw [e4, run_appP, st4, PSR.seq_nx]
        clear st4 q5 q6
        by_cases h5 : l1 < l0
        · rw [if_pos h5]
          simp only [reE]
          generalize fsE fs ss = F0 at *
          generalize (wsp fs n lo hi f).map Fa.enc = F2 at *
          unfold b20
          simp [h5]
        · rw [if_neg h5]
          by_cases h6 : r1 < r0
          · rw [if_pos h6]
            simp only [reE]
            generalize fsE fs ss = F0 at *
            generalize (wsp fs n lo hi f).map Fa.enc = F2 at *
            unfold b20
            simp [h5, h6]
          · rw [if_neg h6]
            have G2 := wsp_G G1 ea1 l0 l1
            have eb2 := List.getElem?_eq_getElem (show b < (wsp (wsp fs n lo hi f) a l0 l1 x).length by rw [G2.len]; exact hb)
            generalize (wsp (wsp fs n lo hi f) a l0 l1 x)[b]'(by rw [G2.len]; exact hb) = y2 at eb2
            simp only [eb2, reE]
            have xb2 := at_fa eb2
            have G3 := wsp_G G2 eb2 r0 r1
            have iG3 := G3.ims
            have ix1 := ixN_fs G1.len ha
            have ix2 := ixN_fs G2.len hb
            have se1 := set_fs (wsp fs n lo hi f) a l0 l1 x
            have se2 := set_fs (wsp (wsp fs n lo hi f) a l0 l1 x) b r0 r1 y2
            have i1 := G1.iog x (List.mem_of_getElem? ea1)
            have i2 := G1.ilk x (List.mem_of_getElem? ea1)
            have i3 := G2.iog y2 (List.mem_of_getElem? eb2)
            have i4 := G2.ilk y2 (List.mem_of_getElem? eb2)
            unfold fsE
            generalize (wsp (wsp (wsp fs n lo hi f) a l0 l1 x) b r0 r1 y2).map Fa.enc = F4 at *
            generalize (wsp (wsp fs n lo hi f) a l0 l1 x).map Fa.enc = F3 at *
            generalize (wsp fs n lo hi f).map Fa.enc = F2 at *
            unfold b20
            simp [h5, h6, xa, ix1, se1, i1, i2, xb2, ix2, se2, i3, i4, iG3]
end
end Law
end MQ
end
section
set_option Elab.async false
set_option linter.all false
set_option maxRecDepth 100000
set_option maxHeartbeats 4000000
namespace MQ
open PySem MP
namespace Law
theorem lkR_of {held : List Int} {k : Nat} {x : D} (h : LkOk held (k : Int) x) : ∃ lk, LkR x lk ∧ ∀ o a b, lk = some (o, a, b) → a ≠ k ∧ b ≠ k ∧ a < 8 ∧ b < 8 ∧ o < 3 ∧ cmbV o (hv held (a : Int)) (hv held (b : Int)) = hv held (k : Int) := by
  cases h with
  | non => exact ⟨none, .non, fun _ _ _ h => by cases h⟩
  | @eq a h0 h1 ne e => exact ⟨none, .eq a, fun _ _ _ h => by cases h⟩
  | @op o a b ho h0 h1 h2 h3 na nb e =>
    obtain ⟨a', rfl⟩ : ∃ a' : Nat, a = (a' : Int) := ⟨a.toNat, by omega⟩
    obtain ⟨b', rfl⟩ : ∃ b' : Nat, b = (b' : Int) := ⟨b.toNat, by omega⟩
    refine ⟨some (o, a', b'), .op ho (by omega) (by omega), fun o2 a2 b2 h => ?_⟩
    cases h
    exact ⟨by omega, by omega, by omega, by omega, ho, e⟩
theorem cut_in {a b c e v : Int} (h1 : a ≤ v ∧ v ≤ b) (h2 : c ≤ v ∧ v ≤ e) : ∃ lo hi, cutS a b c e = some (lo, hi) ∧ (lo ≤ v ∧ v ≤ hi) ∧ a ≤ lo ∧ hi ≤ b := by
  have m1 := mx2_b a c
  have m2 := mn2_b b e
  rw [cut_eq, if_neg (by omega)]
  exact ⟨_, _, rfl, by omega, by omega, by omega⟩
theorem side_true {kn : List Int} (h : KnOk kn) {held ent : List Int} {W : Int → Int} {fs : List Fa} {ss : List Sl} (he : Eight held) (ok : FsOk held ent W fs ss) {n : Nat} (hn : n < 8) {f : Fa} (hf : fs[n]? = some f) {lk : Option (Nat × Nat × Nat)}
    (hl : ∀ o a b, lk = some (o, a, b) → a ≠ n ∧ b ≠ n ∧ a < 8 ∧ b < 8 ∧ o < 3 ∧ cmbV o (hv held (a : Int)) (hv held (b : Int)) = hv held (n : Int)) {z : Bool} (hz : z = decide (hv held (n : Int) = 0)) :
    ∃ fs', sideV kn fs n z f lk = some fs' ∧ FsOk held ent W fs' ss := by
  have q := ok.fa n f hf
  have hb := he.b (i := (n : Int)) (by omega) (by omega)
  have c1 : (if z = true then (0 : Int) else 1) ≤ hv held (n : Int) ∧ hv held (n : Int) ≤ (if z = true then (0 : Int) else 65535) := by
    by_cases e : hv held (n : Int) = 0
    · have : z = true := by rw [hz]; simpa using e
      rw [if_pos this, if_pos this]
      omega
    · have : ¬ z = true := by rw [hz]; simpa using e
      rw [if_neg this, if_neg this]
      omega
  obtain ⟨lo, hi, ec, b1, b2, b3⟩ := cut_in ⟨q.lo, q.hi⟩ c1
  have l0 := q.l0
  have h0 := q.h0
  have ok1 := wsp_ok ok hf (lo := lo) (hi := hi) b1 (by omega)
  unfold sideV
  rw [ec]
  simp only
  cases lk with
  | none => exact ⟨_, rfl, ok1⟩
  | some t =>
    obtain ⟨o, a, b⟩ := t
    obtain ⟨na, nb, ha, hb, ho, e⟩ := hl o a b rfl
    have ea := List.getElem?_eq_getElem (show a < fs.length by rw [ok.len]; exact ha)
    have eb := List.getElem?_eq_getElem (show b < fs.length by rw [ok.len]; exact hb)
    generalize fs[a]'(by rw [ok.len]; exact ha) = x at ea
    generalize fs[b]'(by rw [ok.len]; exact hb) = y at eb
    simp only [ea, eb]
    have qa := ok.fa a x ea
    have qb := ok.fa b y eb
    have tz : tstV o (hv held (a : Int)) (hv held (b : Int)) = !z := by
      unfold cmbV at e
      cases ht : tstV o (hv held (a : Int)) (hv held (b : Int))
      · rw [ht] at e
        have : z = true := by rw [hz]; simpa using e.symm
        rw [this]
        rfl
      · rw [ht] at e
        have : z = false := by
          rw [hz]
          have e : (1 : Int) = hv held (n : Int) := e
          rw [← e]
          rfl
        rw [this]
        rfl
    obtain ⟨c, hc, k1, k2⟩ := cut_true h ho ⟨qa.lo, qa.hi⟩ ⟨qb.lo, qb.hi⟩ ⟨qa.l0, qa.h0⟩ ⟨qb.l0, qb.h0⟩ tz
    rw [hc]
    simp only
    obtain ⟨l0, l1, e5, m1, m2, m3⟩ := cut_in ⟨qa.lo, qa.hi⟩ k1
    obtain ⟨r0, r1, e6, m4, m5, m6⟩ := cut_in ⟨qb.lo, qb.hi⟩ k2
    rw [e5, e6]
    simp only
    have ea1 : (wsp fs n lo hi f)[a]? = some x := by rw [wsp_at (Ne.symm na), ea]
    have z1 := qa.l0; have z2 := qa.h0; have z3 := qb.l0; have z4 := qb.h0
    have ok2 := wsp_ok ok1 ea1 (lo := l0) (hi := l1) m1 (by omega)
    have eb2 := List.getElem?_eq_getElem (show b < (wsp (wsp fs n lo hi f) a l0 l1 x).length by rw [ok2.len]; exact hb)
    generalize (wsp (wsp fs n lo hi f) a l0 l1 x)[b]'(by rw [ok2.len]; exact hb) = y2 at eb2
    simp only [eb2]
    exact ⟨_, rfl, wsp_ok ok2 eb2 (lo := r0) (hi := r1) m4 (by omega)⟩
theorem side_G {kn : List Int} {fs : List Fa} (G : FsG fs) {n : Nat} {f : Fa} (hf : fs[n]? = some f) {lk : Option (Nat × Nat × Nat)} (hl : ∀ o a b, lk = some (o, a, b) → a ≠ n) {z : Bool} {fs' : List Fa} (h : sideV kn fs n z f lk = some fs') : FsG fs' := by
  unfold sideV at h
  split at h
  · cases h
  · rename_i lo hi _
    have G1 := wsp_G G hf lo hi
    split at h
    · cases h; exact G1
    · rename_i o a b
      have na := hl o a b rfl
      split at h
      · rename_i x y ex ey
        split at h
        · cases h
        · split at h
          · rename_i l0 l1 r0 r1 _ _
            have G2 := wsp_G G1 (show (wsp fs n lo hi f)[a]? = some x by rw [wsp_at (Ne.symm na), ex]) l0 l1
            split at h
            · rename_i y2 e2
              cases h
              exact wsp_G G2 e2 r0 r1
            · cases h
          · cases h
      · cases h
theorem re_gd {ss : List Sl} (hs : ∀ s ∈ ss, s.og.gd 8 = true) : ∀ {r : Option (List Fa)}, (∀ fs, r = some fs → FsG fs) → (reE ss r).gd 20 = true
  | none, _ => by simp [reE]
  | some fs, h => by
    have G := h fs rfl
    unfold reE fsE
    rw [gd_tup, gds_cons, gds_cons, gds_nil, gd_tup, gd_tup, Bool.and_true, Bool.and_eq_true]
    constructor
    · refine gds_of fun x m => ?_
      obtain ⟨f, hf, rfl⟩ := List.mem_map.mp m
      simp [Fa.enc, gd_mono (k' := 17) (by decide) (G.og f hf), gd_mono (k' := 17) (by decide) (G.lk f hf)]
    · refine gds_of fun x m => ?_
      obtain ⟨s, hm, rfl⟩ := List.mem_map.mp m
      simp [Sl.enc, gd_mono (k' := 17) (by decide) (hs s hm)]
theorem re_im {ss : List Sl} (is : Ds.im (ss.map Sl.enc) = true) : ∀ {r : Option (List Fa)}, (∀ fs, r = some fs → FsG fs) → (reE ss r).im = true
  | none, _ => by simp [reE]
  | some fs, h => by simp [reE, fsE, is, (h fs rfl).ims]
theorem D6 : Df prg.T tks 6 drB 2 4 := ⟨⟨_, T6, rfl, rfl, rfl, rfl⟩, rfl⟩
theorem D7 : Df prg.T tks 7 (wdB 6) 1 1 := ⟨⟨_, T7, rfl, rfl, rfl, rfl⟩, rfl⟩
theorem D9 : Df prg.T tks 9 (cmbB 8 10) 3 0 := ⟨⟨_, T9, rfl, rfl, rfl, rfl⟩, rfl⟩
theorem D12 : Df prg.T tks 12 (arB 6) 2 2 := ⟨⟨_, T12, rfl, rfl, rfl, rfl⟩, rfl⟩
theorem D13 : Df prg.T tks 13 (lkB 6 9) 3 3 := ⟨⟨_, T13, rfl, rfl, rfl, rfl⟩, rfl⟩
theorem D14 : Df prg.T tks 14 (ogB 6) 3 2 := ⟨⟨_, T14, rfl, rfl, rfl, rfl⟩, rfl⟩
theorem D15 : Df prg.T tks 15 (ftB 6 12 14 13 4 1) 5 5 := ⟨⟨_, T15, rfl, rfl, rfl, rfl⟩, rfl⟩
theorem D16 : Df prg.T tks 16 (fitB 9) 4 7 := ⟨⟨_, T16, rfl, rfl, rfl, rfl⟩, rfl⟩
theorem D17 : Df prg.T tks 17 (stB 6 7 (.call 6 [.var 0, .lit (.int 5)])) 1 6 := ⟨⟨_, T17, rfl, rfl, rfl, rfl⟩, rfl⟩
abbrev G0 : GS := [.lst []]
theorem c17 (d : Nat) (ns : List Int) (t : Int × Nat × Int) : ∃ (ent held : List Int) (ks : List L2.Key) (xs : List D) (W : Int → Int) (h : Int) (t' : Int × Nat × Int), callP prg.T tks (d + 3) 17 [.tok 0] (sG G0 0 ns t) = .ok (.lst [.lst (ent.map .int), .lst (held.map .int), .dct ks xs, .int h], true) (sG G0 0 ns t') ∧ Eight ent ∧ Eight held ∧ WdOk ks xs W ∧ 0 ≤ h ∧ h ≤ 12 :=
  state_ok (by decide) D6 D7 D17 rfl d t fun p t h => by
    have q := D6.drawG (ns := ns) (G := G0) (K := 0) (by decide) (d + 1) t 5 (by decide)
    have b : 0 ≤ dV ns 5 t ∧ dV ns 5 t < 5 := ⟨dV_lo (by decide), dV_hi (by decide)⟩
    exact ⟨dV ns 5 t, dT ns 5 t, by simp [h, q], by omega, by omega⟩
theorem eq_self {x : D} (h : x.gd 60 = true) : eqP x x = some true := by
  rw [eqP_gd h h]
  simp
/-- one register -/
theorem turn0 (d : Nat) {g : GS} {kn : List Int} (h : KnOk kn) {held ent : List Int} {ks : List L2.Key} {xs : List D} {W : Int → Int} {fs : List Fa} {ss : List Sl} (he : Eight held) (hn : Eight ent) (hw : WdOk ks xs W) (ok : FsOk held ent W fs ss) {n : Nat} (hn8 : n < 8) (e0 e1 e2 e9 e10 e11 e12 : Option (D × Bool)) :
    ∃ f10 f11 f12, pSs (callP prg.T tks (d + 4)) [1] w21_0 [e0, e1, e2, some (fsE fs ss, false), some (.lst (kn.map .int), true), some (.int (n : Int), false), some (.lst (ent.map .int), false), some (.lst (held.map .int), false), some (.dct ks xs, false), e9, e10, e11, e12] g = .nx [e0, e1, e2, some (fsE fs ss, false), some (.lst (kn.map .int), true), some (.int (n : Int), false), some (.lst (ent.map .int), false), some (.lst (held.map .int), false), some (.dct ks xs, false), e9, f10, f11, f12] g := by
  have hf := List.getElem?_eq_getElem (show n < fs.length by rw [ok.len]; exact hn8)
  generalize fs[n]'(by rw [ok.len]; exact hn8) = f at hf
  obtain ⟨lk, hk, hl⟩ := lkR_of (ok.fa n f hf).lk
  have hr : ∀ x ∈ fs, 0 ≤ x.lo ∧ x.hi ≤ 65535 := fun x m => by
    obtain ⟨k, hk, e⟩ := List.getElem_of_mem m
    have q := ok.fa k x (by rw [List.getElem?_eq_getElem hk, e])
    exact ⟨q.l0, q.h0⟩
  have hne : ∀ o a b, lk = some (o, a, b) → a ≠ n ∧ b ≠ n := fun o a b e => ⟨(hl o a b e).1, (hl o a b e).2.1⟩
  have is := (fs_im ok).2
  have p1 := fun z => c5 (g := g) (d + 1) h ok.G is hf hr hk hne z
  have p2 := fun z => c20 (g := g) (d + 1) h ok.G is hf hr hk hne z
  have gg := fun z => re_gd (ss := ss) (fun s m => (ok.sl s m).og.gd) (r := sideV kn fs n z f lk) (fun fs' e => side_G ok.G hf (fun o a b e => (hl o a b e).1) e)
  have gi := fun z => re_im (ss := ss) is (r := sideV kn fs n z f lk) (fun fs' e => side_G ok.G hf (fun o a b e => (hl o a b e).1) e)
  have ge := fun z => eq_self (gd_mono (by decide) (gg z))
  obtain ⟨fs', es, ok'⟩ := side_true h he ok hn8 hf hl (z := decide (hv held (n : Int) = 0)) rfl
  have qf := fit_ok (g := g) D9 D16 (d + 2) he hn hw ok'
  have p1t := p1 (decide (hv held (n : Int) = 0))
  have p1f := p1 (!decide (hv held (n : Int) = 0))
  have p2t := p2 (decide (hv held (n : Int) = 0))
  have p2f := p2 (!decide (hv held (n : Int) = 0))
  have get := ge (decide (hv held (n : Int) = 0))
  have gef := ge (!decide (hv held (n : Int) = 0))
  have git := gi (decide (hv held (n : Int) = 0))
  have gif := gi (!decide (hv held (n : Int) = 0))
  rw [es] at p1t p2t get git
  have ha := he.at (i := (n : Int)) (by omega) (by omega)
  clear p1 p2 gg gi ge
  have e1 : reE ss (some fs') = fsE fs' ss := rfl
  have nn : (fsE fs' ss).isNon = false := rfl
  rw [e1] at p1t p2t get git
  refine ⟨some (.bl (decide (hv held (n : Int) = 0)), false), some (fsE fs' ss, false), some (reE ss (sideV kn fs n (!decide (hv held (n : Int) = 0)) f lk), false), ?_⟩
  generalize reE ss (sideV kn fs n (!decide (hv held (n : Int) = 0)) f lk) = R2 at *
  generalize fsE fs' ss = R1 at *
  generalize fsE fs ss = F0 at *
  generalize hzz : decide (hv held (n : Int) = 0) = zz at *
  have im := ims_ints (xs := kn)
  generalize kn.map D.int = N at *
  generalize ent.map D.int = EN at *
  generalize held.map D.int = HE at *
  unfold w21_0
  simp [asgP_nt, stK, ha, hzz, p1t, p1f, p2t, p2f, qf, get, gef, git, gif, nn, im]
theorem turn (d : Nat) (ns : List Int) (t : Int × Nat × Int) (e0 k e3 e4 e5 e6 e7 e8 e9 e10 e11 e12 : Option (D × Bool)) : ∃ t' f3 f4 f5 f6 f7 f8 f9 f10 f11 f12, pSs (callP prg.T tks (d + 5)) [1] w21_1 [e0, some (.tok 0, false), k, e3, e4, e5, e6, e7, e8, e9, e10, e11, e12] (sG G0 0 ns t) = .nx [e0, some (.tok 0, false), k, f3, f4, f5, f6, f7, f8, f9, f10, f11, f12] (sG G0 0 ns t') := by
  obtain ⟨ent, held, ks, xs, W, h, t1, q1, a1, a2, a3, a4⟩ := c17 (d + 2) ns t
  obtain ⟨fs, ss, t2, q2, b1, b2, b3⟩ := facts_ok (ns := ns) (G := G0) (K := 0) (by decide) D6 D12 D14 D9 D13 D15 (by decide) (d + 2) t1 a2 a1 a3 h (by omega)
  obtain ⟨kn, t3, q3, hk⟩ := c11 D6 D7 (d + 2) ns (G := G0) (K := 0) (by decide) t2
  obtain ⟨p1, g1, ql, rfl, f5, f10, f11, f12, rfl⟩ := forP_inv (t := .nm 5) (b := fun p g => pSs (callP prg.T tks (d + 5)) [1] w21_0 p g)
    (fun i p g => sG G0 0 ns t3 = g ∧ ∃ f5 f10 f11 f12, p = [e0, some (.tok 0, false), k, some (fsE fs ss, false), some (.lst (kn.map .int), true), f5, some (.lst (ent.map .int), false), some (.lst (held.map .int), false), some (.dct ks xs, false), some (.int h, false), f10, f11, f12]) (rngD 0 8) 0
    [e0, some (.tok 0, false), k, some (fsE fs ss, false), some (.lst (kn.map .int), true), e5, some (.lst (ent.map .int), false), some (.lst (held.map .int), false), some (.dct ks xs, false), some (.int h, false), e10, e11, e12] (sG G0 0 ns t3) ⟨rfl, e5, e10, e11, e12, rfl⟩ (by
      intro i v p g hi hI
      obtain ⟨rfl, f5, f10, f11, f12, rfl⟩ := hI
      obtain ⟨hk8, rfl⟩ := rng_at hi
      obtain ⟨g10, g11, g12, q⟩ := turn0 (d + 1) (g := sG G0 0 ns t3) hk a2 a1 a3 b1 hk8 e0 (some (.tok 0, false)) k (some (.int h, false)) f10 f11 f12
      rw [show (0 + (i : Int)) = (i : Int) by omega]
      exact ⟨_, _, _, rfl, .inl q, rfl, _, _, _, _, rfl⟩)
  have s8 : srcP .rng1 [.int 8] = some (rngD 0 8) := src_rng1 (by decide) (by decide)
  obtain ⟨i1, i2⟩ := fs_im b1
  have m1 : (fsE fs ss).im = true := by simp [fsE, i1, i2]
  have im := ims_ints (xs := kn)
  refine ⟨t3, some (fsE fs ss, false), some (.lst (kn.map .int), true), f5, some (.lst (ent.map .int), false), some (.lst (held.map .int), false), some (.dct ks xs, false), some (.int h, false), f10, f11, f12, ?_⟩
  generalize fsE fs ss = F1 at *
  generalize ent.map D.int = N at *
  generalize held.map D.int = H at *
  generalize kn.map D.int = KN at *
  unfold w21_1
  simp [stK, asgP_nt, q1, q2, q3, m1, im, s8, disj, ql]
theorem c21 (d : Nat) (ns : List Int) : ∃ g, callP prg.T tks (d + 6) 21 [.rol (ns.map .int)] [] = .ok (.bl true, false) g := by
  rw [call_eq T21 rfl]
  obtain ⟨p2, g2, q, t, k, f3, f4, f5, f6, f7, f8, f9, f10, f11, f12, rfl, rfl⟩ := forP_inv (t := .nm 2) (b := fun p g => pSs (callP prg.T tks (d + 5)) [1] w21_1 p g)
    (fun i p g => ∃ t k f3 f4 f5 f6 f7 f8 f9 f10 f11 f12, p = [some (.rol (ns.map .int), false), some (.tok 0, false), k, f3, f4, f5, f6, f7, f8, f9, f10, f11, f12] ∧ g = sG G0 0 ns t) (rngD 0 3) 0 [some (.rol (ns.map .int), false), some (.tok 0, false), none, none, none, none, none, none, none, none, none, none, none] (sG G0 0 ns (0, 0, 1)) ⟨(0, 0, 1), none, none, none, none, none, none, none, none, none, none, none, rfl, rfl⟩ (by
      intro k v p g hk q
      obtain ⟨t, k2, f3, f4, f5, f6, f7, f8, f9, f10, f11, f12, rfl, rfl⟩ := q
      obtain ⟨t', g3, g4, g5, g6, g7, g8, g9, g10, g11, g12, q⟩ := turn d ns t (some (.rol (ns.map .int), false)) (some (v, false)) f3 f4 f5 f6 f7 f8 f9 f10 f11 f12
      exact ⟨_, _, _, rfl, .inl q, t', _, _, _, _, _, _, _, _, _, _, _, rfl, rfl⟩)
  refine ⟨sG G0 0 ns t, ?_⟩
  simp only [f21, b21]
  have e0 : sG G0 0 ns (0, 0, 1) = [.lst [.int 0, .int 0, .lst (ns.map .int), .int 1]] := rfl
  rw [e0] at q
  have s3 : srcP .rng1 [.int 3] = some (rngD 0 3) := src_rng1 (by decide) (by decide)
  simp (config := {decide := true}) [startP, List.replicate, asgP_tk, disj, s3, q, stK, stP]
theorem main (ns : List Int) (hl : ns.length ≤ 63) : ∃ h', MP.callD prg.T MP.DEEP 21 [.rol (ns.map .int)] [] = .ok (.bl true) h' := by
  obtain ⟨g, q⟩ := c21 224 ns
  exact law_run q
end Law
end MQ
end
namespace MQ.Law
open PySem PySem.Spec PyProof.Rows MP
def loose : List Str := (["TOP", "FULL", "end_below", "end_above", "cut", "with_span", "cuts_of", "branch_facts", "_law_draw", "_law_word", "_law_bits", "_law_combine", "_law_weight", "_law_ends", "_law_around", "_law_link", "_law_origin", "_law_facts", "_law_fit", "_law_state", "_law_cut_to", "_law_limits", "_law_sent"] : List Str)
abbrev RR : PySem.W.OpenRow := PySem.W.OpenLaw.row PySem.Challenge.rw_unweave_k54_facts_of_branches
def seen (s : PySem.W.SharedT) : (He.AlD × Bool) × Bool := MP.obsMG 4 prg PW (HandSHeadRun.getT s)
theorem seen_eq (s : PySem.W.SharedT) : seen s = (MP.hookM 4 prg PW).obs s.abs := MP.obsMG_eq (HandSHeadRun.getT_eq s)
theorem top_run (w : World) : HandSHeadRun.RunEq RR (PySem.W.view RR.prog [26]) (MP.hookM 4 prg PW) seen 20000 loose w := by
  intro os
  kernel_rfl
end MQ.Law
open PySem PySem.W PySem.Calls PyProof.Rows
set_option maxHeartbeats 0 in
theorem PySem.Challenge.cw_unweave_k54_facts_of_branches_holds : PySem.Challenge.rw_unweave_k54_facts_of_branches.Holds := by
  w_on; o_law
  refine HandSHeadRun.head_any (r := MQ.Law.RR) (q := view MQ.Law.RR.prog [26]) (H := MP.hookM 4 MQ.Law.prg MQ.Law.PW) (ob := MQ.Law.seen) (M := 20000) (loose := MQ.Law.loose) (d := HandSHeadRun.topDef MQ.Law.RR.prog 26) (kwd := []) MQ.Law.seen_eq
    (by kernel_rfl) (fun s => by kernel_rfl) MQ.Law.top_run (by kernel_rfl) (by kernel_rfl) (by kernel_rfl) (by rfl) (by first | assumption | decide +kernel) (by decide +kernel) ⟨rfl, rfl, rfl, rfl, rfl, by decide +kernel⟩ ?hw ?hc
  case hw => w_witness2
  case hc => exact MP.law_ok (l := PySem.Challenge.rw_unweave_k54_facts_of_branches) (p := MQ.Law.prg) (i := 21) (dd := (.top 26, MQ.Law.f21)) (a := "_law_script") rfl (by kernel_rfl) MQ.Law.prg_is (by kernel_rfl) rfl rfl (by kernel_rfl) rfl MQ.Law.main
