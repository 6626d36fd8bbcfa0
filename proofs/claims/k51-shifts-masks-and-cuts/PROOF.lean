import PyProof.Rows.All
import Wide.All
import OpenK.AllK
import Wide.FinOn
import HandS.ForMost
import HandS.ForExc
import HandS.Flow
import HandS.Wide
import HandS.WideBits
import HandS.Deep
import HandS.IsInst
import HandS.SortInts
import HandS.TupAny
import HandS.CallSlots
import HandS.Head0
import HandS.Head1
import HandS.Head2
import HandS.HeadEnd
import HandS.HeadHook1
import HandS.HeadHook2
import HandS.Defaults
import PySem.Challenge.RW_unweave_k51_shifts_masks_and_cuts
section
set_option Elab.async false
set_option linter.all false
set_option maxRecDepth 100000
set_option maxHeartbeats 4000000
/-! MP, part a: a small language with a functional meaning. -/
namespace MP
open PySem

/-! ### values, objects, results -/
inductive MV where
  | non | bl (b : Bool) | int (i : Int) | str (x : Str) | tup (xs : List MV) | rol (xs : List MV) | loc (l : Nat) | ty (n : String) | cls (c : Nat)
inductive MO where
  | lst (xs : List MV)
  | ins (c : Nat) (fs : List (Nat × MV))
abbrev MH := List MO
structure Exn where
  c : Nat
  fs : List (Nat × MV)
inductive Res (α : Type) where
  | ok (a : α) (h : MH) | exc (x : Exn) (h : MH) | bad
namespace Res
def bind {α β : Type} : Res α → (α → MH → Res β) → Res β
  | .ok a h, f => f a h
  | .exc x h, _ => .exc x h
  | .bad, _ => .bad
@[simp] theorem bind_ok {α β : Type} (a : α) (h : MH) (f : α → MH → Res β) : (Res.ok a h).bind f = f a h := rfl
@[simp] theorem bind_exc {α β : Type} (x : Exn) (h : MH) (f : α → MH → Res β) : (Res.exc x h : Res α).bind f = .exc x h := rfl
@[simp] theorem bind_bad {α β : Type} (f : α → MH → Res β) : (Res.bad : Res α).bind f = .bad := rfl
end Res
abbrev En := List (Option MV)
/-- how a statement ends -/
inductive SR where
  | nx (e : En) (h : MH) | rt (v : MV) (h : MH) | bk (e : En) (h : MH) | ct (e : En) (h : MH) | exc (x : Exn) (e : En) (h : MH) | bad


/-! ### data under == (a mutual pair of relations; dat reads them) -/
mutual
inductive Dn (h : MH) : MV → PyData → Prop
  | non : Dn h .non .none
  | bl (b : Bool) : Dn h (.bl b) (.bool b)
  | int (i : Int) : Dn h (.int i) (.int i)
  | str (x : Str) : Dn h (.str x) (.str x)
  | tup {xs : List MV} {ds : List PyData} : Dns h xs ds → Dn h (.tup xs) (.tuple ds)
  | rol {xs : List MV} {ds : List PyData} : Dns h xs ds → Dn h (.rol xs) (.list ds)
  | loc {l : Nat} {xs : List MV} {ds : List PyData} : h[l]? = some (.lst xs) → Dns h xs ds → Dn h (.loc l) (.list ds)
inductive Dns (h : MH) : List MV → List PyData → Prop
  | nil : Dns h [] []
  | cons {x : MV} {xs : List MV} {d : PyData} {ds : List PyData} : Dn h x d → Dns h xs ds → Dns h (x :: xs) (d :: ds)
end
mutual
theorem Dn.inj {h : MH} : ∀ {d d' : PyData} {v : MV}, Dn h v d → Dn h v d' → d = d'
  | .none, _, _, .non, .non => rfl
  | .bool _, _, _, .bl _, .bl _ => rfl
  | .int _, _, _, .int _, .int _ => rfl
  | .str _, _, _, .str _, .str _ => rfl
  | .tuple ds, _, _, .tup a, .tup b => by rw [Dns.inj a b]
  | .list ds, _, _, .rol a, .rol b => by rw [Dns.inj a b]
  | .list ds, _, _, .loc e a, .loc e' b => by
    rw [e] at e'
    cases e'
    rw [Dns.inj a b]
theorem Dns.inj {h : MH} : ∀ {ds ds' : List PyData} {xs : List MV}, Dns h xs ds → Dns h xs ds' → ds = ds'
  | [], _, _, .nil, .nil => rfl
  | d :: ds, _, _, .cons a r, .cons b s => by rw [Dn.inj a b, Dns.inj r s]
end
open Classical in
noncomputable def dat (h : MH) (v : MV) : Option PyData := if e : ∃ d, Dn h v d then some (Classical.choose e) else none
theorem dat_of {h : MH} {v : MV} {d : PyData} (x : Dn h v d) : dat h v = some d := by
  have e : ∃ d, Dn h v d := ⟨d, x⟩
  unfold dat
  rw [dif_pos e, Dn.inj (Classical.choose_spec e) x]
theorem of_dat {h : MH} {v : MV} {d : PyData} (e : dat h v = some d) : Dn h v d := by
  unfold dat at e
  split at e
  · rename_i x
    rw [← Option.some.inj e]
    exact Classical.choose_spec x
  · cases e

/-! ### operations -/
inductive BOp where
  | add | sub | mul | fdiv | mod | pow
  deriving DecidableEq
inductive COp where
  | eq | ne | lt | le | gt | ge | is | isn | inn | nin
  deriving DecidableEq
inductive Bi where
  | len | min2 | max2 | abs | int | list | tuple | sum | isInt | isBool | sorted | isList | isTup | isStr | maxL | minL | allL | anyL
  deriving DecidableEq
inductive Mt where
  | append | pop | popAt
  deriving DecidableEq
inductive IK where
  | val | rng1 | rng2
  deriving DecidableEq
inductive Tg where
  | nm (i : Nat) | tp (is : List Nat)
  deriving DecidableEq

def addO (x y : MV) (h : MH) : Option (MV × MH) := match x, y with
  | .int i, .int j => some (.int (i + j), h)
  | .str a, .str b => if a.length + b.length ≤ sizeLine then some (.str (a ++ b), h) else none
  | .tup xs, .tup ys => if xs.length + ys.length ≤ sizeLine then some (.tup (xs ++ ys), h) else none
  | .loc a, .loc b => match h[a]?, h[b]? with
    | some (.lst xs), some (.lst ys) => if xs.length + ys.length ≤ sizeLine then some (.loc h.length, h ++ [.lst (xs ++ ys)]) else none
    | _, _ => none
  | _, _ => none
/-- x op= y on a name -/
def augO (o : BOp) (x y : MV) (h : MH) : Option (MV × MH) := match o, x, y with
  | .add, .int i, .int j => some (.int (i + j), h)
  | .sub, .int i, .int j => some (.int (i - j), h)
  | .mul, .int i, .int j => if CMulB i j then some (.int (i * j), h) else none
  | _, _, _ => none
where CMulB (i j : Int) : Bool := (decide (-(2 ^ 64) < i) && decide (i < 2 ^ 64)) || (decide (-(2 ^ 64) < j) && decide (j < 2 ^ 64))
def binO (o : BOp) (x y : MV) (h : MH) : Option (MV × MH) := match o with
  | .add => addO x y h
  | .sub => match x, y with
    | .int i, .int j => some (.int (i - j), h)
    | _, _ => none
  | .mul => match x, y with
    | .int i, .int j => if augO.CMulB i j then some (.int (i * j), h) else none
    | .loc a, .int k => match h[a]? with
      | some (.lst xs) => if -(2 ^ 63) ≤ k ∧ k < 2 ^ 63 ∧ xs.length * k.toNat ≤ sizeLine then some (.loc h.length, h ++ [.lst (List.replicate k.toNat xs).flatten]) else none
      | _ => none
    | _, _ => none
  | .fdiv => match x, y with
    | .int i, .int j => if j ≠ 0 ∧ j.natAbs < 1073741824 then some (.int (i.fdiv j), h) else none
    | _, _ => none
  | .mod => match x, y with
    | .int i, .int j => if j ≠ 0 then some (.int (i.fmod j), h) else none
    | _, _ => none
  | .pow => match x, y with
    | .int i, .int j => if 0 ≤ j ∧ j ≤ 1000000 ∧ i.natAbs < 2 ^ 64 then some (.int (i ^ j.toNat), h) else none
    | _, _ => none

noncomputable def eqO (x y : MV) (h : MH) : Option Bool := match dat h x, dat h y with
  | some d, some e => if SeqAt.shaped d = true ∧ SeqAt.shaped e = true then some (PyData.eqv d e) else none
  | _, _ => none
def MV.isNon : MV → Bool
  | .non => true
  | _ => false
/-- a flat thing -/
def flatM : MV → Bool
  | .non | .bl _ | .int _ | .str _ => true
  | _ => false
def flatD : MV → PyData
  | .bl b => .bool b
  | .int i => .int i
  | .str x => .str x
  | _ => .none
noncomputable def inO (x y : MV) (h : MH) : Option Bool := match y with
  | .tup ys => if flatM x = true ∧ ys.all flatM = true then some (ys.any fun z => PyData.eqv (flatD z) (flatD x)) else none
  | .loc _ | .rol _ => match dat h x, dat h y with
    | some d, some (.list ds) => if SeqAt.shaped d = true ∧ SeqAt.shaped (.list ds) = true then some (ds.any fun z => PyData.eqv z d) else none
    | _, _ => none
  | _ => none
noncomputable def cmpO (o : COp) (x y : MV) (h : MH) : Option Bool := match o with
  | .eq => eqO x y h
  | .ne => (eqO x y h).map (!·)
  | .is => match y with
    | .non => some x.isNon
    | _ => none
  | .isn => match y with
    | .non => some (!x.isNon)
    | _ => none
  | .inn => inO x y h
  | .nin => (inO x y h).map (!·)
  | .lt => match x, y with
    | .int i, .int j => some (decide (i < j))
    | _, _ => none
  | .le => match x, y with
    | .int i, .int j => some (decide (i ≤ j))
    | _, _ => none
  | .gt => match x, y with
    | .int i, .int j => some (decide (j < i))
    | _, _ => none
  | .ge => match x, y with
    | .int i, .int j => some (decide (j ≤ i))
    | _, _ => none
def truO (x : MV) (h : MH) : Option Bool := match x with
  | .non => some false
  | .bl b => some b
  | .int i => some (i != 0)
  | .str y => if y.length ≤ sizeLine then some ((y.length : Int) != 0) else none
  | .tup xs => some (!xs.isEmpty)
  | .rol xs => some (!xs.isEmpty)
  | .loc l => match h[l]? with
    | some (.lst xs) => some (!xs.isEmpty)
    | _ => none
  | _ => none
def oR {α : Type} (h : MH) : Option α → Res α
  | some a => .ok a h
  | none => .bad
@[simp] theorem oR_some {α : Type} (h : MH) (a : α) : oR h (some a) = .ok a h := rfl
@[simp] theorem oR_none {α : Type} (h : MH) : oR h (none : Option α) = .bad := rfl
def oP : Option (MV × MH) → Res MV
  | some (a, h) => .ok a h
  | none => .bad
@[simp] theorem oP_some (a : MV) (h : MH) : oP (some (a, h)) = .ok a h := rfl
@[simp] theorem oP_none : oP none = .bad := rfl
/-- the items of a list or tuple -/
def itemsO (x : MV) (h : MH) : Option (List MV) := match x with
  | .tup xs => some xs
  | .rol xs => some xs
  | .loc l => match h[l]? with
    | some (.lst xs) => some xs
    | _ => none
  | _ => none
/-- the items of a list -/
def listO (x : MV) (h : MH) : Option (List MV) := match x with
  | .rol xs => some xs
  | .loc l => match h[l]? with
    | some (.lst xs) => some xs
    | _ => none
  | _ => none
def ixO (x y : MV) (h : MH) : Option MV := match y with
  | .int i => match x with
    | .str z => if z.length ≤ sizeLine then (L2.atI z.cps.toList i).map fun c => .str ⟨#[c]⟩ else none
    | _ => (itemsO x h).bind fun xs => L2.atI xs i
  | _ => none
def cutM (xs : List MV) (lo hi : Option Int) : List MV := (xs.drop (HT.sIx xs.length 0 lo)).take (HT.sIx xs.length xs.length hi - HT.sIx xs.length 0 lo)
def slO (x : MV) (l u : Option Int) (h : MH) : Option (MV × MH) := match x with
  | .loc a => match h[a]? with
    | some (.lst xs) => some (.loc h.length, h ++ [.lst (cutM xs l u)])
    | _ => none
  | .rol xs => some (.loc h.length, h ++ [.lst (cutM xs l u)])
  | .tup xs => if HT.sIx xs.length 0 l = 0 ∧ HT.sIx xs.length xs.length u = xs.length then none else some (.tup (cutM xs l u), h)
  | _ => none
def intsO : List MV → Option (List Int)
  | [] => some []
  | .int i :: r => (intsO r).map (i :: ·)
  | _ :: _ => none
def blsO : List MV → Option (List Bool)
  | [] => some []
  | .bl b :: r => (blsO r).map (b :: ·)
  | _ :: _ => none
/-- a value's type's name -/
def tyNmM (x : MV) (h : MH) : Option String := match x with
  | .int _ => some "int"
  | .bl _ => some "bool"
  | .non => some "NoneType"
  | .str _ => some "str"
  | .tup _ => some "tuple"
  | .rol _ => some "list"
  | .loc l => match h[l]? with
    | some (.lst _) => some "list"
    | _ => none
  | _ => none
def maxI : Int → List Int → Int
  | a, [] => a
  | a, b :: r => maxI (if b > a then b else a) r
def minI : Int → List Int → Int
  | a, [] => a
  | a, b :: r => minI (if b < a then b else a) r
def biO (b : Bi) (vs : List MV) (h : MH) : Option (MV × MH) := match b, vs with
  | .len, [.str x] => if x.length ≤ sizeLine then some (.int x.length, h) else none
  | .len, [x] => (itemsO x h).map fun xs => (.int xs.length, h)
  | .min2, [.int i, .int j] => some (.int (if j < i then j else i), h)
  | .max2, [.int i, .int j] => some (.int (if j > i then j else i), h)
  | .abs, [.int i] => some (.int (if i < 0 then -i else i), h)
  | .int, [.int i] => some (.int i, h)
  | .int, [.bl k] => some (.int (if k then 1 else 0), h)
  | .list, [x] => match itemsO x h with
    | some xs => some (.loc h.length, h ++ [.lst xs])
    | none => none
  | .tuple, [.tup xs] => some (.tup xs, h)
  | .tuple, [x] => (itemsO x h).map fun xs => (.tup xs, h)
  | .sum, [x] => ((listO x h).bind intsO).map fun ns => (.int ns.sum, h)
  | .isInt, [x] => match x with
    | .int _ | .bl _ => some (.bl true, h)
    | .non | .str _ | .tup _ | .rol _ => some (.bl false, h)
    | .loc l => match h[l]? with
      | some (.lst _) => some (.bl false, h)
      | _ => none
    | _ => none
  | .isBool, [x] => match x with
    | .bl _ => some (.bl true, h)
    | .int _ | .non | .str _ | .tup _ | .rol _ => some (.bl false, h)
    | .loc l => match h[l]? with
      | some (.lst _) => some (.bl false, h)
      | _ => none
    | _ => none
  | .sorted, [x] => match (listO x h).bind intsO with
    | some ns => some (.loc h.length, h ++ [.lst ((ns.mergeSort (fun a b => decide (a ≤ b))).map .int)])
    | none => none
  | .allL, [x] => ((listO x h).bind blsO).map fun bs => (.bl (bs.all id), h)
  | .anyL, [x] => ((listO x h).bind blsO).map fun bs => (.bl (bs.any id), h)
  | .isList, [x] => (tyNmM x h).map fun t => (.bl (t == "list"), h)
  | .isTup, [x] => (tyNmM x h).map fun t => (.bl (t == "tuple"), h)
  | .isStr, [x] => (tyNmM x h).map fun t => (.bl (t == "str"), h)
  | .maxL, [x] => match (listO x h).bind intsO with
    | some (n :: ns) => some (.int (maxI n ns), h)
    | _ => none
  | .minL, [x] => match (listO x h).bind intsO with
    | some (n :: ns) => some (.int (minI n ns), h)
    | _ => none
  | _, _ => none
def mtO (m : Mt) (x : MV) (vs : List MV) (h : MH) : Option (MV × MH) := match x with
  | .loc l => match h[l]? with
    | some (.lst xs) => match m, vs with
      | .append, [y] => if xs.length < sizeLine then some (.non, h.set l (.lst (xs ++ [y]))) else none
      | .pop, [] => match xs[xs.length - 1]? with
        | some y => some (y, h.set l (.lst xs.dropLast))
        | none => none
      | .popAt, [.int i] => if -(2 ^ 63) ≤ i ∧ i < 2 ^ 63 then match PySem.seqIndex? i xs.length with
          | some k => match xs[k]? with
            | some y => some (y, h.set l (.lst (xs.eraseIdx k)))
            | none => none
          | none => none
        else none
      | _, _ => none
    | _ => none
  | _ => none
/-- the receiver of a method, ahead of its arguments -/
def recvO (m : Mt) (x : MV) (h : MH) : Bool := match x with
  | .loc l => match h[l]? with
    | some (.lst _) => true
    | _ => false
  | _ => false
def setIxO (o i v : MV) (h : MH) : Option MH := match o, i with
  | .loc l, .int k => match h[l]? with
    | some (.lst xs) => (L2.ixN xs.length k).map fun j => h.set l (.lst (xs.set j v))
    | _ => none
  | _, _ => none
/-- what a for walks: the item at turn i, none at the end -/
abbrev Src := Nat → MH → Option (Option MV)
def rngOk (i : Int) : Bool := decide (-(2 ^ 62) ≤ i) && decide (i < 2 ^ 62)
def srcO (k : IK) (vs : List MV) (h : MH) : Option Src := match k, vs with
  | .val, [.tup xs] => some fun i _ => some xs[i]?
  | .val, [.rol xs] => some fun i _ => some xs[i]?
  | .val, [.loc l] => match h[l]? with
    | some (.lst _) => some fun i h => match h[l]? with
      | some (.lst xs) => some xs[i]?
      | _ => none
    | _ => none
  | .rng1, [.int j] => if rngOk j then some fun i _ => some (if i < j.toNat then some (.int (0 + i)) else none) else none
  | .rng2, [.int a, .int b] => if rngOk a && rngOk b then some fun i _ => some (if i < (b - a).toNat then some (.int (a + i)) else none) else none
  | _, _ => none
def tgSets : List Nat → List MV → En → Option En
  | [], [], e => some e
  | i :: is, v :: vs, e => tgSets is vs (e.set i (some v))
  | _, _, _ => none
def Tg.set (t : Tg) (v : MV) (e : En) : Option En := match t with
  | .nm i => some (e.set i (some v))
  | .tp is => match v with
    | .tup xs => tgSets is xs e
    | _ => none

/-! ### loops without a bound -/
section
variable {S R : Type}
def loopN (bad : R) (turn : Nat → S → S ⊕ R) : Nat → Nat → S → R
  | 0, _, _ => bad
  | n + 1, i, s => match turn i s with
    | .inl s' => loopN bad turn n (i + 1) s'
    | .inr r => r
theorem loopN_mono {bad : R} {turn : Nat → S → S ⊕ R} : ∀ {n i : Nat} {s : S} {r : R}, loopN bad turn n i s = r → r ≠ bad → ∀ m, n ≤ m → loopN bad turn m i s = r
  | 0, _, _, _, e, hb, _, _ => absurd e.symm hb
  | n + 1, i, s, r, e, hb, 0, h => absurd h (Nat.not_succ_le_zero n)
  | n + 1, i, s, r, e, hb, m + 1, h => by
    unfold loopN at e ⊢
    cases q : turn i s with
    | inl s' =>
      rw [q] at e
      exact loopN_mono e hb m (Nat.le_of_succ_le_succ h)
    | inr r' =>
      rw [q] at e
      exact e
open Classical in
noncomputable def loop (bad : R) (turn : Nat → S → S ⊕ R) (i : Nat) (s : S) : R := if x : ∃ n, loopN bad turn n i s ≠ bad then loopN bad turn (Classical.choose x) i s else bad
theorem loop_of {bad : R} {turn : Nat → S → S ⊕ R} {n i : Nat} {s : S} {r : R} (e : loopN bad turn n i s = r) (hb : r ≠ bad) : loop bad turn i s = r := by
  have x : ∃ n, loopN bad turn n i s ≠ bad := ⟨n, by rw [e]; exact hb⟩
  unfold loop
  rw [dif_pos x]
  have e2 := loopN_mono (turn := turn) rfl (Classical.choose_spec x) (max n (Classical.choose x)) (Nat.le_max_right _ _)
  have e1 := loopN_mono e hb (max n (Classical.choose x)) (Nat.le_max_left _ _)
  rw [← e2, e1]
theorem of_loop {bad : R} {turn : Nat → S → S ⊕ R} {i : Nat} {s : S} (hb : loop bad turn i s ≠ bad) : ∃ n, loopN bad turn n i s = loop bad turn i s := by
  by_cases x : ∃ n, loopN bad turn n i s ≠ bad
  · refine ⟨Classical.choose x, ?_⟩
    unfold loop
    rw [dif_pos x]
  · unfold loop at hb
    rw [dif_neg x] at hb
    exact absurd rfl hb
theorem loop_eq (bad : R) (turn : Nat → S → S ⊕ R) (i : Nat) (s : S) : loop bad turn i s = match turn i s with
    | .inl s' => loop bad turn (i + 1) s'
    | .inr r => r := by
  cases q : turn i s with
  | inr r =>
    show loop bad turn i s = r
    by_cases hb : r = bad
    · unfold loop
      have x : ¬ ∃ n, loopN bad turn n i s ≠ bad := by
        rintro ⟨n, hn⟩
        cases n with
        | zero => exact hn rfl
        | succ n =>
          unfold loopN at hn
          rw [q] at hn
          exact hn hb
      rw [dif_neg x, hb]
    · refine loop_of (n := 1) ?_ hb
      unfold loopN
      rw [q]
  | inl s' =>
    show loop bad turn i s = loop bad turn (i + 1) s'
    by_cases hb : loop bad turn (i + 1) s' = bad
    · rw [hb]
      unfold loop
      have x : ¬ ∃ n, loopN bad turn n i s ≠ bad := by
        rintro ⟨n, hn⟩
        cases n with
        | zero => exact hn rfl
        | succ n =>
          unfold loopN at hn
          rw [q] at hn
          exact hn ((loop_of (turn := turn) (n := n) rfl hn).symm.trans hb)
      rw [dif_neg x]
    · obtain ⟨n, e⟩ := of_loop hb
      refine loop_of (n := n + 1) ?_ hb
      unfold loopN
      rw [q]
      exact e
end

/-! ### the language -/
inductive E where
  | var (i : Nat)
  | lit (v : MV)
  | bin (o : BOp) (a b : E)
  | neg (a : E)
  | not (a : E)
  | cmp (o : COp) (a b : E)
  | cmp2 (o o' : COp) (a b c : E)
  | and (a b : E)
  | or (a b : E)
  | ite (c a b : E)
  | tup (es : List E)
  | lst (es : List E)
  | ix (a b : E)
  | sl (a : E) (lo hi : Option E)
  | call (f : Nat) (es : List E)
  | bi (b : Bi) (es : List E)
  | mt (m : Mt) (o : E) (es : List E)
  | comp (ws : List Nat) (t : Tg) (k : IK) (es : List E) (elt : E)
  | compIf (ws : List Nat) (t : Tg) (k : IK) (es : List E) (c elt : E)
inductive S where
  | expr (e : E)
  | asg (t : Tg) (e : E)
  | aug (i : Nat) (o : BOp) (e : E)
  | setIx (o i v : E)
  | ret (e : E)
  | iff (c : E) (a b : List S)
  | whl (c : E) (b : List S)
  | for_ (t : Tg) (k : IK) (es : List E) (b : List S)
  | brk | cont | pass | bad

def wipeM (e : En) : List Nat → En
  | [] => e
  | v :: vs => (wipeM e vs).set v none
abbrev Cl := Nat → List MV → MH → Res MV
/-- one turn of a comprehension -/
def compTurn (src : Src) (t : Tg) (e : En) (tst : En → MH → Res Bool) (elt : En → MH → Res MV) (i : Nat) : (List MV × MH) → (List MV × MH) ⊕ Res MV
  | (acc, h) => match src i h with
    | none => .inr .bad
    | some none => .inr (.ok (.loc h.length) (h ++ [.lst acc]))
    | some (some v) => match t.set v e with
      | none => .inr .bad
      | some e' => match tst e' h with
        | .ok true h1 => match elt e' h1 with
          | .ok y h2 => if acc.length < sizeLine then .inl (acc ++ [y], h2) else .inr .bad
          | _ => .inr .bad
        | .ok false h1 => .inl (acc, h1)
        | _ => .inr .bad
mutual
noncomputable def E.den (C : Cl) : E → En → MH → Res MV
  | .var i, e, h => match e[i]? with
    | some (some v) => .ok v h
    | _ => .bad
  | .lit v, _, h => .ok v h
  | .bin o a b, e, h => (E.den C a e h).bind fun x h1 => (E.den C b e h1).bind fun y h2 => oP (binO o x y h2)
  | .neg a, e, h => (E.den C a e h).bind fun x h1 => match x with
    | .int i => .ok (.int (-i)) h1
    | _ => .bad
  | .not a, e, h => (E.den C a e h).bind fun x h1 => (oR h1 (truO x h1)).bind fun k h2 => .ok (.bl (!k)) h2
  | .cmp o a b, e, h => (E.den C a e h).bind fun x h1 => (E.den C b e h1).bind fun y h2 => (oR h2 (cmpO o x y h2)).bind fun k h3 => .ok (.bl k) h3
  | .cmp2 o o' a b c, e, h => (E.den C a e h).bind fun x h1 => (E.den C b e h1).bind fun y h2 => (oR h2 (cmpO o x y h2)).bind fun k h3 =>
      if k = true then (E.den C c e h3).bind fun z h4 => (oR h4 (cmpO o' y z h4)).bind fun k h5 => .ok (.bl k) h5 else .ok (.bl false) h3
  | .and a b, e, h => (E.den C a e h).bind fun x h1 => (oR h1 (truO x h1)).bind fun k h2 => if k = true then E.den C b e h2 else .ok x h2
  | .or a b, e, h => (E.den C a e h).bind fun x h1 => (oR h1 (truO x h1)).bind fun k h2 => if k = true then .ok x h2 else E.den C b e h2
  | .ite c a b, e, h => (E.den C c e h).bind fun x h1 => (oR h1 (truO x h1)).bind fun k h2 => if k = true then E.den C a e h2 else E.den C b e h2
  | .tup es, e, h => (Es.den C es e h).bind fun vs h1 => if vs.length ≤ sizeLine then .ok (.tup vs) h1 else .bad
  | .lst es, e, h => (Es.den C es e h).bind fun vs h1 => if vs.length ≤ sizeLine then .ok (.loc h1.length) (h1 ++ [.lst vs]) else .bad
  | .ix a b, e, h => (E.den C a e h).bind fun x h1 => (E.den C b e h1).bind fun y h2 => oR h2 (ixO x y h2)
  | .sl a lo hi, e, h => (E.den C a e h).bind fun x h1 => (Eo.den C lo e h1).bind fun l h2 => (Eo.den C hi e h2).bind fun u h3 => oP (slO x l u h3)
  | .call f es, e, h => (Es.den C es e h).bind fun vs h1 => C f vs h1
  | .bi b es, e, h => (Es.den C es e h).bind fun vs h1 => oP (biO b vs h1)
  | .mt m o es, e, h => (E.den C o e h).bind fun x h1 => if recvO m x h1 = true then (Es.den C es e h1).bind fun vs h2 => oP (mtO m x vs h2) else .bad
  | .comp ws t k es elt, e, h => (Es.den C es e h).bind fun vs h1 => match srcO k vs h1 with
    | none => .bad
    | some src => loop .bad (compTurn src t (wipeM e ws) (fun _ h => .ok true h) (fun e h => E.den C elt e h)) 0 ([], h1)
  | .compIf ws t k es c elt, e, h => (Es.den C es e h).bind fun vs h1 => match srcO k vs h1 with
    | none => .bad
    | some src => loop .bad (compTurn src t (wipeM e ws) (fun e h => (E.den C c e h).bind fun x h1 => oR h1 (truO x h1)) (fun e h => E.den C elt e h)) 0 ([], h1)
noncomputable def Eo.den (C : Cl) : Option E → En → MH → Res (Option Int)
  | none, _, h => .ok none h
  | some a, e, h => (E.den C a e h).bind fun x h1 => match x with
    | .int i => .ok (some i) h1
    | _ => .bad
noncomputable def Es.den (C : Cl) : List E → En → MH → Res (List MV)
  | [], _, h => .ok [] h
  | a :: es, e, h => (E.den C a e h).bind fun v h1 => (Es.den C es e h1).bind fun vs h2 => .ok (v :: vs) h2
end
/-- a test -/
noncomputable def E.tst (C : Cl) (a : E) (e : En) (h : MH) : Res Bool := (E.den C a e h).bind fun x h1 => oR h1 (truO x h1)
def Res.sr {α : Type} (r : Res α) (e : En) (f : α → MH → SR) : SR := match r with
  | .ok a h => f a h
  | .exc x h => .exc x e h
  | .bad => .bad
@[simp] theorem Res.sr_ok {α : Type} (a : α) (h : MH) (e : En) (f : α → MH → SR) : (Res.ok a h).sr e f = f a h := rfl
@[simp] theorem Res.sr_exc {α : Type} (x : Exn) (h : MH) (e : En) (f : α → MH → SR) : (Res.exc x h : Res α).sr e f = .exc x e h := rfl
@[simp] theorem Res.sr_bad {α : Type} (e : En) (f : α → MH → SR) : (Res.bad : Res α).sr e f = .bad := rfl
def SR.seq (r : SR) (f : En → MH → SR) : SR := match r with
  | .nx e h => f e h
  | q => q
@[simp] theorem SR.seq_nx (e : En) (h : MH) (f : En → MH → SR) : (SR.nx e h).seq f = f e h := rfl
@[simp] theorem SR.seq_rt (v : MV) (h : MH) (f : En → MH → SR) : (SR.rt v h).seq f = .rt v h := rfl
@[simp] theorem SR.seq_bk (e : En) (h : MH) (f : En → MH → SR) : (SR.bk e h).seq f = .bk e h := rfl
@[simp] theorem SR.seq_ct (e : En) (h : MH) (f : En → MH → SR) : (SR.ct e h).seq f = .ct e h := rfl
@[simp] theorem SR.seq_exc (x : Exn) (e : En) (h : MH) (f : En → MH → SR) : (SR.exc x e h).seq f = .exc x e h := rfl
@[simp] theorem SR.seq_bad (f : En → MH → SR) : SR.bad.seq f = .bad := rfl
/-- behind a loop's body -/
def SR.turn : SR → (En × MH) ⊕ SR
  | .nx e h => .inl (e, h)
  | .ct e h => .inl (e, h)
  | .bk e h => .inr (.nx e h)
  | q => .inr q
noncomputable def whileTurn (C : Cl) (c : E) (b : En → MH → SR) (_ : Nat) : (En × MH) → (En × MH) ⊕ SR
  | (e, h) => match E.tst C c e h with
    | .ok true h1 => (b e h1).turn
    | .ok false h1 => .inr (.nx e h1)
    | .exc x h1 => .inr (.exc x e h1)
    | .bad => .inr .bad
def forTurn (src : Src) (t : Tg) (b : En → MH → SR) (i : Nat) : (En × MH) → (En × MH) ⊕ SR
  | (e, h) => match src i h with
    | none => .inr .bad
    | some none => .inr (.nx e h)
    | some (some v) => match t.set v e with
      | none => .inr .bad
      | some e' => (b e' h).turn
mutual
noncomputable def S.den (C : Cl) : S → En → MH → SR
  | .expr a, e, h => (E.den C a e h).sr e fun _ h1 => .nx e h1
  | .asg t a, e, h => (E.den C a e h).sr e fun v h1 => match t.set v e with
    | some e' => .nx e' h1
    | none => .bad
  | .aug i o a, e, h => match e[i]? with
    | some (some x) => (E.den C a e h).sr e fun y h1 => (oP (augO o x y h1)).sr e fun z h2 => .nx (e.set i (some z)) h2
    | _ => .bad
  | .setIx o i a, e, h => (E.den C a e h).sr e fun v h1 => (E.den C o e h1).sr e fun x h2 => (E.den C i e h2).sr e fun y h3 => match setIxO x y v h3 with
    | some h4 => .nx e h4
    | none => .bad
  | .ret a, e, h => (E.den C a e h).sr e fun v h1 => .rt v h1
  | .iff c a b, e, h => (E.tst C c e h).sr e fun k h1 => if k = true then Ss.den C a e h1 else Ss.den C b e h1
  | .whl c b, e, h => loop .bad (whileTurn C c (fun e h => Ss.den C b e h)) 0 (e, h)
  | .for_ t k es b, e, h => (Es.den C es e h).sr e fun vs h1 => match srcO k vs h1 with
    | none => .bad
    | some src => loop .bad (forTurn src t (fun e h => Ss.den C b e h)) 0 (e, h1)
  | .brk, e, h => .bk e h
  | .cont, e, h => .ct e h
  | .pass, e, h => .nx e h
  | .bad, _, _ => .bad
noncomputable def Ss.den (C : Cl) : List S → En → MH → SR
  | [], e, h => .nx e h
  | s :: r, e, h => (S.den C s e h).seq fun e h => Ss.den C r e h
end

structure Fn where
  name : String
  ps : List String
  loc : List String
  body : List S
def Fn.start (f : Fn) (vs : List MV) : En := vs.map some ++ List.replicate (f.ps.length + f.loc.length - vs.length) none
def SR.res : SR → Res MV
  | .rt v h => .ok v h
  | .nx _ h => .ok .non h
  | .exc x _ h => .exc x h
  | _ => .bad
@[simp] theorem SR.res_rt (v : MV) (h : MH) : (SR.rt v h).res = .ok v h := rfl
@[simp] theorem SR.res_nx (e : En) (h : MH) : (SR.nx e h).res = .ok .non h := rfl
@[simp] theorem SR.res_exc (x : Exn) (e : En) (h : MH) : (SR.exc x e h).res = .exc x h := rfl
noncomputable def callD (T : List Fn) : Nat → Cl
  | 0, _, _, _ => .bad
  | d + 1, f, vs, h => match T[f]? with
    | some fn => if vs.length = fn.ps.length then (Ss.den (callD T d) fn.body (fn.start vs) h).res else .bad
    | none => .bad
end MP
end
section
set_option Elab.async false
set_option linter.all false
set_option maxRecDepth 100000
set_option maxHeartbeats 4000000
/-! MP, part b: how the small language's state stands in the hand layer's abstract heap. -/
namespace MP
open PySem PySem.Spec PyProof.Rows L2

/-- a list that nobody writes: the script, or the module's own -/
def SqC (K : PySem.W.Frag) (H : Hp) (a : Addr) (xs : List V) : Prop :=
  (∃ o, H a = some (.frz o (.lst xs))) ∨
    ∃ (o : Obj) (its : Array Value) (n : Nat), K.lookup a = some o ∧ o.cls = .type "list" ∧ o.dict = none ∧ o.data = .seq its n ∧ its.size ≤ sizeLine ∧ Vals xs its.toList
theorem SqC.sq {K : PySem.W.Frag} {H : Hp} {a : Addr} {xs : List V} (h : SqC K H a xs) : SqL K H a xs := by
  rcases h with ⟨o, h⟩ | h
  · exact .inl (.inr ⟨o, h⟩)
  · exact .inr h
mutual
def RepV (K : PySem.W.Frag) (ρ : List Addr) (H : Hp) : MV → V → Prop
  | .non, v => v = .non
  | .bl b, v => v = .bl b
  | .int i, v => v = .int i
  | .str x, v => v = .str x
  | .tup xs, v => ∃ a vs, v = .ref a ∧ SqT K H a vs ∧ RepVs K ρ H xs vs
  | .rol xs, v => ∃ a vs, v = .ref a ∧ SqC K H a vs ∧ RepVs K ρ H xs vs
  | .loc l, v => ∃ a, ρ[l]? = some a ∧ v = .ref a
  | .ty n, v => v = .ty n
  | .cls _, _ => False
def RepVs (K : PySem.W.Frag) (ρ : List Addr) (H : Hp) : List MV → List V → Prop
  | [], vs => vs = []
  | x :: xs, vs => ∃ w ws, vs = w :: ws ∧ RepV K ρ H x w ∧ RepVs K ρ H xs ws
end
def RepO (K : PySem.W.Frag) (ρ : List Addr) (H : Hp) (a : Addr) : MO → Prop
  | .lst xs => ∃ vs, H a = some (.lst vs) ∧ RepVs K ρ H xs vs
  | .ins _ _ => False
/-- what stands at a tracked place of ours -/
def MutK : HO → Prop
  | .lst _ => True
  | _ => False
structure Rep (K : PySem.W.Frag) (ρ : List Addr) (h : MH) (H : Hp) : Prop where
  len : ρ.length = h.length
  nd : ρ.Nodup
  obj : ∀ (l : Nat) (o : MO), h[l]? = some o → ∃ a : Addr, ρ[l]? = some a ∧ RepO K ρ H a o
structure Ext (ρ : List Addr) (H : Hp) (ρ' : List Addr) (H' : Hp) : Prop where
  pre : ∃ t, ρ' = ρ ++ t
  fr : ∀ a o, H a = some o → a ∉ ρ → H' a = some o
  new : ∀ a, a ∈ ρ' → a ∈ ρ ∨ H a = none
section
variable {K : PySem.W.Frag} {ρ ρ1 ρ2 : List Addr} {h h1 h2 : MH} {H H1 H2 : Hp}
theorem RepO.kind {a : Addr} {o : MO} (r : RepO K ρ H a o) : ∃ u, H a = some u ∧ MutK u := by
  cases o with
  | lst xs =>
    obtain ⟨vs, e, _⟩ := r
    exact ⟨_, e, trivial⟩
  | ins _ _ => exact False.elim r
theorem Rep.kind (r : Rep K ρ h H) {a : Addr} (m : a ∈ ρ) : ∃ u, H a = some u ∧ MutK u := by
  obtain ⟨l, hl, e⟩ := List.getElem_of_mem m
  have hl' : l < h.length := by rw [← r.len]; exact hl
  obtain ⟨b, e1, q⟩ := r.obj l _ (List.getElem?_eq_getElem hl')
  have : b = a := by
    rw [List.getElem?_eq_getElem hl, e] at e1
    exact (Option.some.inj e1).symm
  subst this
  exact q.kind
theorem Ext.refl : Ext ρ H ρ H := ⟨⟨[], by simp⟩, fun _ _ e _ => e, fun _ m => .inl m⟩
theorem Ext.trans (x : Ext ρ H ρ1 H1) (y : Ext ρ1 H1 ρ2 H2) : Ext ρ H ρ2 H2 := by
  refine ⟨?_, fun a o e n => ?_, fun a m => ?_⟩
  · obtain ⟨t, e⟩ := x.pre
    obtain ⟨u, e'⟩ := y.pre
    exact ⟨t ++ u, by rw [e', e, List.append_assoc]⟩
  · refine y.fr a o (x.fr a o e n) fun m => ?_
    rcases x.new a m with m | z
    · exact n m
    · rw [e] at z; cases z
  · rcases y.new a m with m | z
    · exact x.new a m
    · by_cases ma : a ∈ ρ
      · exact .inl ma
      · refine .inr ?_
        cases q : H a with
        | none => rfl
        | some o =>
          rw [x.fr a o q ma] at z
          cases z
theorem Ext.at (x : Ext ρ H ρ1 H1) {l : Nat} {a : Addr} (e : ρ[l]? = some a) : ρ1[l]? = some a := by
  obtain ⟨t, rfl⟩ := x.pre
  rw [List.getElem?_append_left (List.getElem?_eq_some_iff.mp e).1]
  exact e
/-- what the readings of values lean on stays -/
structure Kp (ρ : List Addr) (H : Hp) (ρ' : List Addr) (H' : Hp) : Prop where
  pre : ∃ t, ρ' = ρ ++ t
  kt : ∀ a xs, H a = some (.tup xs) → H' a = some (.tup xs)
  kf : ∀ a o u, H a = some (.frz o u) → H' a = some (.frz o u)
theorem Kp.at (x : Kp ρ H ρ1 H1) {l : Nat} {a : Addr} (e : ρ[l]? = some a) : ρ1[l]? = some a := by
  obtain ⟨t, rfl⟩ := x.pre
  rw [List.getElem?_append_left (List.getElem?_eq_some_iff.mp e).1]
  exact e
theorem Rep.kp (r : Rep K ρ h H) (x : Ext ρ H ρ1 H1) : Kp ρ H ρ1 H1 := by
  refine ⟨x.pre, fun a xs q => x.fr a _ q fun m => ?_, fun a o u q => x.fr a _ q fun m => ?_⟩
  · obtain ⟨u, e, k⟩ := r.kind m
    rw [q] at e; cases e; exact k
  · obtain ⟨u, e, k⟩ := r.kind m
    rw [q] at e; cases e; exact k
theorem Kp.sqT (x : Kp ρ H ρ1 H1) {a : Addr} {vs : List V} (q : SqT K H a vs) : SqT K H1 a vs := by
  rcases q with (q | ⟨o, q⟩) | q
  · exact .inl (.inl (x.kt _ _ q))
  · exact .inl (.inr ⟨o, x.kf _ _ _ q⟩)
  · exact .inr q
theorem Kp.sqC (x : Kp ρ H ρ1 H1) {a : Addr} {vs : List V} (q : SqC K H a vs) : SqC K H1 a vs := by
  rcases q with ⟨o, q⟩ | q
  · exact .inl ⟨o, x.kf _ _ _ q⟩
  · exact .inr q
mutual
theorem RepV.keep (x : Kp ρ H ρ1 H1) : ∀ {m : MV} {v : V}, RepV K ρ H m v → RepV K ρ1 H1 m v
  | .non, _, q => by unfold RepV at q ⊢; exact q
  | .bl _, _, q => by unfold RepV at q ⊢; exact q
  | .int _, _, q => by unfold RepV at q ⊢; exact q
  | .str _, _, q => by unfold RepV at q ⊢; exact q
  | .ty _, _, q => by unfold RepV at q ⊢; exact q
  | .cls _, _, q => by unfold RepV at q; exact q.elim
  | .loc _, _, q => by
    unfold RepV at q ⊢
    obtain ⟨a, e, z⟩ := q
    exact ⟨a, x.at e, z⟩
  | .tup xs, _, q => by
    unfold RepV at q ⊢
    obtain ⟨a, vs, e, s, z⟩ := q
    exact ⟨a, vs, e, x.sqT s, RepVs.keep x z⟩
  | .rol xs, _, q => by
    unfold RepV at q ⊢
    obtain ⟨a, vs, e, s, z⟩ := q
    exact ⟨a, vs, e, x.sqC s, RepVs.keep x z⟩
theorem RepVs.keep (x : Kp ρ H ρ1 H1) : ∀ {ms : List MV} {vs : List V}, RepVs K ρ H ms vs → RepVs K ρ1 H1 ms vs
  | [], _, q => by unfold RepVs at q ⊢; exact q
  | m :: ms, _, q => by
    unfold RepVs at q ⊢
    obtain ⟨w, ws, e, a, b⟩ := q
    exact ⟨w, ws, e, RepV.keep x a, RepVs.keep x b⟩
end
theorem RepV.mono (r : Rep K ρ h H) (x : Ext ρ H ρ1 H1) {m : MV} {v : V} (q : RepV K ρ H m v) : RepV K ρ1 H1 m v := q.keep (r.kp x)
theorem RepVs.mono (r : Rep K ρ h H) (x : Ext ρ H ρ1 H1) {ms : List MV} {vs : List V} (q : RepVs K ρ H ms vs) : RepVs K ρ1 H1 ms vs := q.keep (r.kp x)
theorem RepVs.length : ∀ {ms : List MV} {vs : List V}, RepVs K ρ H ms vs → vs.length = ms.length
  | [], _, q => by unfold RepVs at q; rw [q]; rfl
  | m :: ms, _, q => by
    unfold RepVs at q
    obtain ⟨w, ws, e, _, b⟩ := q
    rw [e, List.length_cons, List.length_cons, b.length]
theorem RepVs.get : ∀ {ms : List MV} {vs : List V} {i : Nat} {m : MV}, RepVs K ρ H ms vs → ms[i]? = some m → ∃ w, vs[i]? = some w ∧ RepV K ρ H m w
  | [], _, _, _, _, e => by simp at e
  | x :: xs, _, 0, m, q, e => by
    unfold RepVs at q
    obtain ⟨w, ws, rfl, a, _⟩ := q
    simp at e
    subst e
    exact ⟨w, rfl, a⟩
  | x :: xs, _, i + 1, m, q, e => by
    unfold RepVs at q
    obtain ⟨w, ws, rfl, _, b⟩ := q
    obtain ⟨u, e1, r1⟩ := RepVs.get (i := i) b (by simpa using e)
    exact ⟨u, by simpa using e1, r1⟩
theorem RepVs.append : ∀ {ms ns : List MV} {vs ws : List V}, RepVs K ρ H ms vs → RepVs K ρ H ns ws → RepVs K ρ H (ms ++ ns) (vs ++ ws)
  | [], _, _, _, q, q' => by unfold RepVs at q; rw [q]; exact q'
  | m :: ms, _, _, _, q, q' => by
    unfold RepVs at q
    obtain ⟨w, ws, rfl, a, b⟩ := q
    show RepVs K ρ H (m :: (ms ++ _)) (w :: (ws ++ _))
    unfold RepVs
    exact ⟨w, _, rfl, a, RepVs.append b q'⟩
theorem RepVs.one {m : MV} {v : V} (q : RepV K ρ H m v) : RepVs K ρ H [m] [v] := by
  unfold RepVs
  exact ⟨v, [], rfl, q, by unfold RepVs; rfl⟩
theorem RepVs.nil : RepVs K ρ H [] [] := by unfold RepVs; rfl
theorem RepVs.cons {m : MV} {v : V} {ms : List MV} {vs : List V} (q : RepV K ρ H m v) (r : RepVs K ρ H ms vs) : RepVs K ρ H (m :: ms) (v :: vs) := by
  unfold RepVs
  exact ⟨v, vs, rfl, q, r⟩
theorem RepVs.take : ∀ {ms : List MV} {vs : List V} (n : Nat), RepVs K ρ H ms vs → RepVs K ρ H (ms.take n) (vs.take n)
  | [], _, n, q => by unfold RepVs at q; rw [q]; simp; exact .nil
  | m :: ms, _, 0, q => by simp; exact .nil
  | m :: ms, _, n + 1, q => by
    unfold RepVs at q
    obtain ⟨w, ws, rfl, a, b⟩ := q
    exact .cons a (RepVs.take n b)
theorem RepVs.drop : ∀ {ms : List MV} {vs : List V} (n : Nat), RepVs K ρ H ms vs → RepVs K ρ H (ms.drop n) (vs.drop n)
  | [], _, n, q => by unfold RepVs at q; rw [q]; simp; exact .nil
  | m :: ms, _, 0, q => q
  | m :: ms, _, n + 1, q => by
    unfold RepVs at q
    obtain ⟨w, ws, rfl, a, b⟩ := q
    exact RepVs.drop n b
theorem RepVs.set {m : MV} {v : V} (r : RepV K ρ H m v) : ∀ {ms : List MV} {vs : List V} (i : Nat), RepVs K ρ H ms vs → RepVs K ρ H (ms.set i m) (vs.set i v)
  | [], _, n, q => by unfold RepVs at q; rw [q]; exact .nil
  | x :: xs, _, 0, q => by
    unfold RepVs at q
    obtain ⟨w, ws, rfl, a, b⟩ := q
    exact .cons r b
  | x :: xs, _, n + 1, q => by
    unfold RepVs at q
    obtain ⟨w, ws, rfl, a, b⟩ := q
    exact .cons a (RepVs.set r n b)
theorem RepVs.eraseIdx : ∀ {ms : List MV} {vs : List V} (i : Nat), RepVs K ρ H ms vs → RepVs K ρ H (ms.eraseIdx i) (vs.eraseIdx i)
  | [], _, n, q => by unfold RepVs at q; rw [q]; exact .nil
  | x :: xs, _, 0, q => by
    unfold RepVs at q
    obtain ⟨w, ws, rfl, a, b⟩ := q
    exact b
  | x :: xs, _, n + 1, q => by
    unfold RepVs at q
    obtain ⟨w, ws, rfl, a, b⟩ := q
    exact .cons a (RepVs.eraseIdx n b)
theorem RepVs.flatten {ms : List MV} {vs : List V} (q : RepVs K ρ H ms vs) : ∀ n : Nat, RepVs K ρ H (List.replicate n ms).flatten (List.replicate n vs).flatten
  | 0 => .nil
  | n + 1 => by
    rw [List.replicate_succ, List.replicate_succ, List.flatten_cons, List.flatten_cons]
    exact q.append (RepVs.flatten q n)
theorem RepVs.isEmpty {ms : List MV} {vs : List V} (q : RepVs K ρ H ms vs) : vs.isEmpty = ms.isEmpty := by
  have := q.length
  cases ms <;> cases vs <;> simp_all
theorem RepVs.ints : ∀ {ms : List MV} {vs : List V} {ns : List Int}, RepVs K ρ H ms vs → intsO ms = some ns → vs = ns.map V.int
  | [], _, ns, q, e => by
    unfold RepVs at q
    unfold intsO at e
    cases e
    rw [q]
    rfl
  | x :: xs, _, ns, q, e => by
    unfold RepVs at q
    obtain ⟨w, ws, rfl, a, b⟩ := q
    cases x with
    | int i =>
      unfold intsO at e
      cases e2 : intsO xs with
      | none => rw [e2] at e; cases e
      | some ms =>
        rw [e2] at e
        cases e
        unfold RepV at a
        rw [a, RepVs.ints b e2]
        rfl
    | _ => simp [intsO] at e
theorem repVs_ints {ns : List Int} : RepVs K ρ H (ns.map .int) (ns.map V.int) := by
  induction ns with
  | nil => exact .nil
  | cons n r ih => exact .cons (by unfold RepV; rfl) ih

theorem nd_inj {α : Type} : ∀ {xs : List α} (_ : xs.Nodup) {i j : Nat} (hi : i < xs.length) (hj : j < xs.length), xs[i] = xs[j] → i = j
  | x :: xs, _, 0, 0, _, _, _ => rfl
  | x :: xs, nd, 0, j + 1, _, hj, e => by
    have hm : x ∉ xs := (List.nodup_cons.mp nd).1
    exact absurd (by rw [show x = xs[j]'(Nat.lt_of_succ_lt_succ hj) from e]; exact List.getElem_mem _) hm
  | x :: xs, nd, i + 1, 0, hi, _, e => by
    have hm : x ∉ xs := (List.nodup_cons.mp nd).1
    exact absurd (by rw [show x = xs[i]'(Nat.lt_of_succ_lt_succ hi) from e.symm]; exact List.getElem_mem _) hm
  | x :: xs, nd, i + 1, j + 1, hi, hj, e => by rw [nd_inj (List.nodup_cons.mp nd).2 (Nat.lt_of_succ_lt_succ hi) (Nat.lt_of_succ_lt_succ hj) e]
/-! ### the heap changes -/
theorem ext_new {p : Addr} {o : HO} (hp : H p = none) : Ext ρ H ρ (upd H p o) :=
  ⟨⟨[], by simp⟩, fun a u e _ => by rw [upd_ne (ne_of_none e hp)]; exact e, fun _ m => .inl m⟩
theorem Rep.free (r : Rep K ρ h H) {p : Addr} (hp : H p = none) : p ∉ ρ := fun m => by
  obtain ⟨u, e, _⟩ := r.kind m
  rw [hp] at e
  cases e
theorem ext_add {p : Addr} {o : HO} (hp : H p = none) : Ext ρ H (ρ ++ [p]) (upd H p o) := by
  refine ⟨⟨[p], rfl⟩, fun a u e _ => by rw [upd_ne (ne_of_none e hp)]; exact e, fun a m => ?_⟩
  rcases List.mem_append.mp m with m | m
  · exact .inl m
  · rw [List.mem_singleton.mp m]
    exact .inr hp
theorem RepO.keep (x : Kp ρ H ρ1 H1) {a : Addr} {o : MO} (q : RepO K ρ H a o) (e : H1 a = H a) : RepO K ρ1 H1 a o := by
  cases o with
  | lst xs =>
    obtain ⟨vs, e1, z⟩ := q
    exact ⟨vs, e.trans e1, z.keep x⟩
  | ins _ _ => exact q
theorem RepO.mono (r : Rep K ρ h H) (x : Ext ρ H ρ1 H1) {a : Addr} {o : MO} (q : RepO K ρ H a o) (e : H1 a = H a) : RepO K ρ1 H1 a o := q.keep (r.kp x) e
/-- the objects stay where they are, the readings too -/
theorem Rep.keep (r : Rep K ρ h H) (x : Kp ρ H ρ H1) (f : ∀ a, a ∈ ρ → H1 a = H a) : Rep K ρ h H1 := by
  refine ⟨r.len, r.nd, fun l o e => ?_⟩
  obtain ⟨a, ea, q⟩ := r.obj l o e
  exact ⟨a, ea, q.keep x (f a (List.mem_of_getElem? ea))⟩
/-- an object that stood beside comes in -/
theorem Rep.join (r : Rep K ρ h H) {p : Addr} {o : MO} (np : p ∉ ρ) (hu : RepO K ρ H p o) : Rep K (ρ ++ [p]) (h ++ [o]) H := by
  have kp : Kp ρ H (ρ ++ [p]) H := ⟨⟨[p], rfl⟩, fun _ _ q => q, fun _ _ _ q => q⟩
  refine ⟨by rw [List.length_append, List.length_append, r.len]; rfl, ?_, fun l o' e => ?_⟩
  · rw [List.nodup_append]
    refine ⟨r.nd, by simp, fun a ha b hb => ?_⟩
    rw [List.mem_singleton.mp hb]
    exact fun z => np (z ▸ ha)
  · by_cases hl : l < h.length
    · rw [List.getElem?_append_left hl] at e
      obtain ⟨a, ea, q⟩ := r.obj l o' e
      exact ⟨a, kp.at ea, q.keep kp rfl⟩
    · have : l = h.length := by
        have := (List.getElem?_eq_some_iff.mp e).1
        rw [List.length_append, List.length_singleton] at this
        omega
      subst this
      rw [List.getElem?_concat_length] at e
      cases e
      exact ⟨p, by rw [← r.len, List.getElem?_concat_length], hu.keep kp rfl⟩
/-- a tuple comes -/
theorem Rep.tup (r : Rep K ρ h H) {p : Addr} (hp : H p = none) {xs : List V} : Rep K ρ h (upd H p (.tup xs)) := by
  refine ⟨r.len, r.nd, fun l o e => ?_⟩
  obtain ⟨a, ea, q⟩ := r.obj l o e
  refine ⟨a, ea, q.mono r (ext_new hp) ?_⟩
  have : a ≠ p := fun z => r.free hp (z ▸ List.mem_of_getElem? ea)
  rw [upd_ne this]
/-- an object comes -/
theorem Rep.add (r : Rep K ρ h H) {p : Addr} {u : HO} {o : MO} (hp : H p = none) (hu : RepO K (ρ ++ [p]) (upd H p u) p o) : Rep K (ρ ++ [p]) (h ++ [o]) (upd H p u) := by
  refine ⟨by rw [List.length_append, List.length_append, r.len]; rfl, ?_, fun l o' e => ?_⟩
  · rw [List.nodup_append]
    refine ⟨r.nd, by simp, fun a ha b hb => ?_⟩
    rw [List.mem_singleton.mp hb]
    exact fun z => r.free hp (z ▸ ha)
  · by_cases hl : l < h.length
    · rw [List.getElem?_append_left hl] at e
      obtain ⟨a, ea, q⟩ := r.obj l o' e
      refine ⟨a, (ext_add (o := u) hp).at ea, q.mono r (ext_add hp) ?_⟩
      have : a ≠ p := fun z => r.free hp (z ▸ List.mem_of_getElem? ea)
      rw [upd_ne this]
    · have : l = h.length := by
        have := (List.getElem?_eq_some_iff.mp e).1
        rw [List.length_append, List.length_singleton] at this
        omega
      subst this
      rw [List.getElem?_concat_length] at e
      cases e
      exact ⟨p, by rw [← r.len, List.getElem?_concat_length], hu⟩
theorem Rep.addL (r : Rep K ρ h H) {p : Addr} (hp : H p = none) {ms : List MV} {vs : List V} (q : RepVs K ρ H ms vs) : Rep K (ρ ++ [p]) (h ++ [.lst ms]) (upd H p (.lst vs)) :=
  r.add hp ⟨vs, upd_same, q.mono r (ext_add hp)⟩
theorem ext_set {a : Addr} {o : HO} (m : a ∈ ρ) : Ext ρ H ρ (upd H a o) :=
  ⟨⟨[], by simp⟩, fun b u e n => by rw [upd_ne (fun z => n (by rw [z]; exact m))]; exact e, fun _ m => .inl m⟩
/-- an object changes -/
theorem Rep.set (r : Rep K ρ h H) {l : Nat} {a : Addr} {u : HO} {o : MO} (ea : ρ[l]? = some a) (hu : RepO K ρ (upd H a u) a o) : Rep K ρ (h.set l o) (upd H a u) := by
  refine ⟨by rw [List.length_set]; exact r.len, r.nd, fun l' o' e => ?_⟩
  by_cases hl : l = l'
  · subst hl
    have hlt : l < h.length := by rw [← r.len]; exact (List.getElem?_eq_some_iff.mp ea).1
    rw [List.getElem?_set_self hlt] at e
    cases e
    exact ⟨a, ea, hu⟩
  · rw [List.getElem?_set_ne hl] at e
    obtain ⟨b, eb, q⟩ := r.obj l' o' e
    refine ⟨b, eb, q.mono r (ext_set (List.mem_of_getElem? ea)) ?_⟩
    have : b ≠ a := fun z => by
      subst z
      obtain ⟨i1, e1⟩ := List.getElem?_eq_some_iff.mp ea
      obtain ⟨i2, e2⟩ := List.getElem?_eq_some_iff.mp eb
      exact hl (nd_inj r.nd i1 i2 (e1.trans e2.symm))
    rw [upd_ne this]
theorem Rep.setL (r : Rep K ρ h H) {l : Nat} {a : Addr} (ea : ρ[l]? = some a) {ms : List MV} {vs : List V} (q : RepVs K ρ H ms vs) : Rep K ρ (h.set l (.lst ms)) (upd H a (.lst vs)) :=
  r.set ea ⟨vs, upd_same, q.mono r (ext_set (List.mem_of_getElem? ea))⟩
theorem Rep.lst (r : Rep K ρ h H) {l : Nat} {xs : List MV} (e : h[l]? = some (.lst xs)) : ∃ a vs, ρ[l]? = some a ∧ H a = some (.lst vs) ∧ RepVs K ρ H xs vs := by
  obtain ⟨a, ea, q⟩ := r.obj l _ e
  obtain ⟨vs, e1, z⟩ := q
  exact ⟨a, vs, ea, e1, z⟩
/-- the items of a list or a tuple -/
theorem Rep.items (r : Rep K ρ h H) {x : MV} {v : V} {xs : List MV} (q : RepV K ρ H x v) (e : itemsO x h = some xs) : ∃ a vs, v = .ref a ∧ (SqL K H a vs ∨ SqT K H a vs) ∧ RepVs K ρ H xs vs := by
  cases x with
  | tup ys =>
    cases e
    unfold RepV at q
    obtain ⟨a, vs, e, s, z⟩ := q
    exact ⟨a, vs, e, .inr s, z⟩
  | rol ys =>
    cases e
    unfold RepV at q
    obtain ⟨a, vs, e, s, z⟩ := q
    exact ⟨a, vs, e, .inl s.sq, z⟩
  | loc l =>
    unfold RepV at q
    obtain ⟨a, e1, rfl⟩ := q
    unfold itemsO at e
    simp only at e
    split at e
    · rename_i ys hy
      cases e
      obtain ⟨b, vs, e2, e3, z⟩ := r.lst hy
      rw [e1] at e2
      cases e2
      exact ⟨a, vs, rfl, .inl (.inl (.inl e3)), z⟩
    · cases e
  | _ => cases e
/-! ### data -/
mutual
theorem Rep.dp (r : Rep K ρ h H) : ∀ {d : PyData} {x : MV} {v : V}, Dn h x d → RepV K ρ H x v → Dp K H v d
  | .none, _, _, .non, q => by unfold RepV at q; subst q; exact .non
  | .bool _, _, _, .bl _, q => by unfold RepV at q; subst q; exact .bl _
  | .int _, _, _, .int _, q => by unfold RepV at q; subst q; exact .int _
  | .str _, _, _, .str _, q => by unfold RepV at q; subst q; exact .str _
  | .tuple ds, _, _, .tup n, q => by
    unfold RepV at q
    obtain ⟨a, vs, rfl, s, z⟩ := q
    exact .tup s (Rep.dps r n z)
  | .list ds, _, _, .rol n, q => by
    unfold RepV at q
    obtain ⟨a, vs, rfl, s, z⟩ := q
    exact .lst s.sq (Rep.dps r n z)
  | .list ds, _, _, .loc e n, q => by
    unfold RepV at q
    obtain ⟨a, e1, rfl⟩ := q
    obtain ⟨b, vs, e2, e3, z⟩ := r.lst e
    rw [e1] at e2
    cases e2
    exact .lst (.inl (.inl e3)) (Rep.dps r n z)
theorem Rep.dps (r : Rep K ρ h H) : ∀ {ds : List PyData} {xs : List MV} {vs : List V}, Dns h xs ds → RepVs K ρ H xs vs → DpAll K H vs ds
  | [], _, _, .nil, q => by unfold RepVs at q; subst q; exact .nil
  | d :: ds, _, _, .cons n ns, q => by
    unfold RepVs at q
    obtain ⟨w, ws, rfl, a, b⟩ := q
    exact .cons (Rep.dp r n a) (Rep.dps r ns b)
end
end
end MP
end
section
set_option Elab.async false
set_option linter.all false
set_option maxRecDepth 100000
set_option maxHeartbeats 4000000
/-! MP, part c: the operations of the small language are those of the model. -/
namespace MP
open PySem PySem.Spec PyProof.Rows L2

def r2M (K : PySem.W.Frag) (f : MV → MV → MH → Option (MV × MH)) : R2 := fun x y H Q => ∃ ρ h mx my v h', Rep K ρ h H ∧ RepV K ρ H mx x ∧ RepV K ρ H my y ∧ f mx my h = some (v, h') ∧
  ∀ ρ' H' w, Ext ρ H ρ' H' → Rep K ρ' h' H' → RepV K ρ' H' v w → Q w H'
def rsM (K : PySem.W.Frag) (f : List MV → MH → Option (MV × MH)) : List V → Hp → VK → Prop := fun vs H Q => ∃ ρ h xs v h', Rep K ρ h H ∧ RepVs K ρ H xs vs ∧ f xs h = some (v, h') ∧
  ∀ ρ' H' w, Ext ρ H ρ' H' → Rep K ρ' h' H' → RepV K ρ' H' v w → Q w H'
def rmM (K : PySem.W.Frag) (f : MV → List MV → MH → Option (MV × MH)) : V → List V → Hp → VK → Prop := fun x vs H Q => ∃ ρ h mx xs v h', Rep K ρ h H ∧ RepV K ρ H mx x ∧ RepVs K ρ H xs vs ∧ f mx xs h = some (v, h') ∧
  ∀ ρ' H' w, Ext ρ H ρ' H' → Rep K ρ' h' H' → RepV K ρ' H' v w → Q w H'
section
variable {K : PySem.W.Frag} {ρ : List Addr} {h : MH} {H : Hp}
theorem repInt {i : Int} {v : V} (q : RepV K ρ H (.int i) v) : v = .int i := by unfold RepV at q; exact q
theorem repBl {i : Bool} {v : V} (q : RepV K ρ H (.bl i) v) : v = .bl i := by unfold RepV at q; exact q
theorem repStr {i : Str} {v : V} (q : RepV K ρ H (.str i) v) : v = .str i := by unfold RepV at q; exact q
theorem repNon {v : V} (q : RepV K ρ H .non v) : v = .non := by unfold RepV at q; exact q
theorem intRep {i : Int} : RepV K ρ H (.int i) (.int i) := by unfold RepV; rfl
theorem blRep {i : Bool} : RepV K ρ H (.bl i) (.bl i) := by unfold RepV; rfl
theorem strRep {i : Str} : RepV K ρ H (.str i) (.str i) := by unfold RepV; rfl
theorem nonRep : RepV K ρ H .non .non := by unfold RepV; rfl
theorem locRep {l : Nat} {a : Addr} (e : ρ[l]? = some a) : RepV K ρ H (.loc l) (.ref a) := by unfold RepV; exact ⟨a, e, rfl⟩
theorem repLoc {l : Nat} {v : V} (q : RepV K ρ H (.loc l) v) : ∃ a, ρ[l]? = some a ∧ v = .ref a := by unfold RepV at q; exact q
/-- a new list is handed on -/
theorem Rep.newL (r : Rep K ρ h H) {ms : List MV} {vs : List V} (q : RepVs K ρ H ms vs) {Q : VK} (hQ : ∀ ρ' H' w, Ext ρ H ρ' H' → Rep K ρ' (h ++ [.lst ms]) H' → RepV K ρ' H' (.loc h.length) w → Q w H') :
    ∀ p, H p = none → Q (.ref p) (upd H p (.lst vs)) := fun p hp =>
  hQ _ _ _ (ext_add hp) (r.addL hp q) (locRep (by rw [← r.len, List.getElem?_concat_length]))
/-- a new tuple is handed on -/
theorem Rep.newT (r : Rep K ρ h H) {ms : List MV} {vs : List V} (q : RepVs K ρ H ms vs) {Q : VK} (hQ : ∀ ρ' H' w, Ext ρ H ρ' H' → Rep K ρ' h H' → RepV K ρ' H' (.tup ms) w → Q w H') :
    ∀ p, H p = none → Q (.ref p) (upd H p (.tup vs)) := fun p hp =>
  hQ _ _ _ (ext_new hp) (r.tup hp) (by unfold RepV; exact ⟨p, vs, rfl, .inl (.inl upd_same), q.mono r (ext_new hp)⟩)
theorem CMulB_ok {i j : Int} (e : augO.CMulB i j = true) : CMul i j := by
  unfold augO.CMulB at e
  simp only [Bool.or_eq_true, Bool.and_eq_true, decide_eq_true_eq] at e
  exact e
end
section
variable {X : Cx}
theorem op_addM : OpR X (binaryOp .Add) (r2M X.K addO) := by
  intro pins s σ H x y v u Q I rx ry ⟨ρ, h, mx, my, r, h', rp, qx, qy, e, q⟩
  unfold addO at e
  split at e
  · cases e
    exact op_add pins s σ H x y v u Q I rx ry ⟨_, _, repInt qx, repInt qy, q ρ H _ .refl rp intRep⟩
  · split at e
    · rename_i hz
      cases e
      exact op_add_str pins s σ H x y v u Q I rx ry ⟨_, _, repStr qx, repStr qy, hz, q ρ H _ .refl rp strRep⟩
    · cases e
  · rename_i xs ys
    split at e
    · rename_i hz
      cases e
      unfold RepV at qx qy
      obtain ⟨a, vs, rfl, sa, za⟩ := qx
      obtain ⟨b, ws, rfl, sb, zb⟩ := qy
      refine op_catA pins s σ H _ _ v u Q I rx ry ⟨a, b, vs, ws, rfl, rfl, sa, sb, by rw [za.length, zb.length]; exact hz, fun ev => ?_, fun nv ew => ?_, fun _ _ => ?_⟩
      · subst ev
        have : xs = [] := List.length_eq_zero_iff.mp za.length.symm
        subst this
        exact q ρ H _ .refl rp (by unfold RepV; exact ⟨b, ws, rfl, sb, zb⟩)
      · subst ew
        have : ys = [] := List.length_eq_zero_iff.mp zb.length.symm
        subst this
        rw [List.append_nil] at q
        exact q ρ H _ .refl rp (by unfold RepV; exact ⟨a, vs, rfl, sa, za⟩)
      · exact rp.newT (za.append zb) q
    · cases e
  · rename_i a b
    split at e
    · rename_i xs ys ha hb
      split at e
      · rename_i hz
        cases e
        obtain ⟨a1, e1, rfl⟩ := repLoc qx
        obtain ⟨b1, e2, rfl⟩ := repLoc qy
        obtain ⟨a', vs, ea, Ha, za⟩ := rp.lst ha
        obtain ⟨b', ws, eb, Hb, zb⟩ := rp.lst hb
        rw [e1] at ea
        cases ea
        rw [e2] at eb
        cases eb
        exact op_cat pins s σ H _ _ v u Q I rx ry ⟨_, _, vs, ws, rfl, rfl, Ha, Hb, by rw [za.length, zb.length]; exact hz, rp.newL (za.append zb) q⟩
      · cases e
    · cases e
  · cases e
theorem op_subM : OpR X (binaryOp .Sub) (r2M X.K (binO .sub)) := by
  intro pins s σ H x y v u Q I rx ry ⟨ρ, h, mx, my, r, h', rp, qx, qy, e, q⟩
  unfold binO at e
  simp only at e
  split at e
  · cases e
    exact op_sub pins s σ H x y v u Q I rx ry ⟨_, _, repInt qx, repInt qy, q ρ H _ .refl rp intRep⟩
  · cases e
theorem op_mulM : OpR X (binaryOp .Mult) (r2M X.K (binO .mul)) := by
  intro pins s σ H x y v u Q I rx ry ⟨ρ, h, mx, my, r, h', rp, qx, qy, e, q⟩
  unfold binO at e
  simp only at e
  split at e
  · split at e
    · rename_i hz
      cases e
      exact op_mul pins s σ H x y v u Q I rx ry ⟨_, _, repInt qx, repInt qy, CMulB_ok hz, q ρ H _ .refl rp intRep⟩
    · cases e
  · rename_i a k
    split at e
    · rename_i xs ha
      split at e
      · rename_i hz
        cases e
        obtain ⟨a1, e1, rfl⟩ := repLoc qx
        obtain ⟨a', vs, ea, Ha, za⟩ := rp.lst ha
        rw [e1] at ea
        cases ea
        exact op_rep pins s σ H _ y v u Q I rx ry ⟨_, k, vs, rfl, repInt qy, Ha, hz.1, hz.2.1, by rw [za.length]; exact hz.2.2, rp.newL (za.flatten _) q⟩
      · cases e
    · cases e
  · cases e
theorem op_fdivM : OpR X (binaryOp .FloorDiv) (r2M X.K (binO .fdiv)) := by
  intro pins s σ H x y v u Q I rx ry ⟨ρ, h, mx, my, r, h', rp, qx, qy, e, q⟩
  unfold binO at e
  simp only at e
  split at e
  · split at e
    · rename_i hz
      cases e
      exact op_fdivN pins s σ H x y v u Q I rx ry ⟨_, _, repInt qx, repInt qy, hz, q ρ H _ .refl rp intRep⟩
    · cases e
  · cases e
theorem op_modM : OpR X (binaryOp .Mod) (r2M X.K (binO .mod)) := by
  intro pins s σ H x y v u Q I rx ry ⟨ρ, h, mx, my, r, h', rp, qx, qy, e, q⟩
  unfold binO at e
  simp only at e
  split at e
  · split at e
    · rename_i hz
      cases e
      exact op_modN pins s σ H x y v u Q I rx ry ⟨_, _, repInt qx, repInt qy, hz, q ρ H _ .refl rp intRep⟩
    · cases e
  · cases e
theorem op_powM : OpR X (binaryOp .Pow) (r2M X.K (binO .pow)) := by
  intro pins s σ H x y v u Q I rx ry ⟨ρ, h, mx, my, r, h', rp, qx, qy, e, q⟩
  unfold binO at e
  simp only at e
  split at e
  · split at e
    · rename_i hz
      cases e
      exact op_pow pins s σ H x y v u Q I rx ry ⟨_, _, repInt qx, repInt qy, hz, q ρ H _ .refl rp intRep⟩
    · cases e
  · cases e
def BOp.op : BOp → Operator
  | .add => .Add | .sub => .Sub | .mul => .Mult | .fdiv => .FloorDiv | .mod => .Mod | .pow => .Pow
theorem op_binM (o : BOp) : OpR X (binaryOp o.op) (r2M X.K (binO o)) := by
  cases o with
  | add => exact op_addM
  | sub => exact op_subM
  | mul => exact op_mulM
  | fdiv => exact op_fdivM
  | mod => exact op_modM
  | pow => exact op_powM
theorem ip_M (o : BOp) : PIp X o.op (r2M X.K (augO o)) := by
  intro pins s σ H x y v u Q I rx ry ⟨ρ, h, mx, my, r, h', rp, qx, qy, e, q⟩
  unfold augO at e
  split at e
  · cases e
    exact ip_add pins s σ H x y v u Q I rx ry ⟨_, _, repInt qx, repInt qy, q ρ H _ .refl rp intRep⟩
  · cases e
    exact ip_sub pins s σ H x y v u Q I rx ry ⟨_, _, repInt qx, repInt qy, q ρ H _ .refl rp intRep⟩
  · split at e
    · rename_i hz
      cases e
      exact iop_mul pins s σ H x y v u Q I rx ry ⟨_, _, repInt qx, repInt qy, CMulB_ok hz, q ρ H _ .refl rp intRep⟩
    · cases e
  · cases e

/-! ### comparisons -/
def r2B (K : PySem.W.Frag) (f : MV → MV → MH → Option Bool) : R2 := fun x y H Q => ∃ ρ h mx my k, Rep K ρ h H ∧ RepV K ρ H mx x ∧ RepV K ρ H my y ∧ f mx my h = some k ∧ Q (.bl k) H
theorem eqO_ok {K : PySem.W.Frag} {ρ : List Addr} {h : MH} {H : Hp} {mx my : MV} {x y : V} {k : Bool} (rp : Rep K ρ h H) (qx : RepV K ρ H mx x) (qy : RepV K ρ H my y) (e : eqO mx my h = some k) :
    ∃ d e, Dp K H x d ∧ Dp K H y e ∧ SeqAt.shaped d = true ∧ SeqAt.shaped e = true ∧ k = PyData.eqv d e := by
  unfold eqO at e
  split at e
  · rename_i d d' hd hd'
    split at e
    · rename_i hs
      cases e
      exact ⟨d, d', rp.dp (of_dat hd) qx, rp.dp (of_dat hd') qy, hs.1, hs.2, rfl⟩
    · cases e
  · cases e
theorem op_eqM (hu : X.A.units + 64 < cLine) : OpR X (compareOp .Eq) (r2B X.K eqO) := by
  intro pins s σ H x y v u Q I rx ry ⟨ρ, h, mx, my, k, rp, qx, qy, e, q⟩
  obtain ⟨d, d', d1, d2, s1, s2, rfl⟩ := eqO_ok rp qx qy e
  exact op_eqD hu pins s σ H x y v u Q I rx ry ⟨d, d', d1, d2, s1, s2, q⟩
theorem op_neM (hu : X.A.units + 64 < cLine) : OpR X (compareOp .NotEq) (r2B X.K fun x y h => (eqO x y h).map (!·)) := by
  intro pins s σ H x y v u Q I rx ry ⟨ρ, h, mx, my, k, rp, qx, qy, e, q⟩
  have e : (eqO mx my h).map (!·) = some k := e
  cases e2 : eqO mx my h with
  | none => rw [e2] at e; cases e
  | some b =>
    rw [e2] at e
    cases e
    obtain ⟨d, d', d1, d2, s1, s2, rfl⟩ := eqO_ok rp qx qy e2
    exact op_neD hu pins s σ H x y v u Q I rx ry ⟨d, d', d1, d2, s1, s2, q⟩
theorem isNon_ok {K : PySem.W.Frag} {ρ : List Addr} {H : Hp} {m : MV} {x : V} (q : RepV K ρ H m x) : decide (x = .non) = m.isNon := by
  cases m with
  | non => rw [repNon q]; rfl
  | bl _ => rw [repBl q]; rfl
  | int _ => rw [repInt q]; rfl
  | str _ => rw [repStr q]; rfl
  | tup _ => unfold RepV at q; obtain ⟨a, vs, rfl, _⟩ := q; rfl
  | rol _ => unfold RepV at q; obtain ⟨a, vs, rfl, _⟩ := q; rfl
  | loc _ => obtain ⟨a, _, rfl⟩ := repLoc q; rfl
  | ty n => unfold RepV at q; subst q; rfl
  | cls _ => unfold RepV at q; exact q.elim
theorem op_isM : OpR X (compareOp .Is) (r2B X.K (cmpO .is)) := by
  intro pins s σ H x y v u Q I rx ry ⟨ρ, h, mx, my, k, rp, qx, qy, e, q⟩
  unfold cmpO at e
  simp only at e
  split at e
  · cases e
    exact op_isN pins s σ H x y v u Q I rx ry ⟨repNon qy, by rw [isNon_ok qx]; exact q⟩
  · cases e
theorem op_isnM : OpR X (compareOp .IsNot) (r2B X.K (cmpO .isn)) := by
  intro pins s σ H x y v u Q I rx ry ⟨ρ, h, mx, my, k, rp, qx, qy, e, q⟩
  unfold cmpO at e
  simp only at e
  split at e
  · cases e
    exact op_notN pins s σ H x y v u Q I rx ry ⟨repNon qy, by rw [isNon_ok qx]; exact q⟩
  · cases e
theorem flat_ok {K : PySem.W.Frag} {ρ : List Addr} {H : Hp} {m : MV} {x : V} (q : RepV K ρ H m x) (f : flatM m = true) : flatV x = true := by
  cases m with
  | non => rw [repNon q]; rfl
  | bl _ => rw [repBl q]; rfl
  | int _ => rw [repInt q]; rfl
  | str _ => rw [repStr q]; rfl
  | _ => cases f
theorem eqV_ok {K : PySem.W.Frag} {ρ : List Addr} {H : Hp} {m n : MV} {x y : V} (q : RepV K ρ H m x) (r : RepV K ρ H n y) (f : flatM m = true) (g : flatM n = true) : eqV x y = PyData.eqv (flatD m) (flatD n) := by
  cases m with
  | non =>
    cases n with
    | non => rw [repNon q, repNon r]; simp [eqV, flatD, PyData.eqv]
    | bl _ => rw [repNon q, repBl r]; simp [eqV, flatD, PyData.eqv]
    | int _ => rw [repNon q, repInt r]; simp [eqV, flatD, PyData.eqv]
    | str _ => rw [repNon q, repStr r]; simp [eqV, flatD, PyData.eqv]
    | _ => cases g
  | bl _ =>
    cases n with
    | non => rw [repBl q, repNon r]; simp [eqV, flatD, PyData.eqv]
    | bl _ => rw [repBl q, repBl r]; simp [eqV, flatD, PyData.eqv]
    | int _ => rw [repBl q, repInt r]; simp [eqV, flatD, PyData.eqv]
    | str _ => rw [repBl q, repStr r]; simp [eqV, flatD, PyData.eqv]
    | _ => cases g
  | int _ =>
    cases n with
    | non => rw [repInt q, repNon r]; simp [eqV, flatD, PyData.eqv]
    | bl _ => rw [repInt q, repBl r]; simp [eqV, flatD, PyData.eqv]
    | int _ => rw [repInt q, repInt r]; simp [eqV, flatD, PyData.eqv]
    | str _ => rw [repInt q, repStr r]; simp [eqV, flatD, PyData.eqv]
    | _ => cases g
  | str _ =>
    cases n with
    | non => rw [repStr q, repNon r]; simp [eqV, flatD, PyData.eqv]
    | bl _ => rw [repStr q, repBl r]; simp [eqV, flatD, PyData.eqv]
    | int _ => rw [repStr q, repInt r]; simp [eqV, flatD, PyData.eqv]
    | str _ => rw [repStr q, repStr r]; simp [eqV, flatD, PyData.eqv]
    | _ => cases g
  | _ => cases f
theorem flats_ok {K : PySem.W.Frag} {ρ : List Addr} {H : Hp} : ∀ {ms : List MV} {vs : List V}, RepVs K ρ H ms vs → ms.all flatM = true → vs.all flatV = true
  | [], _, q, _ => by unfold RepVs at q; subst q; rfl
  | m :: ms, _, q, f => by
    unfold RepVs at q
    obtain ⟨w, ws, rfl, a, b⟩ := q
    rw [List.all_cons, Bool.and_eq_true] at f
    rw [List.all_cons, Bool.and_eq_true]
    exact ⟨flat_ok a f.1, flats_ok b f.2⟩
theorem inV_ok {K : PySem.W.Frag} {ρ : List Addr} {H : Hp} {m : MV} {x : V} (q : RepV K ρ H m x) (f : flatM m = true) : ∀ {ms : List MV} {vs : List V}, RepVs K ρ H ms vs → ms.all flatM = true →
    inV x vs = ms.any fun z => PyData.eqv (flatD z) (flatD m)
  | [], _, r, _ => by unfold RepVs at r; subst r; rfl
  | n :: ms, _, r, g => by
    unfold RepVs at r
    obtain ⟨w, ws, rfl, a, b⟩ := r
    rw [List.all_cons, Bool.and_eq_true] at g
    have ih := inV_ok q f b g.2
    unfold inV at ih ⊢
    rw [List.any_cons, List.any_cons, ih, eqV_ok a q g.1 f]
theorem inO_ok {K : PySem.W.Frag} {ρ : List Addr} {h : MH} {H : Hp} {mx my : MV} {x y : V} {k : Bool} (rp : Rep K ρ h H) (qx : RepV K ρ H mx x) (qy : RepV K ρ H my y) (e : inO mx my h = some k) :
    (∃ p xs, y = .ref p ∧ SqT K H p xs ∧ flatV x = true ∧ xs.all flatV = true ∧ k = inV x xs) ∨
    ∃ d ds, Dp K H x d ∧ Dp K H y (.list ds) ∧ SeqAt.shaped d = true ∧ SeqAt.shaped (.list ds) = true ∧ k = ds.any fun z => PyData.eqv z d := by
  unfold inO at e
  split at e
  · split at e
    · rename_i hf
      cases e
      unfold RepV at qy
      obtain ⟨a, vs, rfl, s, z⟩ := qy
      exact .inl ⟨a, vs, rfl, s, flat_ok qx hf.1, flats_ok z hf.2, (inV_ok qx hf.1 z hf.2).symm⟩
    · cases e
  · split at e
    · rename_i d ds hd hd'
      split at e
      · rename_i hs
        cases e
        exact .inr ⟨d, ds, rp.dp (of_dat hd) qx, rp.dp (of_dat hd') qy, hs.1, hs.2, rfl⟩
      · cases e
    · cases e
  · split at e
    · rename_i d ds hd hd'
      split at e
      · rename_i hs
        cases e
        exact .inr ⟨d, ds, rp.dp (of_dat hd) qx, rp.dp (of_dat hd') qy, hs.1, hs.2, rfl⟩
      · cases e
    · cases e
  · cases e
theorem op_inM (hu : X.A.units + 65 < cLine) : OpR X (compareOp .In) (r2B X.K (cmpO .inn)) := by
  intro pins s σ H x y v u Q I rx ry ⟨ρ, h, mx, my, k, rp, qx, qy, e, q⟩
  rcases inO_ok rp qx qy e with ⟨p, xs, rfl, s1, f, g, rfl⟩ | ⟨d, ds, d1, d2, s1, s2, rfl⟩
  · exact op_in_seq pins s σ H x _ v u Q I rx ry ⟨p, xs, rfl, .inr s1, f, g, q⟩
  · exact op_inD hu pins s σ H x y v u Q I rx ry ⟨d, ds, d1, d2, s1, s2, q⟩
theorem op_ninM (hu : X.A.units + 65 < cLine) : OpR X (compareOp .NotIn) (r2B X.K (cmpO .nin)) := by
  intro pins s σ H x y v u Q I rx ry ⟨ρ, h, mx, my, k, rp, qx, qy, e, q⟩
  unfold cmpO at e
  simp only at e
  cases e2 : inO mx my h with
  | none => rw [e2] at e; cases e
  | some b =>
    rw [e2] at e
    cases e
    rcases inO_ok rp qx qy e2 with ⟨p, xs, rfl, s1, f, g, rfl⟩ | ⟨d, ds, d1, d2, s1, s2, rfl⟩
    · exact op_notIn_seq pins s σ H x _ v u Q I rx ry ⟨p, xs, rfl, .inr s1, f, g, q⟩
    · exact op_notInD hu pins s σ H x y v u Q I rx ry ⟨d, ds, d1, d2, s1, s2, q⟩
def COp.op : COp → CmpOp
  | .eq => .Eq | .ne => .NotEq | .lt => .Lt | .le => .LtE | .gt => .Gt | .ge => .GtE | .is => .Is | .isn => .IsNot | .inn => .In | .nin => .NotIn
theorem op_cmpM (hu : X.A.units + 65 < cLine) (o : COp) : OpR X (compareOp o.op) (r2B X.K (cmpO o)) := by
  cases o with
  | eq => exact op_eqM (by omega)
  | ne => exact op_neM (by omega)
  | is => exact op_isM
  | isn => exact op_isnM
  | inn => exact op_inM hu
  | nin => exact op_ninM hu
  | lt =>
    intro pins s σ H x y v u Q I rx ry ⟨ρ, h, mx, my, k, rp, qx, qy, e, q⟩
    unfold cmpO at e
    simp only at e
    split at e
    · cases e
      exact op_lt pins s σ H x y v u Q I rx ry ⟨_, _, repInt qx, repInt qy, q⟩
    · cases e
  | le =>
    intro pins s σ H x y v u Q I rx ry ⟨ρ, h, mx, my, k, rp, qx, qy, e, q⟩
    unfold cmpO at e
    simp only at e
    split at e
    · cases e
      exact op_le pins s σ H x y v u Q I rx ry ⟨_, _, repInt qx, repInt qy, q⟩
    · cases e
  | gt =>
    intro pins s σ H x y v u Q I rx ry ⟨ρ, h, mx, my, k, rp, qx, qy, e, q⟩
    unfold cmpO at e
    simp only at e
    split at e
    · cases e
      exact op_gt pins s σ H x y v u Q I rx ry ⟨_, _, repInt qx, repInt qy, q⟩
    · cases e
  | ge =>
    intro pins s σ H x y v u Q I rx ry ⟨ρ, h, mx, my, k, rp, qx, qy, e, q⟩
    unfold cmpO at e
    simp only at e
    split at e
    · cases e
      exact op_ge pins s σ H x y v u Q I rx ry ⟨_, _, repInt qx, repInt qy, q⟩
    · cases e
theorem truV_ok {K : PySem.W.Frag} {ρ : List Addr} {h : MH} {H : Hp} {m : MV} {x : V} {k : Bool} (rp : Rep K ρ h H) (q : RepV K ρ H m x) (e : truO m h = some k) : TruV K x H k := by
  cases m with
  | non => cases e; rw [repNon q]; rfl
  | bl b => cases e; rw [repBl q]; rfl
  | int i => cases e; rw [repInt q]; rfl
  | str y =>
    unfold truO at e
    simp only at e
    split at e
    · rename_i hz
      cases e
      rw [repStr q]
      exact ⟨hz, rfl⟩
    · cases e
  | tup xs =>
    cases e
    unfold RepV at q
    obtain ⟨a, vs, rfl, s, z⟩ := q
    exact .inr (.inl ⟨vs, s, by rw [z.isEmpty]⟩)
  | rol xs =>
    cases e
    unfold RepV at q
    obtain ⟨a, vs, rfl, s, z⟩ := q
    exact .inl ⟨vs, s.sq, by rw [z.isEmpty]⟩
  | loc l =>
    unfold truO at e
    simp only at e
    split at e
    · rename_i xs hx
      cases e
      obtain ⟨a, e1, rfl⟩ := repLoc q
      obtain ⟨b, vs, e2, e3, z⟩ := rp.lst hx
      rw [e1] at e2
      cases e2
      exact .inl ⟨vs, .inl (.inl e3), by rw [z.isEmpty]⟩
    · cases e
  | _ => cases e
end
end MP
end
section
set_option Elab.async false
set_option linter.all false
set_option maxRecDepth 100000
set_option maxHeartbeats 4000000
/-! MP, part d: subscripts, slices, built-in functions and methods. -/
namespace MP
open PySem PySem.Spec PyProof.Rows L2

def r2P (K : PySem.W.Frag) (f : MV → MV → MH → Option MV) : R2 := fun x y H Q => ∃ ρ h mx my v, Rep K ρ h H ∧ RepV K ρ H mx x ∧ RepV K ρ H my y ∧ f mx my h = some v ∧ ∀ w, RepV K ρ H v w → Q w H
section
variable {K : PySem.W.Frag} {ρ : List Addr} {h : MH} {H : Hp}
theorem RepVs.atI {ms : List MV} {vs : List V} {i : Int} {m : MV} (q : RepVs K ρ H ms vs) (e : L2.atI ms i = some m) : ∃ w, L2.atI vs i = some w ∧ RepV K ρ H m w := by
  unfold L2.atI at e ⊢
  rw [q.length]
  cases e2 : ixN ms.length i with
  | none => rw [e2] at e; cases e
  | some j =>
    rw [e2] at e
    exact q.get e
theorem Rep.lists (r : Rep K ρ h H) {x : MV} {v : V} {xs : List MV} (q : RepV K ρ H x v) (e : listO x h = some xs) : ∃ a vs, v = .ref a ∧ SqL K H a vs ∧ RepVs K ρ H xs vs := by
  cases x with
  | rol ys =>
    cases e
    unfold RepV at q
    obtain ⟨a, vs, e, s, z⟩ := q
    exact ⟨a, vs, e, s.sq, z⟩
  | loc l =>
    obtain ⟨a, e1, rfl⟩ := repLoc q
    unfold listO at e
    simp only at e
    split at e
    · rename_i ys hy
      cases e
      obtain ⟨b, vs, e2, e3, z⟩ := r.lst hy
      rw [e1] at e2
      cases e2
      exact ⟨a, vs, rfl, .inl (.inl e3), z⟩
    · cases e
  | _ => cases e
theorem RepVs.cut {ms : List MV} {vs : List V} (q : RepVs K ρ H ms vs) (lo hi : Option Int) : RepVs K ρ H (cutM ms lo hi) (cutV vs lo hi) := by
  unfold cutM cutV
  rw [q.length]
  exact (q.drop _).take _
/-- its type, for isinstance -/
def tyS (K : PySem.W.Frag) (h : MH) (H : Hp) (v : V) : MV → Prop
  | .int _ => TyX K H v (.type "int")
  | .bl _ => TyX K H v (.type "bool")
  | .non => TyX K H v (.type "NoneType")
  | .str _ => TyX K H v (.type "str")
  | .tup _ => TyX K H v (.type "tuple")
  | .rol _ => TyX K H v (.type "list")
  | .loc l => ∀ xs, h[l]? = some (.lst xs) → TyX K H v (.type "list")
  | _ => True
theorem Rep.tyx (r : Rep K ρ h H) {x : MV} {v : V} (q : RepV K ρ H x v) : tyS K h H v x := by
  cases x with
  | int i => have := repInt q; subst this; exact .base (.int i)
  | bl i => have := repBl q; subst this; exact .base (.bl i)
  | non => have := repNon q; subst this; exact .base .non
  | str i => have := repStr q; subst this; exact .base (.str i)
  | tup xs =>
    unfold RepV at q
    obtain ⟨a, vs, rfl, s, z⟩ := q
    rcases s with (s | ⟨o, s⟩) | ⟨o, its, n, s, c, _⟩
    · exact .base (.tup s)
    · exact .fTuple s
    · exact .kTuple s c
  | rol xs =>
    unfold RepV at q
    obtain ⟨a, vs, rfl, s, z⟩ := q
    rcases s with ⟨o, s⟩ | ⟨o, its, n, s, c, _⟩
    · exact .base (.frz s)
    · exact .kList s c
  | loc l =>
    intro xs e
    obtain ⟨a, e1, rfl⟩ := repLoc q
    obtain ⟨b, vs, e2, e3, z⟩ := r.lst e
    rw [e1] at e2
    cases e2
    exact .base (.lst e3)
  | _ => trivial
end
section
variable {X : Cx}
theorem ix_M : IxR X (r2P X.K ixO) := by
  intro value slice pins s σ H x y v u Q I rx ry ⟨ρ, h, mx, my, m, rp, qx, qy, e, q⟩ hs
  unfold ixO at e
  split at e
  · rename_i i
    split at e
    · rename_i z
      split at e
      · rename_i hz
        cases e2 : L2.atI z.cps.toList i with
        | none => rw [e2] at e; cases e
        | some c =>
          rw [e2] at e
          cases e
          exact ix_str value slice pins s σ H x y v u Q I rx ry ⟨z, i, c, repStr qx, repInt qy, hz, e2, q _ strRep⟩ hs
      · cases e
    · cases e2 : itemsO mx h with
      | none => rw [e2] at e; cases e
      | some xs =>
        rw [e2] at e
        obtain ⟨a, vs, rfl, s1, z⟩ := rp.items qx e2
        obtain ⟨w, e3, rw⟩ := z.atI e
        rcases s1 with s1 | s1
        · exact ix_list value slice pins s σ H _ y v u Q I rx ry ⟨a, vs, i, w, rfl, repInt qy, s1, e3, q _ rw⟩ hs
        · exact ix_tup value slice pins s σ H _ y v u Q I rx ry ⟨a, vs, i, w, rfl, repInt qy, s1, e3, q _ rw⟩ hs
  · cases e
/-- a slice -/
def rslM (K : PySem.W.Frag) : V → Option Int → Option Int → Hp → VK → Prop := fun x l u H Q => ∃ ρ h mx v h', Rep K ρ h H ∧ RepV K ρ H mx x ∧ slO mx l u h = some (v, h') ∧
  ∀ ρ' H' w, Ext ρ H ρ' H' → Rep K ρ' h' H' → RepV K ρ' H' v w → Q w H'
theorem sl_M : SlR X (rslM X.K) := by
  intro pins s σ H x v vl vu lo hi sl Q I rx hs pl pu ⟨ρ, h, mx, m, h', rp, qx, e, q⟩
  unfold slO at e
  split at e
  · split at e
    · rename_i l xs hx
      cases e
      obtain ⟨a, vs, rfl, s1, z⟩ := rp.lists (xs := xs) qx (by unfold listO; simp only [hx])
      exact sl_list pins s σ H _ v vl vu lo hi sl Q I rx hs pl pu ⟨a, vs, rfl, s1, rp.newL (z.cut lo hi) q⟩
    · cases e
  · rename_i xs
    cases e
    obtain ⟨a, vs, rfl, s1, z⟩ := rp.lists (xs := xs) qx rfl
    exact sl_list pins s σ H _ v vl vu lo hi sl Q I rx hs pl pu ⟨a, vs, rfl, s1, rp.newL (z.cut lo hi) q⟩
  · rename_i xs
    split at e
    · cases e
    · rename_i hn
      cases e
      unfold RepV at qx
      obtain ⟨a, vs, rfl, s1, z⟩ := qx
      exact sl_tup pins s σ H _ v vl vu lo hi sl Q I rx hs pl pu ⟨a, vs, rfl, s1, by rw [z.length]; exact hn, rp.newT (z.cut lo hi) q⟩
  · cases e

/-! ### built-in functions -/
theorem RepVs.of1 {K : PySem.W.Frag} {ρ : List Addr} {H : Hp} {x : MV} {vs : List V} (q : RepVs K ρ H [x] vs) : ∃ v, vs = [v] ∧ RepV K ρ H x v := by
  unfold RepVs at q
  obtain ⟨w, ws, rfl, a, b⟩ := q
  unfold RepVs at b
  subst b
  exact ⟨w, rfl, a⟩
theorem RepVs.of2 {K : PySem.W.Frag} {ρ : List Addr} {H : Hp} {x y : MV} {vs : List V} (q : RepVs K ρ H [x, y] vs) : ∃ v w, vs = [v, w] ∧ RepV K ρ H x v ∧ RepV K ρ H y w := by
  unfold RepVs at q
  obtain ⟨w, ws, rfl, a, b⟩ := q
  obtain ⟨u, rfl, c⟩ := b.of1
  exact ⟨w, u, rfl, a, c⟩
theorem RepVs.of0 {K : PySem.W.Frag} {ρ : List Addr} {H : Hp} {vs : List V} (q : RepVs K ρ H [] vs) : vs = [] := by unfold RepVs at q; exact q
theorem cb_len : CallR X (.builtin "len") (rsM X.K (biO .len)) := by
  intro pins s σ H vs us Q I r ⟨ρ, h, xs, m, h', rp, qs, e, q⟩
  unfold biO at e
  split at e <;> try (rename_i hb; cases hb)
  · split at e
    · rename_i hz
      cases e
      obtain ⟨v, rfl, qx⟩ := qs.of1
      exact call_len_str pins s σ H _ us Q I r ⟨_, by rw [repStr qx], hz, q ρ H _ .refl rp intRep⟩
    · cases e
  · rename_i x hx
    obtain ⟨v, rfl, qx⟩ := qs.of1
    cases e2 : itemsO x h with
    | none => rw [e2] at e; cases e
    | some xs =>
      rw [e2] at e
      cases e
      obtain ⟨a, ws, rfl, s1, z⟩ := rp.items qx e2
      exact call_len_seq pins s σ H _ us Q I r ⟨a, ws, rfl, s1, by rw [z.length]; exact q ρ H _ .refl rp intRep⟩
  · cases e
theorem cb_min2 (hc : X.calm = true) : CallR X (.builtin "min") (rsM X.K (biO .min2)) := by
  intro pins s σ H vs us Q I r ⟨ρ, h, xs, m, h', rp, qs, e, q⟩
  unfold biO at e
  split at e <;> try (rename_i hb; cases hb)
  · cases e
    obtain ⟨v, w, rfl, qx, qy⟩ := qs.of2
    exact call_min2 hc pins s σ H _ us Q I r ⟨_, _, by rw [repInt qx, repInt qy], q ρ H _ .refl rp intRep⟩
  · cases e
theorem cb_max2 (hc : X.calm = true) : CallR X (.builtin "max") (rsM X.K (biO .max2)) := by
  intro pins s σ H vs us Q I r ⟨ρ, h, xs, m, h', rp, qs, e, q⟩
  unfold biO at e
  split at e <;> try (rename_i hb; cases hb)
  · cases e
    obtain ⟨v, w, rfl, qx, qy⟩ := qs.of2
    exact call_max2 hc pins s σ H _ us Q I r ⟨_, _, by rw [repInt qx, repInt qy], q ρ H _ .refl rp intRep⟩
  · cases e
theorem cb_abs : CallR X (.builtin "abs") (rsM X.K (biO .abs)) := by
  intro pins s σ H vs us Q I r ⟨ρ, h, xs, m, h', rp, qs, e, q⟩
  unfold biO at e
  split at e <;> try (rename_i hb; cases hb)
  · cases e
    obtain ⟨v, rfl, qx⟩ := qs.of1
    exact call_abs pins s σ H _ us Q I r ⟨_, by rw [repInt qx], q ρ H _ .refl rp intRep⟩
  · cases e
theorem ct_int : CallR X (.type "int") (rsM X.K (biO .int)) := by
  intro pins s σ H vs us Q I r ⟨ρ, h, xs, m, h', rp, qs, e, q⟩
  unfold biO at e
  split at e <;> try (rename_i hb; cases hb)
  · cases e
    obtain ⟨v, rfl, qx⟩ := qs.of1
    exact call_int1 pins s σ H _ us Q I r (.inl ⟨_, by rw [repInt qx], q ρ H _ .refl rp intRep⟩)
  · cases e
    obtain ⟨v, rfl, qx⟩ := qs.of1
    exact call_int1 pins s σ H _ us Q I r (.inr ⟨_, by rw [repBl qx], q ρ H _ .refl rp intRep⟩)
  · cases e
theorem ct_list : CallR X (.type "list") (rsM X.K (biO .list)) := by
  intro pins s σ H vs us Q I r ⟨ρ, h, xs, m, h', rp, qs, e, q⟩
  unfold biO at e
  split at e <;> try (rename_i hb; cases hb)
  · rename_i x
    obtain ⟨v, rfl, qx⟩ := qs.of1
    split at e
    · rename_i xs e2
      cases e
      obtain ⟨a, ws, rfl, s1, z⟩ := rp.items qx e2
      exact call_list_of pins s σ H _ us Q I r ⟨a, ws, rfl, s1, rp.newL z q⟩
    · cases e
  · cases e
theorem ct_tuple : CallR X (.type "tuple") (rsM X.K (biO .tuple)) := by
  intro pins s σ H vs us Q I r ⟨ρ, h, xs, m, h', rp, qs, e, q⟩
  unfold biO at e
  split at e <;> try (rename_i hb; cases hb)
  · rename_i xs
    cases e
    obtain ⟨v, rfl, qx⟩ := qs.of1
    have qx' := qx
    unfold RepV at qx
    obtain ⟨a, ws, rfl, s1, z⟩ := qx
    exact call_tuple_of pins s σ H _ us Q I r ⟨a, ws, rfl, .inr ⟨s1, q ρ H _ .refl rp qx'⟩⟩
  · rename_i x hx
    obtain ⟨v, rfl, qx⟩ := qs.of1
    cases e2 : itemsO x h with
    | none => rw [e2] at e; cases e
    | some xs =>
      rw [e2] at e
      cases e
      obtain ⟨a, ws, rfl, s1, z⟩ := rp.items qx e2
      rcases s1 with s1 | s1
      · exact call_tuple_of pins s σ H _ us Q I r ⟨a, ws, rfl, .inl ⟨s1, rp.newT z q⟩⟩
      · exact call_tuple_of pins s σ H _ us Q I r ⟨a, ws, rfl, .inr ⟨s1, q ρ H _ .refl rp (by unfold RepV; exact ⟨a, ws, rfl, s1, z⟩)⟩⟩
  · cases e
theorem cb_sum (hc : X.calm = true) : CallR X (.builtin "sum") (rsM X.K (biO .sum)) := by
  intro pins s σ H vs us Q I r ⟨ρ, h, xs, m, h', rp, qs, e, q⟩
  unfold biO at e
  split at e <;> try (rename_i hb; cases hb)
  · rename_i x
    obtain ⟨v, rfl, qx⟩ := qs.of1
    cases e2 : listO x h with
    | none => rw [e2] at e; cases e
    | some xs =>
      rw [e2] at e
      cases e3 : intsO xs with
      | none =>
        rw [Option.bind_some, e3] at e
        cases e
      | some ns =>
        rw [Option.bind_some, e3] at e
        cases e
        obtain ⟨a, ws, rfl, s1, z⟩ := rp.lists qx e2
        rw [z.ints e3] at s1
        exact cr_sum hc pins s σ H _ us Q I r ⟨a, ns, rfl, s1, q ρ H _ .refl rp intRep⟩
  · cases e
theorem sorted_one : ∀ {xs ys : List Int}, xs.Perm ys → xs.Pairwise (· ≤ ·) → ys.Pairwise (· ≤ ·) → xs = ys
  | [], ys, p, _, _ => (List.Perm.nil_eq p)
  | x :: xs, [], p, _, _ => absurd p.length_eq (by simp)
  | x :: xs, y :: ys, p, a, b => by
    have h1 : x ≤ y := by
      have m : y ∈ x :: xs := p.symm.subset List.mem_cons_self
      rcases List.mem_cons.mp m with rfl | m
      · exact Int.le_refl _
      · exact (List.pairwise_cons.mp a).1 _ m
    have h2 : y ≤ x := by
      have m : x ∈ y :: ys := p.subset List.mem_cons_self
      rcases List.mem_cons.mp m with rfl | m
      · exact Int.le_refl _
      · exact (List.pairwise_cons.mp b).1 _ m
    have e : x = y := Int.le_antisymm h1 h2
    subst e
    rw [sorted_one ((List.perm_cons x).mp p) (List.pairwise_cons.mp a).2 (List.pairwise_cons.mp b).2]
abbrev sortI (ns : List Int) : List Int := ns.mergeSort (fun a b => decide (a ≤ b))
theorem sortI_pw (ns : List Int) : (sortI ns).Pairwise (· ≤ ·) := by
  have := List.pairwise_mergeSort (le := fun a b : Int => decide (a ≤ b)) (by intro a b c; simp; omega) (by intro a b; simp; omega) ns
  exact this.imp (by intro a b; simp)
theorem cb_sorted : CallR X (.builtin "sorted") (rsM X.K (biO .sorted)) := by
  intro pins s σ H vs us Q I r ⟨ρ, h, xs, m, h', rp, qs, e, q⟩
  unfold biO at e
  split at e <;> try (rename_i hb; cases hb)
  · rename_i x
    obtain ⟨v, rfl, qx⟩ := qs.of1
    split at e
    · rename_i ns en
      cases e
      cases e2 : listO x h with
      | none => rw [e2] at en; cases en
      | some xs =>
        rw [e2, Option.bind_some] at en
        obtain ⟨a, ws, rfl, s1, z⟩ := rp.lists qx e2
        rw [z.ints en] at s1
        refine cr_sortedI pins s σ H _ us Q I r ⟨a, ns, rfl, s1, fun ns' p pm pw hp => ?_⟩
        have e3 : ns' = sortI ns := sorted_one (pm.trans (List.mergeSort_perm ns _).symm) pw (sortI_pw ns)
        subst e3
        exact rp.newL repVs_ints q p hp
    · cases e
  · cases e
/-- isinstance(x, int), isinstance(x, bool): the class is the second argument -/
theorem cb_isTy {b : Bi} {n : String} (hb : b = .isInt ∧ n = "int" ∨ b = .isBool ∧ n = "bool") : CallR X (.builtin "isinstance") (fun vs H Q => ∃ x, vs = [x, .ty n] ∧ rsM X.K (biO b) [x] H Q) := by
  intro pins s σ H vs us Q I r ⟨x, ev, ρ, h, xs, m, h', rp, qs, e, q⟩
  subst ev
  obtain ⟨y, rfl⟩ : ∃ y, xs = [y] := by
    have := qs.length
    cases xs with
    | nil => simp at this
    | cons y r =>
      cases r with
      | nil => exact ⟨y, rfl⟩
      | cons _ _ => simp at this
  obtain ⟨v, ev, qx⟩ := qs.of1
  cases ev
  have ty := rp.tyx qx
  have go : ∀ (t : String) (k : Bool), TyX X.K H x (.type t) → PySem.W.kitOne X.K (.type t) (.type n) = some k → m = .bl k → h = h' → wpAny (model X.prog X.w) X.A (call (.builtin "isinstance") us) (EP X pins σ Q) X.xe s := by
    intro t k hT hk em eh
    subst em; subst eh
    exact call_isi pins s σ H _ us Q I r ⟨x, .ty n, _, _, k, rfl, .ty n, hT, hk, q ρ H _ .refl rp blRep⟩
  rcases hb with ⟨rfl, rfl⟩ | ⟨rfl, rfl⟩
  · unfold biO at e
    simp only at e
    cases y with
    | int _ => cases e; exact go _ _ ty (kit_ty (by decide +kernel)) rfl rfl
    | bl _ => cases e; exact go _ _ ty (kit_ty (by decide +kernel)) rfl rfl
    | non => cases e; exact go _ _ ty (kit_ty (by decide +kernel)) rfl rfl
    | str _ => cases e; exact go _ _ ty (kit_ty (by decide +kernel)) rfl rfl
    | tup _ => cases e; exact go _ _ ty (kit_ty (by decide +kernel)) rfl rfl
    | rol _ => cases e; exact go _ _ ty (kit_ty (by decide +kernel)) rfl rfl
    | loc l =>
      simp only at e
      split at e
      · rename_i xs hx
        cases e
        exact go _ _ (ty xs hx) (kit_ty (by decide +kernel)) rfl rfl
      · cases e
    | ty _ => cases e
    | cls _ => cases e
  · unfold biO at e
    simp only at e
    cases y with
    | int _ => cases e; exact go _ _ ty (kit_ty (by decide +kernel)) rfl rfl
    | bl _ => cases e; exact go _ _ ty (kit_ty (by decide +kernel)) rfl rfl
    | non => cases e; exact go _ _ ty (kit_ty (by decide +kernel)) rfl rfl
    | str _ => cases e; exact go _ _ ty (kit_ty (by decide +kernel)) rfl rfl
    | tup _ => cases e; exact go _ _ ty (kit_ty (by decide +kernel)) rfl rfl
    | rol _ => cases e; exact go _ _ ty (kit_ty (by decide +kernel)) rfl rfl
    | loc l =>
      simp only at e
      split at e
      · rename_i xs hx
        cases e
        exact go _ _ (ty xs hx) (kit_ty (by decide +kernel)) rfl rfl
      · cases e
    | ty _ => cases e
    | cls _ => cases e
/-- isinstance of a type by its name -/
theorem cb_isTn {b : Bi} {n : String} (hb : ∀ x h, biO b [x] h = (tyNmM x h).map fun t => (.bl (t == n), h)) (hk : ∀ t ∈ ["int", "bool", "NoneType", "str", "tuple", "list"], PySem.W.kitOne X.K (.type t) (.type n) = some (t == n)) : CallR X (.builtin "isinstance") (fun vs H Q => ∃ x, vs = [x, .ty n] ∧ rsM X.K (biO b) [x] H Q) := by
  intro pins s σ H vs us Q I r ⟨x, ev, ρ, h, xs, m, h', rp, qs, e, q⟩
  subst ev
  obtain ⟨y, rfl⟩ : ∃ y, xs = [y] := by
    have := qs.length
    cases xs with
    | nil => simp at this
    | cons y r =>
      cases r with
      | nil => exact ⟨y, rfl⟩
      | cons _ _ => simp at this
  obtain ⟨v, ev, qx⟩ := qs.of1
  cases ev
  have ty := rp.tyx qx
  have go : ∀ (t : String), t ∈ ["int", "bool", "NoneType", "str", "tuple", "list"] → TyX X.K H x (.type t) → m = .bl (t == n) → h = h' → wpAny (model X.prog X.w) X.A (call (.builtin "isinstance") us) (EP X pins σ Q) X.xe s := by
    intro t ht hT em eh
    subst em; subst eh
    exact call_isi pins s σ H _ us Q I r ⟨x, .ty n, _, _, _, rfl, .ty n, hT, hk t ht, q ρ H _ .refl rp blRep⟩
  rw [hb] at e
  unfold tyNmM at e
  cases y with
  | int _ => cases e; exact go _ (by decide) ty rfl rfl
  | bl _ => cases e; exact go _ (by decide) ty rfl rfl
  | non => cases e; exact go _ (by decide) ty rfl rfl
  | str _ => cases e; exact go _ (by decide) ty rfl rfl
  | tup _ => cases e; exact go _ (by decide) ty rfl rfl
  | rol _ => cases e; exact go _ (by decide) ty rfl rfl
  | loc l =>
    simp only at e
    split at e
    · rename_i xs hx
      cases e
      exact go _ (by decide) (ty xs hx) rfl rfl
    · cases e
  | ty _ => cases e
  | cls _ => cases e
theorem maxI_ok : ∀ (ns : List Int) (a : Int), maxI a ns ∈ a :: ns ∧ ∀ y ∈ a :: ns, y ≤ maxI a ns
  | [], a => ⟨List.mem_cons_self, fun y hy => by simp at hy; subst hy; exact Int.le_refl _⟩
  | b :: r, a => by
    obtain ⟨c, hc⟩ : ∃ c, (if b > a then b else a) = c := ⟨_, rfl⟩
    have q0 : c = a ∨ c = b := by rw [← hc]; split <;> simp
    have q1 : a ≤ c := by rw [← hc]; split <;> omega
    have q2 : b ≤ c := by rw [← hc]; split <;> omega
    obtain ⟨h1, h2⟩ := maxI_ok r c
    unfold maxI
    rw [hc]
    refine ⟨?_, fun y hy => ?_⟩
    · rcases List.mem_cons.mp h1 with h1 | h1
      · rw [h1]
        rcases q0 with rfl | rfl <;> simp
      · exact List.mem_cons_of_mem _ (List.mem_cons_of_mem _ h1)
    · rcases List.mem_cons.mp hy with rfl | hy
      · exact Int.le_trans q1 (h2 _ List.mem_cons_self)
      · rcases List.mem_cons.mp hy with rfl | hy
        · exact Int.le_trans q2 (h2 _ List.mem_cons_self)
        · exact h2 _ (List.mem_cons_of_mem _ hy)
theorem minI_ok : ∀ (ns : List Int) (a : Int), minI a ns ∈ a :: ns ∧ ∀ y ∈ a :: ns, minI a ns ≤ y
  | [], a => ⟨List.mem_cons_self, fun y hy => by simp at hy; subst hy; exact Int.le_refl _⟩
  | b :: r, a => by
    obtain ⟨c, hc⟩ : ∃ c, (if b < a then b else a) = c := ⟨_, rfl⟩
    have q0 : c = a ∨ c = b := by rw [← hc]; split <;> simp
    have q1 : c ≤ a := by rw [← hc]; split <;> omega
    have q2 : c ≤ b := by rw [← hc]; split <;> omega
    obtain ⟨h1, h2⟩ := minI_ok r c
    unfold minI
    rw [hc]
    refine ⟨?_, fun y hy => ?_⟩
    · rcases List.mem_cons.mp h1 with h1 | h1
      · rw [h1]
        rcases q0 with rfl | rfl <;> simp
      · exact List.mem_cons_of_mem _ (List.mem_cons_of_mem _ h1)
    · rcases List.mem_cons.mp hy with rfl | hy
      · exact Int.le_trans (h2 _ List.mem_cons_self) q1
      · rcases List.mem_cons.mp hy with rfl | hy
        · exact Int.le_trans (h2 _ List.mem_cons_self) q2
        · exact h2 _ (List.mem_cons_of_mem _ hy)
theorem repVs_bls {K : PySem.W.Frag} {ρ : List Addr} {H : Hp} : ∀ {xs : List MV} {bs : List Bool} {ws : List V}, RepVs K ρ H xs ws → blsO xs = some bs → ws = bs.map V.bl
  | [], _, _, q, e => by
    unfold blsO at e
    cases e
    exact q.of0
  | x :: xs, _, _, q, e => by
    unfold RepVs at q
    obtain ⟨w, ws, rfl, a, b⟩ := q
    cases x with
    | bl i =>
      unfold blsO at e
      cases e2 : blsO xs with
      | none => rw [e2] at e; cases e
      | some ms =>
        rw [e2] at e
        cases e
        rw [repBl a, repVs_bls b e2]
        rfl
    | _ => simp [blsO] at e
theorem cb_allL (hc : X.calm = true) : CallR X (.builtin "all") (rsM X.K (biO .allL)) := by
  intro pins s σ H vs us Q I r ⟨ρ, h, xs, m, h', rp, qs, e, q⟩
  unfold biO at e
  split at e <;> try (rename_i hb; cases hb)
  · rename_i x
    obtain ⟨v, rfl, qx⟩ := qs.of1
    cases e2 : listO x h with
    | none => rw [e2] at e; cases e
    | some xs =>
      rw [e2] at e
      cases e3 : blsO xs with
      | none =>
        rw [Option.bind_some, e3] at e
        cases e
      | some ns =>
        rw [Option.bind_some, e3] at e
        cases e
        obtain ⟨a, ws, rfl, s1, z⟩ := rp.lists qx e2
        rw [repVs_bls z e3] at s1
        exact cr_all hc pins s σ H _ us Q I r ⟨a, ns, rfl, s1, q ρ H _ .refl rp blRep⟩
  · cases e
theorem cb_anyL (hc : X.calm = true) : CallR X (.builtin "any") (rsM X.K (biO .anyL)) := by
  intro pins s σ H vs us Q I r ⟨ρ, h, xs, m, h', rp, qs, e, q⟩
  unfold biO at e
  split at e <;> try (rename_i hb; cases hb)
  · rename_i x
    obtain ⟨v, rfl, qx⟩ := qs.of1
    cases e2 : listO x h with
    | none => rw [e2] at e; cases e
    | some xs =>
      rw [e2] at e
      cases e3 : blsO xs with
      | none =>
        rw [Option.bind_some, e3] at e
        cases e
      | some ns =>
        rw [Option.bind_some, e3] at e
        cases e
        obtain ⟨a, ws, rfl, s1, z⟩ := rp.lists qx e2
        rw [repVs_bls z e3] at s1
        exact cr_any hc pins s σ H _ us Q I r ⟨a, ns, rfl, s1, q ρ H _ .refl rp blRep⟩
  · cases e
theorem cb_maxL (hc : X.calm = true) : CallR X (.builtin "max") (rsM X.K (biO .maxL)) := by
  intro pins s σ H vs us Q I r ⟨ρ, h, xs, m, h', rp, qs, e, q⟩
  unfold biO at e
  split at e <;> try (rename_i hb; cases hb)
  · rename_i x
    obtain ⟨v, rfl, qx⟩ := qs.of1
    split at e
    · rename_i n ns en
      cases e
      cases e2 : listO x h with
      | none => rw [e2] at en; cases en
      | some xs =>
        rw [e2, Option.bind_some] at en
        obtain ⟨a, ws, rfl, s1, z⟩ := rp.lists qx e2
        rw [z.ints en] at s1
        refine cr_max hc pins s σ H _ us Q I r ⟨a, n :: ns, rfl, s1, by simp, fun m hm hy => ?_⟩
        obtain ⟨h1, h2⟩ := maxI_ok ns n
        have : m = maxI n ns := Int.le_antisymm (h2 _ hm) (hy _ h1)
        subst this
        exact q ρ H _ .refl rp intRep
    · cases e
  · cases e
theorem cb_minL (hc : X.calm = true) : CallR X (.builtin "min") (rsM X.K (biO .minL)) := by
  intro pins s σ H vs us Q I r ⟨ρ, h, xs, m, h', rp, qs, e, q⟩
  unfold biO at e
  split at e <;> try (rename_i hb; cases hb)
  · rename_i x
    obtain ⟨v, rfl, qx⟩ := qs.of1
    split at e
    · rename_i n ns en
      cases e
      cases e2 : listO x h with
      | none => rw [e2] at en; cases en
      | some xs =>
        rw [e2, Option.bind_some] at en
        obtain ⟨a, ws, rfl, s1, z⟩ := rp.lists qx e2
        rw [z.ints en] at s1
        refine cr_min hc pins s σ H _ us Q I r ⟨a, n :: ns, rfl, s1, by simp, fun m hm hy => ?_⟩
        obtain ⟨h1, h2⟩ := minI_ok ns n
        have : m = minI n ns := Int.le_antisymm (hy _ h1) (h2 _ hm)
        subst this
        exact q ρ H _ .refl rp intRep
    · cases e
  · cases e

/-! ### methods of lists -/
theorem mt_appendM : MtR X "list.append" (rmM X.K (mtO .append)) := by
  intro pins s σ H x vs v us Q I rx rs ⟨ρ, h, mx, xs, m, h', rp, qx, qs, e, q⟩
  unfold mtO at e
  split at e
  · rename_i l
    split at e
    · rename_i ys hy
      split at e <;> try (rename_i hb; cases hb)
      · split at e
        · rename_i hz
          cases e
          obtain ⟨a, e1, rfl⟩ := repLoc qx
          obtain ⟨b, ws, e2, e3, z⟩ := rp.lst hy
          rw [e1] at e2
          cases e2
          obtain ⟨y, rfl, qy⟩ := qs.of1
          refine mt_append pins s σ H _ _ v us Q I rx rs ⟨a, ws, y, rfl, rfl, e3, by rw [z.length]; exact hz, ?_⟩
          exact q ρ _ _ (ext_set (List.mem_of_getElem? e1)) (rp.setL e1 (z.append (.one qy))) nonRep
        · cases e
      · cases e
    · cases e
  · cases e
theorem mt_popM : MtR X "list.pop" (rmM X.K (mtO .pop)) := by
  intro pins s σ H x vs v us Q I rx rs ⟨ρ, h, mx, xs, m, h', rp, qx, qs, e, q⟩
  unfold mtO at e
  split at e
  · rename_i l
    split at e
    · rename_i ys hy
      split at e <;> try (rename_i hb; cases hb)
      · split at e
        · rename_i y ey
          cases e
          obtain ⟨a, e1, rfl⟩ := repLoc qx
          obtain ⟨b, ws, e2, e3, z⟩ := rp.lst hy
          rw [e1] at e2
          cases e2
          have := qs.of0
          subst this
          obtain ⟨w, ew, qw⟩ := z.get ey
          have zd : RepVs X.K ρ H ys.dropLast ws.dropLast := by
            rw [List.dropLast_eq_take, List.dropLast_eq_take, z.length]
            exact z.take _
          refine mt_pop pins s σ H _ _ v us Q I rx rs ⟨a, ws, w, rfl, rfl, e3, by rw [z.length]; exact ew, ?_⟩
          exact q ρ _ _ (ext_set (List.mem_of_getElem? e1)) (rp.setL e1 zd) (qw.mono rp (ext_set (List.mem_of_getElem? e1)))
        · cases e
      · cases e
    · cases e
  · cases e
theorem mt_popAtM : MtR X "list.pop" (rmM X.K (mtO .popAt)) := by
  intro pins s σ H x vs v us Q I rx rs ⟨ρ, h, mx, xs, m, h', rp, qx, qs, e, q⟩
  unfold mtO at e
  split at e
  · rename_i l
    split at e
    · rename_i ys hy
      split at e <;> try (rename_i hb; cases hb)
      · split at e
        · rename_i hz
          split at e
          · rename_i k ek
            split at e
            · rename_i y ey
              cases e
              obtain ⟨a, e1, rfl⟩ := repLoc qx
              obtain ⟨b, ws, e2, e3, z⟩ := rp.lst hy
              rw [e1] at e2
              cases e2
              obtain ⟨i, rfl, qi⟩ := qs.of1
              rw [repInt qi] at rs
              obtain ⟨w, ew, qw⟩ := z.get ey
              refine mt_popAt pins s σ H _ _ v us Q I rx rs ⟨a, ws, _, k, w, rfl, rfl, e3, hz.1, hz.2, by rw [z.length]; exact ek, ew, ?_⟩
              exact q ρ _ _ (ext_set (List.mem_of_getElem? e1)) (rp.setL e1 (z.eraseIdx k)) (qw.mono rp (ext_set (List.mem_of_getElem? e1)))
            · cases e
          · cases e
        · cases e
      · cases e
    · cases e
  · cases e
/-- o[i] = v -/
def rsetM (K : PySem.W.Frag) : TSet := fun o i v H Q => ∃ ρ h mo mi mv h', Rep K ρ h H ∧ RepV K ρ H mo o ∧ RepV K ρ H mi i ∧ RepV K ρ H mv v ∧ setIxO mo mi mv h = some h' ∧ ∀ H', Ext ρ H ρ H' → Rep K ρ h' H' → Q H'
theorem set_M : PSet X (rsetM X.K) := by
  intro pins s σ H o i v ov iv u Q I ro ri rv ⟨ρ, h, mo, mi, mv, h', rp, qo, qi, qv, e, q⟩
  unfold setIxO at e
  split at e
  · rename_i l k
    split at e
    · rename_i ys hy
      cases e2 : ixN ys.length k with
      | none => rw [e2] at e; cases e
      | some j =>
        rw [e2] at e
        cases e
        obtain ⟨a, e1, rfl⟩ := repLoc qo
        obtain ⟨b, ws, e3, e4, z⟩ := rp.lst hy
        rw [e1] at e3
        cases e3
        refine set_list pins s σ H _ i v ov iv u Q I ro ri rv ⟨a, ws, k, j, rfl, repInt qi, e4, by rw [z.length]; exact e2, ?_⟩
        exact q _ (ext_set (List.mem_of_getElem? e1)) (rp.setL e1 (z.set qv j))
    · cases e
  · cases e
end
end MP
end
section
set_option Elab.async false
set_option linter.all false
set_option maxRecDepth 100000
set_option maxHeartbeats 4000000
/-! MP, part e: expressions: a piece of syntax does what its mini expression says. -/
namespace MP
open PySem PySem.Spec PyProof.Rows L2

def REnv (K : PySem.W.Frag) (ρ : List Addr) (H : Hp) (e : En) (σ : L2.St) : Prop :=
  e.length = σ.length ∧ ∀ (i : Nat) (v : MV), e[i]? = some (some v) → ∃ w, σ[i]? = some (some w) ∧ RepV K ρ H v w
/-- an exception of ours as it lies -/
def RepX (K : PySem.W.Frag) (ρ : List Addr) (H : Hp) (x : Exn) (cls : Value) (d : Option Addr) : Prop := False
def PostG {α β : Type} (R : List Addr → Hp → α → β → Prop) (K : PySem.W.Frag) (W : WX) (σ : L2.St) (ρ : List Addr) (H : Hp) (r : Res α) (Q : β → Hp → Prop) : Prop := match r with
  | .ok a h' => ∀ ρ' H' b, Ext ρ H ρ' H' → Rep K ρ' h' H' → R ρ' H' a b → Q b H'
  | .exc x h' => ∀ ρ' H' cls d, Ext ρ H ρ' H' → Rep K ρ' h' H' → RepX K ρ' H' x cls d → W cls d σ H'
  | .bad => False
abbrev RB : List Addr → Hp → Bool → Bool → Prop := fun _ _ a b => a = b
section
variable {K : PySem.W.Frag} {ρ ρ1 : List Addr} {h : MH} {H H1 : Hp} {W : WX} {σ : L2.St} {e : En}
theorem REnv.mono (r : Rep K ρ h H) (x : Ext ρ H ρ1 H1) (q : REnv K ρ H e σ) : REnv K ρ1 H1 e σ :=
  ⟨q.1, fun i v ei => let ⟨w, a, b⟩ := q.2 i v ei; ⟨w, a, b.mono r x⟩⟩
theorem REnv.set {v : MV} {w : V} (q : REnv K ρ H e σ) (i : Nat) (r : RepV K ρ H v w) : REnv K ρ H (e.set i (some v)) (σ.set i (some w)) := by
  refine ⟨by rw [List.length_set, List.length_set]; exact q.1, fun j u ej => ?_⟩
  by_cases hij : i = j
  · subst hij
    by_cases hi : i < e.length
    · rw [List.getElem?_set_self hi] at ej
      cases ej
      exact ⟨w, List.getElem?_set_self (by rw [← q.1]; exact hi), r⟩
    · rw [List.getElem?_eq_none (by rw [List.length_set]; omega)] at ej
      cases ej
  · rw [List.getElem?_set_ne hij] at ej
    obtain ⟨w', a, b⟩ := q.2 j u ej
    exact ⟨w', by rw [List.getElem?_set_ne hij]; exact a, b⟩
variable {α β γ δ : Type} {R : List Addr → Hp → α → β → Prop} {R' : List Addr → Hp → γ → δ → Prop}
theorem PostG.imp {r : Res α} {Q Q' : β → Hp → Prop} (p : PostG R K W σ ρ H r Q) (f : ∀ b H', Q b H' → Q' b H') : PostG R K W σ ρ H r Q' := by
  cases r with
  | ok a h' => exact fun ρ' H' b x rp q => f b H' (p ρ' H' b x rp q)
  | exc x h' => exact p
  | bad => exact p
theorem PostG.ext {r : Res α} {Q : β → Hp → Prop} (p : PostG R K W σ ρ H r Q) (x : Ext ρ H ρ1 H1) : PostG R K W σ ρ1 H1 r Q := by
  cases r with
  | ok a h' => exact fun ρ' H' b y rp q => p ρ' H' b (x.trans y) rp q
  | exc z h' => exact fun ρ' H' c d y rp q => p ρ' H' c d (x.trans y) rp q
  | bad => exact p
theorem PostG.bind {r : Res α} {f : α → MH → Res γ} {Q : δ → Hp → Prop} (p : PostG R' K W σ ρ H (r.bind f) Q) :
    PostG R K W σ ρ H r (fun b H1 => ∃ ρ1 h1 a, Ext ρ H ρ1 H1 ∧ Rep K ρ1 h1 H1 ∧ R ρ1 H1 a b ∧ PostG R' K W σ ρ1 H1 (f a h1) Q) := by
  cases r with
  | ok a h' => exact fun ρ' H' b x rp q => ⟨ρ', h', a, x, rp, q, PostG.ext (R := R') p x⟩
  | exc x h' => exact p
  | bad => exact p
/-- a pure operation behind -/
theorem PostG.of_oP {v : Option (MV × MH)} {Q : VK} (p : PostG (RepV K) K W σ ρ H (oP v) Q) : ∃ m h', v = some (m, h') ∧ ∀ ρ' H' w, Ext ρ H ρ' H' → Rep K ρ' h' H' → RepV K ρ' H' m w → Q w H' := by
  cases v with
  | none => exact False.elim p
  | some q => exact ⟨q.1, q.2, rfl, p⟩
theorem PostG.of_oR {v : Option γ} {f : γ → MH → Res α} {Q : β → Hp → Prop} (p : PostG R K W σ ρ H ((oR h v).bind f) Q) : ∃ k, v = some k ∧ PostG R K W σ ρ H (f k h) Q := by
  cases v with
  | none => exact False.elim p
  | some k => exact ⟨k, rfl, p⟩
theorem PostG.of_oR1 {v : Option α} {Q : β → Hp → Prop} (p : PostG R K W σ ρ H (oR h v) Q) : ∃ k, v = some k ∧ PostG R K W σ ρ H (.ok k h) Q := by
  cases v with
  | none => exact False.elim p
  | some k => exact ⟨k, rfl, p⟩
/-- a value stands already -/
theorem PostG.here {a : α} {b : β} {Q : β → Hp → Prop} (p : PostG R K W σ ρ H (.ok a h) Q) (rp : Rep K ρ h H) (q : R ρ H a b) : Q b H := p ρ H b .refl rp q
end

/-! ### readings -/
noncomputable section
def tI (K : PySem.W.Frag) (W : WX) (C : Cl) (a : E) : TE := fun σ H Q => ∃ ρ e h, REnv K ρ H e σ ∧ Rep K ρ h H ∧ PostG (RepV K) K W σ ρ H (E.den C a e h) Q
def tIs (K : PySem.W.Frag) (W : WX) (C : Cl) (as : List E) : TA := fun σ H Q => ∃ ρ e h, REnv K ρ H e σ ∧ Rep K ρ h H ∧ PostG (RepVs K) K W σ ρ H (Es.den C as e h) Q
def tT (K : PySem.W.Frag) (W : WX) (C : Cl) (a : E) : TT := fun σ H Q => ∃ ρ e h, REnv K ρ H e σ ∧ Rep K ρ h H ∧ PostG RB K W σ ρ H (E.tst C a e h) Q
/-- what a call of the i-th def promises -/
def spI (K : PySem.W.Frag) (C : Cl) (i : Nat) : Sp := fun vs H Q Ex => ∃ ρ h xs, Rep K ρ h H ∧ RepVs K ρ H xs vs ∧ PostG (RepV K) K (fun cls d _ H' => Ex cls d H') [] ρ H (C i xs h) Q
end

theorem PEi {X : Cx} {e : Expr} {t t' : TE} (h : PE X e t) (f : ∀ σ H Q, t' σ H Q → t σ H Q) : PE X e t' := ⟨fun pins s σ H Q I q => h.run pins s σ H Q I (f σ H Q q)⟩
theorem PTi {X : Cx} {e : Expr} {t t' : TT} (h : PT X e t) (f : ∀ σ H Q, t' σ H Q → t σ H Q) : PT X e t' := ⟨fun pins s σ H Q I q => h.run pins s σ H Q I (f σ H Q q)⟩
theorem PAi {X : Cx} {e : List Expr} {t t' : TA} (h : PA X e t) (f : ∀ σ H Q, t' σ H Q → t σ H Q) : PA X e t' := ⟨fun pos pins s σ H Q I q => h.run pos pins s σ H Q I (f σ H Q q)⟩
theorem PSi {X : Cx} {e : Stmt} {t t' : TS} (h : PS X e t) (f : ∀ D σ H, t' D σ H → t D σ H) : PS X e t' := ⟨fun pins s σ H D I q => h.run pins s σ H D I (f D σ H q)⟩

section
variable {X : Cx} {W : WX} {C : Cl} {pa pb pc : Expr} {a b c : E} {pos : Pos}
theorem snd_var {i : Nat} {x : Str} (hN : X.N[i]? = some x) (hv : Vis X.env.scope x) (hd : (x == ("__debug__" : Str)) = false) (hcd : (x == ("__classdict__" : Str)) = false) : PE X (.Name x pos) (tI X.K W C (.var i)) := by
  refine PEi (pe_var hN hv hd hcd) fun σ H Q ⟨ρ, e, h, re, rp, po⟩ => ?_
  simp only [E.den] at po
  split at po
  · rename_i v ev
    obtain ⟨w, ew, rw⟩ := re.2 i v ev
    exact ⟨w, ew, po.here rp rw⟩
  · exact po.elim
theorem snd_lit {v : MV} {w : V} {pe : Expr} (h : PE X pe (tC w)) (r : ∀ ρ H, RepV X.K ρ H v w) : PE X pe (tI X.K W C (.lit v)) := by
  refine PEi h fun σ H Q ⟨ρ, e, h, re, rp, po⟩ => ?_
  simp only [E.den] at po
  exact po.here rp (r ρ H)
theorem snd_bin (o : BOp) (ha : PE X pa (tI X.K W C a)) (hb : PE X pb (tI X.K W C b)) : PE X (.BinOp pa o.op pb pos) (tI X.K W C (.bin o a b)) := by
  refine PEi (pe_op (op_binM o) ha hb) fun σ H Q ⟨ρ, e, h, re, rp, po⟩ => ?_
  simp only [E.den] at po
  refine ⟨ρ, e, h, re, rp, (PostG.bind (R := RepV X.K) po).imp fun x H1 ⟨ρ1, h1, mx, x1, rp1, qx, po1⟩ => ?_⟩
  refine ⟨ρ1, e, h1, re.mono rp x1, rp1, (PostG.bind (R := RepV X.K) po1).imp fun y H2 ⟨ρ2, h2, my, x2, rp2, qy, po2⟩ => ?_⟩
  obtain ⟨m, h', e3, q⟩ := po2.of_oP
  exact ⟨ρ2, h2, mx, my, m, h', rp2, qx.mono rp1 x2, qy, e3, q⟩
theorem snd_neg (ha : PE X pa (tI X.K W C a)) : PE X (.UnaryOp .USub pa pos) (tI X.K W C (.neg a)) := by
  refine PEi (pe_un un_neg ha) fun σ H Q ⟨ρ, e, h, re, rp, po⟩ => ?_
  simp only [E.den] at po
  refine ⟨ρ, e, h, re, rp, (PostG.bind (R := RepV X.K) po).imp fun x H1 ⟨ρ1, h1, mx, x1, rp1, qx, po1⟩ => ?_⟩
  split at po1
  · exact ⟨_, repInt qx, po1.here rp1 intRep⟩
  · exact po1.elim
theorem snd_not (ha : PE X pa (tI X.K W C a)) : PE X (.UnaryOp .Not pa pos) (tI X.K W C (.not a)) := by
  refine PEi (pe_notT ha) fun σ H Q ⟨ρ, e, h, re, rp, po⟩ => ?_
  simp only [E.den] at po
  refine ⟨ρ, e, h, re, rp, (PostG.bind (R := RepV X.K) po).imp fun x H1 ⟨ρ1, h1, mx, x1, rp1, qx, po1⟩ => ?_⟩
  obtain ⟨k, ek, po2⟩ := po1.of_oR
  exact ⟨k, truV_ok rp1 qx ek, po2.here rp1 blRep⟩
theorem snd_cmp (hu : X.A.units + 65 < cLine) (o : COp) (hm : behindInMarks o.op pb = false) (ha : PE X pa (tI X.K W C a)) (hb : PE X pb (tI X.K W C b)) : PE X (.Compare pa [o.op] [pb] pos) (tI X.K W C (.cmp o a b)) := by
  refine PEi (pe_cmpR (op_cmpM hu o) ha hb hm) fun σ H Q ⟨ρ, e, h, re, rp, po⟩ => ?_
  simp only [E.den] at po
  refine ⟨ρ, e, h, re, rp, (PostG.bind (R := RepV X.K) po).imp fun x H1 ⟨ρ1, h1, mx, x1, rp1, qx, po1⟩ => ?_⟩
  refine ⟨ρ1, e, h1, re.mono rp x1, rp1, (PostG.bind (R := RepV X.K) po1).imp fun y H2 ⟨ρ2, h2, my, x2, rp2, qy, po2⟩ => ?_⟩
  obtain ⟨k, ek, po3⟩ := po2.of_oR
  exact ⟨ρ2, h2, mx, my, k, rp2, qx.mono rp1 x2, qy, ek, po3.here rp2 blRep⟩
theorem tst_cmp {o : COp} {e : En} {h : MH} : E.tst C (.cmp o a b) e h = (E.den C a e h).bind fun x h1 => (E.den C b e h1).bind fun y h2 => oR h2 (cmpO o x y h2) := by
  unfold E.tst
  simp only [E.den]
  cases E.den C a e h with
  | ok x h1 =>
    simp only [Res.bind_ok]
    cases E.den C b e h1 with
    | ok y h2 =>
      simp only [Res.bind_ok]
      cases cmpO o x y h2 with
      | none => rfl
      | some k => rfl
    | exc _ _ => rfl
    | bad => rfl
  | exc _ _ => rfl
  | bad => rfl
theorem sndT_cmp (hu : X.A.units + 65 < cLine) (o : COp) (hm : behindInMarks o.op pb = false) (ha : PE X pa (tI X.K W C a)) (hb : PE X pb (tI X.K W C b)) : PT X (.Compare pa [o.op] [pb] pos) (tT X.K W C (.cmp o a b)) := by
  refine PTi (pt_cmpR (op_cmpM hu o) ha hb hm) fun σ H Q ⟨ρ, e, h, re, rp, po⟩ => ?_
  rw [tst_cmp] at po
  refine ⟨ρ, e, h, re, rp, (PostG.bind (R := RepV X.K) po).imp fun x H1 ⟨ρ1, h1, mx, x1, rp1, qx, po1⟩ => ?_⟩
  refine ⟨ρ1, e, h1, re.mono rp x1, rp1, (PostG.bind (R := RepV X.K) po1).imp fun y H2 ⟨ρ2, h2, my, x2, rp2, qy, po2⟩ => ?_⟩
  obtain ⟨k, ek, po3⟩ := po2.of_oR1
  exact ⟨ρ2, h2, mx, my, k, rp2, qx.mono rp1 x2, qy, ek, k, rfl, po3.here rp2 rfl⟩
theorem snd_cmp2 (hu : X.A.units + 65 < cLine) (o o' : COp) (hm : lastMarks [o.op, o'.op] [pb, pc] = false) (ha : PE X pa (tI X.K W C a)) (hb : PE X pb (tI X.K W C b)) (hc : PE X pc (tI X.K W C c)) :
    PE X (.Compare pa [o.op, o'.op] [pb, pc] pos) (tI X.K W C (.cmp2 o o' a b c)) := by
  refine PEi (pe_chain (op_cmpM hu o) (op_cmpM hu o') ha hb hc hm) fun σ H Q ⟨ρ, e, h, re, rp, po⟩ => ?_
  simp only [E.den] at po
  refine ⟨ρ, e, h, re, rp, (PostG.bind (R := RepV X.K) po).imp fun x H1 ⟨ρ1, h1, mx, x1, rp1, qx, po1⟩ => ?_⟩
  refine ⟨ρ1, e, h1, re.mono rp x1, rp1, (PostG.bind (R := RepV X.K) po1).imp fun y H2 ⟨ρ2, h2, my, x2, rp2, qy, po2⟩ => ?_⟩
  obtain ⟨k, ek, po3⟩ := po2.of_oR
  refine ⟨ρ2, h2, mx, my, k, rp2, qx.mono rp1 x2, qy, ek, k, rfl, ?_⟩
  cases k with
  | false => exact po3.here rp2 blRep
  | true =>
    have po3 : PostG (RepV X.K) X.K W σ ρ2 H2 ((E.den C c e h2).bind fun z h4 => (oR h4 (cmpO o' my z h4)).bind fun k h5 => .ok (.bl k) h5) Q := po3
    refine ⟨ρ2, e, h2, (re.mono rp x1).mono rp1 x2, rp2, (PostG.bind (R := RepV X.K) po3).imp fun z H3 ⟨ρ3, h3, mz, x3, rp3, qz, po4⟩ => ?_⟩
    obtain ⟨k, ek, po5⟩ := po4.of_oR
    exact ⟨ρ3, h3, my, mz, k, rp3, qy.mono rp2 x3, qz, ek, po5.here rp3 blRep⟩
theorem tst_cmp2 {o o' : COp} {e : En} {h : MH} : E.tst C (.cmp2 o o' a b c) e h = (E.den C a e h).bind fun x h1 => (E.den C b e h1).bind fun y h2 => (oR h2 (cmpO o x y h2)).bind fun k h3 =>
      if k = true then (E.den C c e h3).bind fun z h4 => oR h4 (cmpO o' y z h4) else .ok false h3 := by
  unfold E.tst
  simp only [E.den]
  cases E.den C a e h with
  | ok x h1 =>
    simp only [Res.bind_ok]
    cases E.den C b e h1 with
    | ok y h2 =>
      simp only [Res.bind_ok]
      cases cmpO o x y h2 with
      | none => rfl
      | some k =>
        cases k with
        | false => rfl
        | true =>
          simp only [oR_some, Res.bind_ok, if_true]
          cases E.den C c e h2 with
          | ok z h4 =>
            simp only [Res.bind_ok]
            cases cmpO o' y z h4 with
            | none => rfl
            | some k => rfl
          | exc _ _ => rfl
          | bad => rfl
    | exc _ _ => rfl
    | bad => rfl
  | exc _ _ => rfl
  | bad => rfl
theorem sndT_cmp2 (hu : X.A.units + 65 < cLine) (o o' : COp) (hm : lastMarks [o.op, o'.op] [pb, pc] = false) (ha : PE X pa (tI X.K W C a)) (hb : PE X pb (tI X.K W C b)) (hc : PE X pc (tI X.K W C c)) :
    PT X (.Compare pa [o.op, o'.op] [pb, pc] pos) (tT X.K W C (.cmp2 o o' a b c)) := by
  refine PTi (pt_chain (op_cmpM hu o) (op_cmpM hu o') ha hb hc hm) fun σ H Q ⟨ρ, e, h, re, rp, po⟩ => ?_
  rw [tst_cmp2] at po
  refine ⟨ρ, e, h, re, rp, (PostG.bind (R := RepV X.K) po).imp fun x H1 ⟨ρ1, h1, mx, x1, rp1, qx, po1⟩ => ?_⟩
  refine ⟨ρ1, e, h1, re.mono rp x1, rp1, (PostG.bind (R := RepV X.K) po1).imp fun y H2 ⟨ρ2, h2, my, x2, rp2, qy, po2⟩ => ?_⟩
  obtain ⟨k, ek, po3⟩ := po2.of_oR
  refine ⟨ρ2, h2, mx, my, k, rp2, qx.mono rp1 x2, qy, ek, k, rfl, ?_⟩
  cases k with
  | false => exact ⟨false, rfl, po3.here rp2 rfl⟩
  | true =>
    have po3 : PostG RB X.K W σ ρ2 H2 ((E.den C c e h2).bind fun z h4 => oR h4 (cmpO o' my z h4)) Q := po3
    refine ⟨ρ2, e, h2, (re.mono rp x1).mono rp1 x2, rp2, (PostG.bind (R := RepV X.K) po3).imp fun z H3 ⟨ρ3, h3, mz, x3, rp3, qz, po4⟩ => ?_⟩
    obtain ⟨k, ek, po5⟩ := po4.of_oR1
    exact ⟨ρ3, h3, my, mz, k, rp3, qy.mono rp2 x3, qz, ek, k, rfl, po5.here rp3 rfl⟩

/-! ### and, or, not, if as values and as tests -/
variable {rest : List Expr}
theorem snd_and (ha : PE X pa (tI X.K W C a)) (hb : PE X (.BoolOp .And (pb :: rest) pos) (tI X.K W C b)) : PE X (.BoolOp .And (pa :: pb :: rest) pos) (tI X.K W C (.and a b)) := by
  refine PEi (pe_andT ha hb) fun σ H Q ⟨ρ, e, h, re, rp, po⟩ => ?_
  simp only [E.den] at po
  refine ⟨ρ, e, h, re, rp, (PostG.bind (R := RepV X.K) po).imp fun x H1 ⟨ρ1, h1, mx, x1, rp1, qx, po1⟩ => ?_⟩
  obtain ⟨k, ek, po2⟩ := po1.of_oR
  refine ⟨k, truV_ok rp1 qx ek, ?_⟩
  cases k with
  | true => exact ⟨ρ1, e, h1, re.mono rp x1, rp1, po2⟩
  | false => exact po2.here rp1 qx
theorem snd_or (ha : PE X pa (tI X.K W C a)) (hb : PE X (.BoolOp .Or (pb :: rest) pos) (tI X.K W C b)) : PE X (.BoolOp .Or (pa :: pb :: rest) pos) (tI X.K W C (.or a b)) := by
  refine PEi (pe_orT ha hb) fun σ H Q ⟨ρ, e, h, re, rp, po⟩ => ?_
  simp only [E.den] at po
  refine ⟨ρ, e, h, re, rp, (PostG.bind (R := RepV X.K) po).imp fun x H1 ⟨ρ1, h1, mx, x1, rp1, qx, po1⟩ => ?_⟩
  obtain ⟨k, ek, po2⟩ := po1.of_oR
  refine ⟨k, truV_ok rp1 qx ek, ?_⟩
  cases k with
  | true => exact po2.here rp1 qx
  | false => exact ⟨ρ1, e, h1, re.mono rp x1, rp1, po2⟩
theorem tst_and {e : En} {h : MH} : E.tst C (.and a b) e h = (E.tst C a e h).bind fun k h1 => if k = true then E.tst C b e h1 else .ok false h1 := by
  unfold E.tst
  simp only [E.den]
  cases E.den C a e h with
  | ok x h1 =>
    simp only [Res.bind_ok]
    cases ht : truO x h1 with
    | none => rfl
    | some k =>
      cases k with
      | true => rfl
      | false =>
        simp [ht]
  | exc _ _ => rfl
  | bad => rfl
theorem tst_or {e : En} {h : MH} : E.tst C (.or a b) e h = (E.tst C a e h).bind fun k h1 => if k = true then .ok true h1 else E.tst C b e h1 := by
  unfold E.tst
  simp only [E.den]
  cases E.den C a e h with
  | ok x h1 =>
    simp only [Res.bind_ok]
    cases ht : truO x h1 with
    | none => rfl
    | some k =>
      cases k with
      | false => rfl
      | true =>
        simp [ht]
  | exc _ _ => rfl
  | bad => rfl
theorem tst_not {e : En} {h : MH} : E.tst C (.not a) e h = (E.tst C a e h).bind fun k h1 => .ok (!k) h1 := by
  unfold E.tst
  simp only [E.den]
  cases E.den C a e h with
  | ok x h1 =>
    simp only [Res.bind_ok]
    cases ht : truO x h1 with
    | none => rfl
    | some k => rfl
  | exc _ _ => rfl
  | bad => rfl
theorem tst_ite {e : En} {h : MH} : E.tst C (.ite c a b) e h = (E.tst C c e h).bind fun k h1 => if k = true then E.tst C a e h1 else E.tst C b e h1 := by
  unfold E.tst
  simp only [E.den]
  cases E.den C c e h with
  | ok x h1 =>
    simp only [Res.bind_ok]
    cases ht : truO x h1 with
    | none => rfl
    | some k => cases k <;> rfl
  | exc _ _ => rfl
  | bad => rfl
theorem sndT_not (ha : PT X pa (tT X.K W C a)) : PT X (.UnaryOp .Not pa pos) (tT X.K W C (.not a)) := by
  refine PTi (pt_not ha) fun σ H Q ⟨ρ, e, h, re, rp, po⟩ => ?_
  rw [tst_not] at po
  refine ⟨ρ, e, h, re, rp, (PostG.bind (R := RB) po).imp fun x H1 ⟨ρ1, h1, mx, x1, rp1, qx, po1⟩ => ?_⟩
  subst qx
  exact po1.here rp1 rfl
theorem sndW_and (ha : PT X pa (tT X.K W C a)) (hb : PW X (.BoolOp .And (pb :: rest) pos) (tT X.K W C b)) : PW X (.BoolOp .And (pa :: pb :: rest) pos) (tT X.K W C (.and a b)) := by
  refine ⟨fun whole pins s σ H Q I h => (pw_and ha hb).run whole pins s σ H Q I ?_⟩
  obtain ⟨ρ, e, h, re, rp, po⟩ := h
  rw [tst_and] at po
  refine ⟨ρ, e, h, re, rp, (PostG.bind (R := RB) po).imp fun x H1 ⟨ρ1, h1, mx, x1, rp1, qx, po1⟩ => ?_⟩
  subst qx
  cases mx with
  | true => exact ⟨ρ1, e, h1, re.mono rp x1, rp1, po1⟩
  | false => exact po1.here rp1 rfl
theorem sndW_or (ha : PT X pa (tT X.K W C a)) (hb : PW X (.BoolOp .Or (pb :: rest) pos) (tT X.K W C b)) : PW X (.BoolOp .Or (pa :: pb :: rest) pos) (tT X.K W C (.or a b)) := by
  refine ⟨fun whole pins s σ H Q I h => (pw_or ha hb).run whole pins s σ H Q I ?_⟩
  obtain ⟨ρ, e, h, re, rp, po⟩ := h
  rw [tst_or] at po
  refine ⟨ρ, e, h, re, rp, (PostG.bind (R := RB) po).imp fun x H1 ⟨ρ1, h1, mx, x1, rp1, qx, po1⟩ => ?_⟩
  subst qx
  cases mx with
  | true => exact po1.here rp1 rfl
  | false => exact ⟨ρ1, e, h1, re.mono rp x1, rp1, po1⟩
theorem snd_ite (hc : PT X pc (tT X.K W C c)) (ha : PE X pa (tI X.K W C a)) (hb : PE X pb (tI X.K W C b)) : PE X (.IfExp pc pa pb pos) (tI X.K W C (.ite c a b)) := by
  refine PEi (pe_ifExp hc ha hb) fun σ H Q ⟨ρ, e, h, re, rp, po⟩ => ?_
  have e1 : E.den C (.ite c a b) e h = (E.tst C c e h).bind fun k h1 => if k = true then E.den C a e h1 else E.den C b e h1 := by
    unfold E.tst
    simp only [E.den]
    cases E.den C c e h with
    | ok x h1 => rfl
    | exc _ _ => rfl
    | bad => rfl
  rw [e1] at po
  refine ⟨ρ, e, h, re, rp, (PostG.bind (R := RB) po).imp fun x H1 ⟨ρ1, h1, mx, x1, rp1, qx, po1⟩ => ?_⟩
  subst qx
  cases mx with
  | true => exact ⟨ρ1, e, h1, re.mono rp x1, rp1, po1⟩
  | false => exact ⟨ρ1, e, h1, re.mono rp x1, rp1, po1⟩
/-- any other expression as a test -/
theorem sndT_any (ha : PE X pa (tI X.K W C a)) (he : ∀ whole, isTrue pa X.env whole = (do let v ← whole; standAt pa.pos; holding [v] (truthy v))) : PT X pa (tT X.K W C a) := by
  refine PTi (pt_truth ha he) fun σ H Q ⟨ρ, e, h, re, rp, po⟩ => ?_
  refine ⟨ρ, e, h, re, rp, (PostG.bind (R := RepV X.K) po).imp fun x H1 ⟨ρ1, h1, mx, x1, rp1, qx, po1⟩ => ?_⟩
  obtain ⟨k, ek, po2⟩ := po1.of_oR1
  exact ⟨k, truV_ok rp1 qx ek, po2.here rp1 rfl⟩

/-! ### lists of expressions, displays, subscripts -/
variable {es : List Expr} {as : List E}
theorem snd_nil : PA X [] (tIs X.K W C []) := by
  refine PAi pa_nil fun σ H Q ⟨ρ, e, h, re, rp, po⟩ => ?_
  simp only [Es.den] at po
  exact po.here rp .nil
theorem snd_cons (ha : PE X pa (tI X.K W C a)) (hr : PA X es (tIs X.K W C as)) (hs : starEach (pa :: es) X.env = (false, eval pa X.env) :: starEach es X.env) : PA X (pa :: es) (tIs X.K W C (a :: as)) := by
  refine PAi (pa_cons ha hr hs) fun σ H Q ⟨ρ, e, h, re, rp, po⟩ => ?_
  simp only [Es.den] at po
  refine ⟨ρ, e, h, re, rp, (PostG.bind (R := RepV X.K) po).imp fun x H1 ⟨ρ1, h1, mx, x1, rp1, qx, po1⟩ => ?_⟩
  refine ⟨ρ1, e, h1, re.mono rp x1, rp1, (PostG.bind (R := RepVs X.K) po1).imp fun xs H2 ⟨ρ2, h2, ms, x2, rp2, qs, po2⟩ => ?_⟩
  exact po2.here rp2 (.cons (qx.mono rp1 x2) qs)
theorem snd_tup {k : Nat} (h : PA X es (tIs X.K W C as)) : PE X (.Tuple es k pos) (tI X.K W C (.tup as)) := by
  refine PEi (pe_tup h) fun σ H Q ⟨ρ, e, h, re, rp, po⟩ => ?_
  simp only [E.den] at po
  refine ⟨ρ, e, h, re, rp, (PostG.bind (R := RepVs X.K) po).imp fun xs H1 ⟨ρ1, h1, ms, x1, rp1, qs, po1⟩ => ?_⟩
  split at po1
  · rename_i hz
    exact ⟨by rw [qs.length]; exact hz, rp1.newT qs po1⟩
  · exact po1.elim
theorem snd_lst (h : PA X es (tIs X.K W C as)) : PE X (.List es pos) (tI X.K W C (.lst as)) := by
  refine PEi (pe_lst h) fun σ H Q ⟨ρ, e, h, re, rp, po⟩ => ?_
  simp only [E.den] at po
  refine ⟨ρ, e, h, re, rp, (PostG.bind (R := RepVs X.K) po).imp fun xs H1 ⟨ρ1, h1, ms, x1, rp1, qs, po1⟩ => ?_⟩
  split at po1
  · rename_i hz
    exact ⟨by rw [qs.length]; exact hz, rp1.newL qs po1⟩
  · exact po1.elim
theorem snd_ix (hs : PlainIx pb) (ha : PE X pa (tI X.K W C a)) (hb : PE X pb (tI X.K W C b)) : PE X (.Subscript pa pb pos) (tI X.K W C (.ix a b)) := by
  refine PEi (pe_ix ix_M ha hb hs) fun σ H Q ⟨ρ, e, h, re, rp, po⟩ => ?_
  simp only [E.den] at po
  refine ⟨ρ, e, h, re, rp, (PostG.bind (R := RepV X.K) po).imp fun x H1 ⟨ρ1, h1, mx, x1, rp1, qx, po1⟩ => ?_⟩
  refine ⟨ρ1, e, h1, re.mono rp x1, rp1, (PostG.bind (R := RepV X.K) po1).imp fun y H2 ⟨ρ2, h2, my, x2, rp2, qy, po2⟩ => ?_⟩
  obtain ⟨v, ev, po3⟩ := po2.of_oR1
  exact ⟨ρ2, h2, mx, my, v, rp2, qx.mono rp1 x2, qy, ev, fun w qw => po3.here rp2 qw⟩
/-- a part of a slice -/
def tO (K : PySem.W.Frag) (W : WX) (C : Cl) (a : Option E) : TO := fun σ H Q => ∃ ρ e h, REnv K ρ H e σ ∧ Rep K ρ h H ∧ PostG (fun _ _ m o => m = o) K W σ ρ H (Eo.den C a e h) Q
theorem snd_none : PO X none (tO X.K W C none) := by
  refine ⟨fun pins s σ H Q I ⟨ρ, e, h, re, rp, po⟩ => po_none.run pins s σ H Q I ?_⟩
  simp only [Eo.den] at po
  exact po.here rp rfl
theorem snd_some (ha : PE X pa (tI X.K W C a)) : PO X (some pa) (tO X.K W C (some a)) := by
  refine ⟨fun pins s σ H Q I ⟨ρ, e, h, re, rp, po⟩ => (po_some ha).run pins s σ H Q I ?_⟩
  simp only [Eo.den] at po
  refine ⟨ρ, e, h, re, rp, (PostG.bind (R := RepV X.K) po).imp fun x H1 ⟨ρ1, h1, mx, x1, rp1, qx, po1⟩ => ?_⟩
  split at po1
  · exact ⟨_, repInt qx, po1.here rp1 rfl⟩
  · exact po1.elim
theorem snd_sl {lo hi : Option Expr} {l u : Option E} {p2 : Pos} (ha : PE X pa (tI X.K W C a)) (hl : PO X lo (tO X.K W C l)) (hu : PO X hi (tO X.K W C u)) : PE X (.Subscript pa (.Slice lo hi none p2) pos) (tI X.K W C (.sl a l u)) := by
  refine PEi (pe_slice sl_M ha hl hu) fun σ H Q ⟨ρ, e, h, re, rp, po⟩ => ?_
  simp only [E.den] at po
  refine ⟨ρ, e, h, re, rp, (PostG.bind (R := RepV X.K) po).imp fun x H1 ⟨ρ1, h1, mx, x1, rp1, qx, po1⟩ => ?_⟩
  refine ⟨ρ1, e, h1, re.mono rp x1, rp1, (PostG.bind (R := fun _ _ m o => m = o) po1).imp fun y H2 ⟨ρ2, h2, my, x2, rp2, qy, po2⟩ => ?_⟩
  refine ⟨ρ2, e, h2, (re.mono rp x1).mono rp1 x2, rp2, (PostG.bind (R := fun _ _ m o => m = o) po2).imp fun z H3 ⟨ρ3, h3, mz, x3, rp3, qz, po3⟩ => ?_⟩
  subst qy
  subst qz
  obtain ⟨m, h', e3, q⟩ := po3.of_oP
  exact ⟨ρ3, h3, mx, m, h', rp3, (qx.mono rp1 x2).mono rp2 x3, e3, q⟩

/-! ### calls -/
theorem snd_call {k i : Nat} {f : Addr} {fd : FuncData} {ps : List Str} {x : Str} {p : Pos} (F : FnOk X.prog X.w X.K X.mg X.base (L2.CX X.prog X.w) k f fd ps (spI X.K C i)) (hr : Room k X.A) (hg : Gl X x) (hm : X.mg x = some (.ref f))
    (hk : PySem.W.keepIn X.K (.ref f) = true) (hb : Binds X.K fd ps []) (tk : Takes X W) (ha : PA X (pa :: es) (tIs X.K W C as)) (hdb : (x == ("__debug__" : Str)) = false) (he : starEach (pa :: es) X.env = (false, eval pa X.env) :: starEach es X.env)
    (hpl : (backTo pos (starEach es X.env)).any (·.1) = false) : PE X (.Call (.Name x p) (pa :: es) [] pos) (tI X.K W C (.call i as)) := by
  refine PEi (pe_callS F hr hg hm hk hb (passAt tk) ha hdb he hpl) fun σ H Q ⟨ρ, e, h, re, rp, po⟩ => ?_
  simp only [E.den] at po
  refine ⟨ρ, e, h, re, rp, (PostG.bind (R := RepVs X.K) po).imp fun xs H1 ⟨ρ1, h1, ms, x1, rp1, qs, po1⟩ => ?_⟩
  exact ⟨ρ1, h1, ms, rp1, qs, po1⟩
theorem snd_call0 {k i : Nat} {f : Addr} {fd : FuncData} {ps : List Str} {x : Str} {p : Pos} (F : FnOk X.prog X.w X.K X.mg X.base (L2.CX X.prog X.w) k f fd ps (spI X.K C i)) (hr : Room k X.A) (hg : Gl X x) (hm : X.mg x = some (.ref f))
    (hk : PySem.W.keepIn X.K (.ref f) = true) (hb : Binds X.K fd ps []) (tk : Takes X W) (hdb : (x == ("__debug__" : Str)) = false) : PE X (.Call (.Name x p) [] [] pos) (tI X.K W C (.call i [])) := by
  refine ⟨fun pins s σ H Q I ⟨ρ, e, h, re, rp, po⟩ => ?_⟩
  simp only [E.den, Es.den, Res.bind_ok] at po
  refine wpAny_Call_Name_kw (ld_glob I hg hm ?_ hdb)
  exact PySem.W.callWith_K0 I.kIn hk (run_fnS (us := []) F hr hb (passAt tk σ) I .nil ⟨ρ, h, [], rp, .nil, po⟩)
/-- a built-in function -/
theorem snd_bi {b : Bi} {id : String} {x : Str} {p : Pos} (hc : CallR X (.builtin id) (rsM X.K (biO b))) (hg : Gl X x) (hm : X.mg x = none) (hv : bootBuiltins x = some (.builtin id)) (ha : PA X (pa :: es) (tIs X.K W C as)) (hn : x ≠ "__name__") (hdb : (x == ("__debug__" : Str)) = false)
    (he : starEach (pa :: es) X.env = (false, eval pa X.env) :: starEach es X.env) (hpl : (backTo pos (starEach es X.env)).any (·.1) = false) : PE X (.Call (.Name x p) (pa :: es) [] pos) (tI X.K W C (.bi b as)) := by
  refine PEi (pe_callB hc hg hm hv ha hn hdb he hpl) fun σ H Q ⟨ρ, e, h, re, rp, po⟩ => ?_
  simp only [E.den] at po
  refine ⟨ρ, e, h, re, rp, (PostG.bind (R := RepVs X.K) po).imp fun xs H1 ⟨ρ1, h1, ms, x1, rp1, qs, po1⟩ => ?_⟩
  obtain ⟨m, h', e3, q⟩ := po1.of_oP
  exact ⟨ρ1, h1, ms, m, h', rp1, qs, e3, q⟩
/-- a built-in type -/
theorem snd_ty {b : Bi} {T : String} {x : Str} {p : Pos} (hc : CallR X (.type T) (rsM X.K (biO b))) (hg : Gl X x) (hm : X.mg x = none) (hv : bootBuiltins x = some (.type T)) (ha : PA X (pa :: es) (tIs X.K W C as)) (hn : x ≠ "__name__") (hdb : (x == ("__debug__" : Str)) = false)
    (he : starEach (pa :: es) X.env = (false, eval pa X.env) :: starEach es X.env) (hpl : (backTo pos (starEach es X.env)).any (·.1) = false) : PE X (.Call (.Name x p) (pa :: es) [] pos) (tI X.K W C (.bi b as)) := by
  refine PEi (pe_callTy hc hg hm hv ha hn hdb he hpl) fun σ H Q ⟨ρ, e, h, re, rp, po⟩ => ?_
  simp only [E.den] at po
  refine ⟨ρ, e, h, re, rp, (PostG.bind (R := RepVs X.K) po).imp fun xs H1 ⟨ρ1, h1, ms, x1, rp1, qs, po1⟩ => ?_⟩
  obtain ⟨m, h', e3, q⟩ := po1.of_oP
  exact ⟨ρ1, h1, ms, m, h', rp1, qs, e3, q⟩
theorem snd_isTy {b : Bi} {n : String} {x : Str} {p : Pos} (hb : CallR X (.builtin "isinstance") (fun vs H Q => ∃ x, vs = [x, .ty n] ∧ rsM X.K (biO b) [x] H Q)) (hg : Gl X x) (hm : X.mg x = none) (hv : bootBuiltins x = some (.builtin "isinstance")) (ha : PE X pa (tI X.K W C a)) (ht : PE X pb (tC (.ty n))) (hn : x ≠ "__name__") (hdb : (x == ("__debug__" : Str)) = false)
    (hs : starEach [pa, pb] X.env = [(false, eval pa X.env), (false, eval pb X.env)]) (hs1 : starEach [pb] X.env = [(false, eval pb X.env)]) : PE X (.Call (.Name x p) [pa, pb] [] pos) (tI X.K W C (.bi b [a])) := by
  have hA : PA X [pa, pb] (tCons (tI X.K W C a) (tCons (tC (.ty n)) tNil)) := pa_cons ha (pa_cons ht pa_nil (by rw [hs1]; rfl)) (by rw [hs, hs1])
  refine PEi (pe_callB hb hg hm hv hA hn hdb (by rw [hs, hs1]) (by rw [hs1]; rfl)) fun σ H Q ⟨ρ, e, h, re, rp, po⟩ => ?_
  simp only [E.den, Es.den] at po
  refine ⟨ρ, e, h, re, rp, ?_⟩
  cases hd : E.den C a e h with
  | ok v h1 =>
    rw [hd] at po
    simp only [Res.bind_ok] at po
    intro ρ' H' w xe rp1 qx
    refine ⟨w, rfl, ?_⟩
    obtain ⟨m, h', e3, q⟩ := (PostG.ext po xe).of_oP
    exact ⟨ρ', h1, [v], m, h', rp1, .one qx, e3, q⟩
  | exc y h1 =>
    rw [hd] at po
    exact po
  | bad =>
    rw [hd] at po
    exact po
/-- a method of a list -/
theorem recv_ok {K : PySem.W.Frag} {ρ : List Addr} {h : MH} {H : Hp} {m : Mt} {x : MV} {w : V} (rp : Rep K ρ h H) (q : RepV K ρ H x w) (e : recvO m x h = true) : tyV K "list" w H := by
  unfold recvO at e
  split at e
  · split at e
    · rename_i l xs hx
      obtain ⟨b, vs, rfl, s1, _⟩ := rp.lists (xs := xs) q (by unfold listO; simp only [hx])
      exact .inl ⟨rfl, vs, s1⟩
    · cases e
  · cases e
theorem snd_mt0 {m : Mt} {o : Expr} {name : Str} {apos : Pos} {id : String} (slot : Slot "list" name id) (hty : typeOf (.builtin id) = pure (.type "method_descriptor")) (hm : MtR X id (rmM X.K (mtO m))) (ho : PE X o (tI X.K W C a))
    (hbase : attributeBase o name X.env (eval o X.env) = eval o X.env) (hline : (apos.endLine == pos.line) = true) : PE X (.Call (.Attribute o name apos) [] [] pos) (tI X.K W C (.mt m a [])) := by
  refine PEi (pe_bm0 PySem.F.plainAttrs_list slot hty hm ho hbase hline) fun σ H Q ⟨ρ, e, h, re, rp, po⟩ => ?_
  simp only [E.den, Es.den] at po
  refine ⟨ρ, e, h, re, rp, (PostG.bind (R := RepV X.K) po).imp fun x H1 ⟨ρ1, h1, mx, x1, rp1, qx, po1⟩ => ?_⟩
  split at po1
  · rename_i hr
    simp only [Res.bind_ok] at po1
    obtain ⟨v, h', e3, q⟩ := po1.of_oP
    exact ⟨recv_ok rp1 qx hr, ρ1, h1, mx, [], v, h', rp1, qx, .nil, e3, q⟩
  · exact po1.elim
theorem snd_mt1 {m : Mt} {o : Expr} {name : Str} {apos : Pos} {id : String} {b : E} (slot : Slot "list" name id) (hty : typeOf (.builtin id) = pure (.type "method_descriptor")) (hm : MtR X id (rmM X.K (mtO m))) (ho : PE X o (tI X.K W C a))
    (hbase : attributeBase o name X.env (eval o X.env) = eval o X.env) (hline : (apos.endLine == pos.line) = true) (hb : PE X pb (tI X.K W C b)) (hs : starEach [pb] X.env = [(false, eval pb X.env)]) : PE X (.Call (.Attribute o name apos) [pb] [] pos) (tI X.K W C (.mt m a [b])) := by
  have hA : PA X [pb] (tIs X.K W C [b]) := snd_cons hb snd_nil (by rw [hs]; rfl)
  refine PEi (pe_bm PySem.F.plainAttrs_list slot hty hm ho hA hbase (by rw [hs]; rfl) hline (by rw [hs]; rfl) rfl) fun σ H Q ⟨ρ, e, h, re, rp, po⟩ => ?_
  simp only [E.den] at po
  refine ⟨ρ, e, h, re, rp, (PostG.bind (R := RepV X.K) po).imp fun x H1 ⟨ρ1, h1, mx, x1, rp1, qx, po1⟩ => ?_⟩
  split at po1
  · rename_i hr
    refine ⟨recv_ok rp1 qx hr, ρ1, e, h1, re.mono rp x1, rp1, (PostG.bind (R := RepVs X.K) po1).imp fun xs H2 ⟨ρ2, h2, ms, x2, rp2, qs, po2⟩ => ?_⟩
    obtain ⟨v, h', e3, q⟩ := po2.of_oP
    exact ⟨ρ2, h2, mx, ms, v, h', rp2, qx.mono rp1 x2, qs, e3, q⟩
  · exact po1.elim
end
end MP
end
section
set_option Elab.async false
set_option linter.all false
set_option maxRecDepth 100000
set_option maxHeartbeats 4000000
/-! MP, part f: what loops walk, targets, comprehensions, statements. -/
namespace MP
open PySem PySem.Spec PyProof.Rows L2

/-! ### what is walked -/
def ItOk (K : PySem.W.Frag) (ρ0 : List Addr) (H0 : Hp) (src : Src) (J : It) : Prop := ∀ (ρ : List Addr) (h : MH) (H : Hp) (i : Nat), Kp ρ0 H0 ρ H → Rep K ρ h H →
  (src i h = some none → J.stop i H) ∧ ∀ v, src i h = some (some v) → J.go i H ∧ ∀ x H', J.yld i H x H' → Ext ρ H ρ H' ∧ Rep K ρ h H' ∧ RepV K ρ H' v x
theorem ItOk.kp {K : PySem.W.Frag} {ρ0 ρ1 : List Addr} {H0 H1 : Hp} {src : Src} {J : It} (x : Kp ρ0 H0 ρ1 H1) (q : ItOk K ρ0 H0 src J) : ItOk K ρ1 H1 src J := fun ρ h H i y r =>
  q ρ h H i ⟨by obtain ⟨t, rfl⟩ := x.pre; obtain ⟨u, rfl⟩ := y.pre; exact ⟨t ++ u, by rw [List.append_assoc]⟩, fun a xs e => y.kt a xs (x.kt a xs e), fun a o u e => y.kf a o u (x.kf a o u e)⟩ r
def tIt (K : PySem.W.Frag) (W : WX) (C : Cl) (k : IK) (as : List E) : TI := fun σ H R => ∃ ρ e h, REnv K ρ H e σ ∧ Rep K ρ h H ∧ (match Es.den C as e h with
  | .ok vs h1 => ∃ src, srcO k vs h1 = some src ∧ ∀ ρ1 H1 J, Ext ρ H ρ1 H1 → Rep K ρ1 h1 H1 → ItOk K ρ1 H1 src J → R J H1
  | .exc x h1 => ∀ ρ' H' cls d, Ext ρ H ρ' H' → Rep K ρ' h1 H' → RepX K ρ' H' x cls d → W cls d σ H'
  | .bad => False)
section
variable {K : PySem.W.Frag} {ρ : List Addr} {h : MH} {H : Hp}
theorem it_tup {xs : List MV} {vs : List V} {a : Addr} (s : SqT K H a vs) (z : RepVs K ρ H xs vs) (uniq : ∀ {ρ1 h1 H1} ws, Kp ρ H ρ1 H1 → Rep K ρ1 h1 H1 → SqT K H1 a ws → True) : ItOk K ρ H (fun i _ => some xs[i]?) (Itt K a) := by
  intro ρ1 h1 H1 i x r
  refine ⟨fun e => ⟨vs, x.sqT s, ?_⟩, fun v e => ?_⟩
  · have e : xs[i]? = none := Option.some.inj e
    rw [z.length]
    exact List.getElem?_eq_none_iff.mp e
  · have e : xs[i]? = some v := Option.some.inj e
    obtain ⟨w, ew, qw⟩ := z.get e
    refine ⟨⟨vs, w, x.sqT s, ew⟩, fun y H' ⟨e1, f⟩ => ?_⟩
    subst e1
    have := f vs (x.sqT s)
    rw [ew] at this
    cases this
    exact ⟨.refl, r, qw.keep x⟩
theorem it_rol {xs : List MV} {vs : List V} {a : Addr} (s : SqC K H a vs) (z : RepVs K ρ H xs vs) : ItOk K ρ H (fun i _ => some xs[i]?) (Itl K a) := by
  intro ρ1 h1 H1 i x r
  refine ⟨fun e => ⟨vs, (x.sqC s).sq, ?_⟩, fun v e => ?_⟩
  · have e : xs[i]? = none := Option.some.inj e
    rw [z.length]
    exact List.getElem?_eq_none_iff.mp e
  · have e : xs[i]? = some v := Option.some.inj e
    obtain ⟨w, ew, qw⟩ := z.get e
    refine ⟨⟨vs, w, (x.sqC s).sq, ew⟩, fun y H' ⟨e1, f⟩ => ?_⟩
    subst e1
    have := f vs (x.sqC s).sq
    rw [ew] at this
    cases this
    exact ⟨.refl, r, qw.keep x⟩
def srcL (l : Nat) : Src := fun i h => match h[l]? with
  | some (.lst xs) => some xs[i]?
  | _ => none
theorem it_loc {l : Nat} {a : Addr} (ea : ρ[l]? = some a) : ItOk K ρ H (srcL l) (Itl K a) := by
  intro ρ1 h1 H1 i x r
  unfold srcL
  refine ⟨fun e => ?_, fun v e => ?_⟩
  · split at e
    · rename_i xs hx
      have e : xs[i]? = none := Option.some.inj e
      obtain ⟨b, vs, e1, e2, z⟩ := r.lst hx
      rw [x.at ea] at e1
      cases e1
      exact ⟨vs, .inl (.inl e2), by rw [z.length]; exact List.getElem?_eq_none_iff.mp e⟩
    · cases e
  · split at e
    · rename_i xs hx
      have e : xs[i]? = some v := Option.some.inj e
      obtain ⟨b, vs, e1, e2, z⟩ := r.lst hx
      rw [x.at ea] at e1
      cases e1
      obtain ⟨w, ew, qw⟩ := z.get e
      refine ⟨⟨vs, w, .inl (.inl e2), ew⟩, fun y H' ⟨e1, f⟩ => ?_⟩
      subst e1
      have := f vs (.inl (.inl e2))
      rw [ew] at this
      cases this
      exact ⟨.refl, r, qw⟩
    · cases e
theorem it_rng {lo : Int} {n : Nat} : ItOk K ρ H (fun i _ => some (if i < n then some (.int (lo + i)) else none)) (Itr lo n) := by
  intro ρ1 h1 H1 i x r
  refine ⟨fun e => ?_, fun v e => ?_⟩
  · have e : some (if i < n then some (MV.int (lo + i)) else none) = some none := e
    by_cases hi : i < n
    · rw [if_pos hi] at e; cases e
    · exact Nat.le_of_not_lt hi
  · have e : some (if i < n then some (MV.int (lo + i)) else none) = some (some v) := e
    by_cases hi : i < n
    · rw [if_pos hi] at e
      cases e
      refine ⟨hi, fun y H' ⟨e1, f⟩ => ?_⟩
      subst e1
      subst f
      exact ⟨.refl, r, intRep⟩
    · rw [if_neg hi] at e; cases e
end
theorem rngOk_iff {i : Int} (h : rngOk i = true) : -(2 ^ 62) ≤ i ∧ i < 2 ^ 62 := by
  unfold rngOk at h
  simp only [Bool.and_eq_true, decide_eq_true_eq] at h
  exact h
section
variable {X : Cx} {W : WX} {C : Cl} {tg pa pb : Expr} {a b : E} {pos : Pos}
theorem PIi {iter : Expr} {t t' : TI} (h : PI X tg iter t) (f : ∀ σ H R, t' σ H R → t σ H R) : PI X tg iter t' := ⟨fun pins s σ H R I q => h.run pins s σ H R I (f σ H R q)⟩
theorem snd_itV (ha : PE X pa (tI X.K W C a)) : PI X tg pa (tIt X.K W C .val [a]) := by
  refine ⟨fun pins s σ H R I ⟨ρ, e, h, re, rp, po⟩ => ?_⟩
  simp only [Es.den] at po
  cases hd : E.den C a e h with
  | bad =>
    rw [hd] at po
    exact False.elim po
  | exc y h1 =>
    rw [hd] at po
    refine (pi_list (tg := tg) ha).run pins s σ H R I ⟨ρ, e, h, re, rp, ?_⟩
    rw [hd]
    exact po
  | ok v h1 =>
    rw [hd] at po
    simp only [Res.bind_ok] at po
    obtain ⟨src, es, po⟩ := po
    cases v with
    | tup xs =>
      cases es
      refine (pi_tup (tg := tg) ha).run pins s σ H R I ⟨ρ, e, h, re, rp, ?_⟩
      rw [hd]
      intro ρ1 H1 w x1 rp1 qx
      unfold RepV at qx
      obtain ⟨ad, vs, rfl, s1, z⟩ := qx
      exact ⟨ad, rfl, ⟨vs, s1⟩, po ρ1 H1 _ x1 rp1 (it_tup s1 z fun _ _ _ _ => trivial)⟩
    | rol xs =>
      cases es
      refine (pi_list (tg := tg) ha).run pins s σ H R I ⟨ρ, e, h, re, rp, ?_⟩
      rw [hd]
      intro ρ1 H1 w x1 rp1 qx
      unfold RepV at qx
      obtain ⟨ad, vs, rfl, s1, z⟩ := qx
      exact ⟨ad, rfl, ⟨vs, s1.sq⟩, po ρ1 H1 _ x1 rp1 (it_rol s1 z)⟩
    | loc l =>
      unfold srcO at es
      simp only at es
      split at es
      · rename_i ys hy
        cases es
        refine (pi_list (tg := tg) ha).run pins s σ H R I ⟨ρ, e, h, re, rp, ?_⟩
        rw [hd]
        intro ρ1 H1 w x1 rp1 qx
        obtain ⟨ad, e1, rfl⟩ := repLoc qx
        obtain ⟨bd, vs, e2, e3, z⟩ := rp1.lst hy
        rw [e1] at e2
        cases e2
        exact ⟨ad, rfl, ⟨vs, .inl (.inl e3)⟩, po ρ1 H1 _ x1 rp1 (it_loc e1)⟩
      · cases es
    | _ => cases es
theorem srcO_rng1 {h : MH} {src : Src} {vs : List MV} (e : srcO .rng1 vs h = some src) : ∃ j : Int, vs = [.int j] ∧ rngOk j = true ∧ src = fun i _ => some (if i < j.toNat then some (.int (0 + i)) else none) := by
  unfold srcO at e
  split at e
  · rename_i hk; cases hk
  · rename_i hk; cases hk
  · rename_i hk; cases hk
  · split at e
    · cases e
      exact ⟨_, rfl, by assumption, rfl⟩
    · cases e
  · rename_i hk; cases hk
  · cases e
theorem srcO_rng2 {h : MH} {src : Src} {vs : List MV} (e : srcO .rng2 vs h = some src) : ∃ a b : Int, vs = [.int a, .int b] ∧ (rngOk a && rngOk b) = true ∧ src = fun i _ => some (if i < (b - a).toNat then some (.int (a + i)) else none) := by
  unfold srcO at e
  split at e
  · rename_i hk; cases hk
  · rename_i hk; cases hk
  · rename_i hk; cases hk
  · rename_i hk; cases hk
  · split at e
    · cases e
      exact ⟨_, _, rfl, by assumption, rfl⟩
    · cases e
  · cases e
theorem snd_rng1 {p : Pos} (hg : Gl X "range") (hm : X.mg "range" = none) (ha : PE X pa (tI X.K W C a)) (hs : starEach [pa] X.env = [(false, eval pa X.env)]) : PI X tg (.Call (.Name "range" p) [pa] [] pos) (tIt X.K W C .rng1 [a]) := by
  have hA : PA X [pa] (tIs X.K W C [a]) := snd_cons ha snd_nil (by rw [hs]; rfl)
  refine PIi (pi_range1 hg hm hA hs) fun σ H R ⟨ρ, e, h, re, rp, po⟩ => ?_
  refine ⟨ρ, e, h, re, rp, ?_⟩
  cases hd : Es.den C [a] e h with
  | bad => rw [hd] at po; exact po
  | exc y h1 => rw [hd] at po; exact po
  | ok vs h1 =>
    rw [hd] at po
    obtain ⟨src, es, po⟩ := po
    intro ρ1 H1 ws x1 rp1 qs
    obtain ⟨j, rfl, hz, rfl⟩ := srcO_rng1 es
    obtain ⟨v, rfl, q⟩ := qs.of1
    obtain ⟨z1, z2⟩ := rngOk_iff hz
    exact ⟨j, by rw [repInt q], z1, z2, po ρ1 H1 _ x1 rp1 it_rng⟩
theorem snd_rng2 {p : Pos} (hg : Gl X "range") (hm : X.mg "range" = none) (ha : PE X pa (tI X.K W C a)) (hb : PE X pb (tI X.K W C b)) (hs : starEach [pa, pb] X.env = [(false, eval pa X.env), (false, eval pb X.env)]) (hs1 : starEach [pb] X.env = [(false, eval pb X.env)]) :
    PI X tg (.Call (.Name "range" p) [pa, pb] [] pos) (tIt X.K W C .rng2 [a, b]) := by
  have hA : PA X [pa, pb] (tIs X.K W C [a, b]) := snd_cons ha (snd_cons hb snd_nil (by rw [hs1]; rfl)) (by rw [hs, hs1])
  refine PIi (pi_range2 hg hm hA hs hs1) fun σ H R ⟨ρ, e, h, re, rp, po⟩ => ?_
  refine ⟨ρ, e, h, re, rp, ?_⟩
  cases hd : Es.den C [a, b] e h with
  | bad => rw [hd] at po; exact po
  | exc y h1 => rw [hd] at po; exact po
  | ok vs h1 =>
    rw [hd] at po
    obtain ⟨src, es, po⟩ := po
    intro ρ1 H1 ws x1 rp1 qs
    obtain ⟨i, j, rfl, hz, rfl⟩ := srcO_rng2 es
    obtain ⟨v, w, rfl, q, q'⟩ := qs.of2
    rw [Bool.and_eq_true] at hz
    obtain ⟨z1, z2⟩ := rngOk_iff hz.1
    obtain ⟨z3, z4⟩ := rngOk_iff hz.2
    exact ⟨i, j, by rw [repInt q, repInt q'], ⟨z1, z2, z3, z4⟩, po ρ1 H1 _ x1 rp1 it_rng⟩

/-! ### targets -/
def tTg (K : PySem.W.Frag) (t : Tg) : TG := fun v σ H Q => ∃ ρ e h m e', REnv K ρ H e σ ∧ Rep K ρ h H ∧ RepV K ρ H m v ∧ t.set m e = some e' ∧ ∀ σ', REnv K ρ H e' σ' → Q σ' H
def gSets : List Nat → TGs
  | [] => gNil
  | i :: is => gCons (gName i) (gSets is)
theorem gSets_ok {K : PySem.W.Frag} {ρ : List Addr} {H : Hp} : ∀ {is : List Nat} {ms : List MV} {vs : List V} {e e' : En} {σ : L2.St} {Q : L2.St → Hp → Prop}, tgSets is ms e = some e' → RepVs K ρ H ms vs → REnv K ρ H e σ → (∀ σ', REnv K ρ H e' σ' → Q σ' H) → gSets is vs σ H Q
  | [], [], _, _, _, _, _, h, q, r, f => by
    cases h
    unfold RepVs at q
    exact ⟨q, f _ r⟩
  | [], _ :: _, _, _, _, _, _, h, _, _, _ => by cases h
  | _ :: _, [], _, _, _, _, _, h, _, _, _ => by cases h
  | i :: is, m :: ms, _, e, e', σ, Q, h, q, r, f => by
    unfold RepVs at q
    obtain ⟨w, ws, rfl, a, b⟩ := q
    exact ⟨w, ws, rfl, gSets_ok (is := is) h b (r.set i a) f⟩
theorem tgSets_length : ∀ {is : List Nat} {ms : List MV} {e e' : En}, tgSets is ms e = some e' → ms.length = is.length
  | [], [], _, _, _ => rfl
  | [], _ :: _, _, _, h => by cases h
  | _ :: _, [], _, _, h => by cases h
  | i :: is, m :: ms, e, e', h => by
    show ms.length + 1 = is.length + 1
    rw [tgSets_length (is := is) h]
theorem snd_nm {i : Nat} {x : Str} (hN : X.N.Nodup) (hi : X.N[i]? = some x) (hx : Loc X.env.scope x) (hf : X.fn x = true ∨ X.env.scope.names.lookup x = some .local) : PG X (.Name x pos) (tTg X.K (.nm i)) := by
  refine ⟨fun pins s σ H v u Q I r ⟨ρ, e, h, m, e', re, rp, q, es, f⟩ => (pg_name hN hi hx hf).run pins s σ H v u Q I r ?_⟩
  cases es
  exact f _ (re.set i q)
theorem snd_tp {es : List Expr} {k : Nat} {is : List Nat} (hc : X.calm = true) (h : PGs X es (gSets is)) (hn : (assignEach es X.env).length = is.length) (hst : (assignEach es X.env).findIdx? (·.1) = none) : PG X (.Tuple es k pos) (tTg X.K (.tp is)) := by
  refine ⟨fun pins s σ H v u Q I r ⟨ρ, e, hh, m, e', re, rp, q, es, f⟩ => (pg_tup hc h hn hst).run pins s σ H v u Q I r ?_⟩
  unfold Tg.set at es
  simp only at es
  split at es
  · rename_i xs
    unfold RepV at q
    obtain ⟨a, vs, rfl, s1, z⟩ := q
    refine ⟨a, vs, rfl, s1, by rw [z.length]; exact tgSets_length es, gSets_ok es z re f⟩
  · cases es

/-! ### comprehensions -/
theorem renv_wipe {K : PySem.W.Frag} {ρ : List Addr} {H : Hp} {e : En} {σ : L2.St} (q : REnv K ρ H e σ) : ∀ ws : List Nat, REnv K ρ H (wipeM e ws) (wipe σ ws)
  | [] => q
  | v :: vs => by
    have ih := renv_wipe q vs
    refine ⟨by unfold wipeM wipe; rw [List.length_set, List.length_set]; exact ih.1, fun i m ei => ?_⟩
    unfold wipeM at ei
    by_cases hi : v = i
    · subst hi
      by_cases hv : v < (wipeM e vs).length
      · rw [List.getElem?_set_self hv] at ei; cases ei
      · rw [List.getElem?_eq_none (by rw [List.length_set]; omega)] at ei; cases ei
    · rw [List.getElem?_set_ne hi] at ei
      obtain ⟨w, a, b⟩ := ih.2 i m ei
      exact ⟨w, by unfold wipe; rw [List.getElem?_set_ne hi]; exact a, b⟩
/-- the target's slots are the block's own -/
def Tg.slots : Tg → List Nat
  | .nm i => [i]
  | .tp is => is
theorem wipe_set {σ : L2.St} {v : Option V} {i : Nat} : ∀ {ws : List Nat}, i ∈ ws → wipe (σ.set i v) ws = wipe σ ws
  | w :: ws, h => by
    unfold wipe
    by_cases hi : i ∈ ws
    · rw [wipe_set hi]
    · have : w = i := by
        rcases List.mem_cons.mp h with rfl | h
        · rfl
        · exact absurd h hi
      subst this
      rw [wipe_comm hi, List.set_set]
where wipe_comm {σ : L2.St} {v : Option V} {i : Nat} : ∀ {ws : List Nat}, i ∉ ws → wipe (σ.set i v) ws = (wipe σ ws).set i v
  | [], _ => rfl
  | w :: ws, h => by
    unfold wipe
    rw [wipe_comm fun z => h (List.mem_cons_of_mem _ z), List.set_comm _ _ fun z => h (by rw [z]; exact List.mem_cons_self)]
theorem wipe_sub {σ : L2.St} {ws : List Nat} : ∀ {vs : List Nat}, (∀ v ∈ vs, v ∈ ws) → wipe (wipe σ vs) ws = wipe σ ws
  | [], _ => rfl
  | v :: vs, h => (wipe_set (h v List.mem_cons_self)).trans (wipe_sub fun u hu => h u (List.mem_cons_of_mem _ hu))
/-- a target's reading that also tells the wiped slots -/
def tTgW (K : PySem.W.Frag) (t : Tg) (ws : List Nat) : TG := fun v σ H Q => ∃ ρ e h m e', REnv K ρ H e σ ∧ Rep K ρ h H ∧ RepV K ρ H m v ∧ t.set m e = some e' ∧ ∀ σ', REnv K ρ H e' σ' → wipe σ' ws = wipe σ ws → Q σ' H
theorem gSetsW_ok {K : PySem.W.Frag} {ρ : List Addr} {H : Hp} {ws : List Nat} {σ0 : L2.St} : ∀ {is : List Nat} {ms : List MV} {vs : List V} {e e' : En} {σ : L2.St} {Q : L2.St → Hp → Prop}, (∀ i ∈ is, i ∈ ws) → tgSets is ms e = some e' → RepVs K ρ H ms vs → REnv K ρ H e σ →
    wipe σ ws = wipe σ0 ws → (∀ σ', REnv K ρ H e' σ' → wipe σ' ws = wipe σ0 ws → Q σ' H) → gSets is vs σ H Q
  | [], [], _, _, _, _, _, _, h, q, r, w, f => by
    cases h
    unfold RepVs at q
    exact ⟨q, f _ r w⟩
  | [], _ :: _, _, _, _, _, _, _, h, _, _, _, _ => by cases h
  | _ :: _, [], _, _, _, _, _, _, h, _, _, _, _ => by cases h
  | i :: is, m :: ms, _, e, e', σ, Q, hw, h, q, r, w, f => by
    unfold RepVs at q
    obtain ⟨y, ys, rfl, a, b⟩ := q
    exact ⟨y, ys, rfl, gSetsW_ok (is := is) (fun j hj => hw j (List.mem_cons_of_mem _ hj)) h b (r.set i a) ((wipe_set (hw i List.mem_cons_self)).trans w) f⟩
theorem snd_nmW {i : Nat} {x : Str} {ws : List Nat} (hw : i ∈ ws) (hN : X.N.Nodup) (hi : X.N[i]? = some x) (hx : Loc X.env.scope x) (hf : X.fn x = true ∨ X.env.scope.names.lookup x = some .local) : PG X (.Name x pos) (tTgW X.K (.nm i) ws) := by
  refine ⟨fun pins s σ H v u Q I r ⟨ρ, e, h, m, e', re, rp, q, es, f⟩ => (pg_name hN hi hx hf).run pins s σ H v u Q I r ?_⟩
  cases es
  exact f _ (re.set i q) (wipe_set hw)
theorem snd_tpW {es : List Expr} {k : Nat} {is ws : List Nat} (hw : ∀ i ∈ is, i ∈ ws) (hc : X.calm = true) (h : PGs X es (gSets is)) (hn : (assignEach es X.env).length = is.length) (hst : (assignEach es X.env).findIdx? (·.1) = none) : PG X (.Tuple es k pos) (tTgW X.K (.tp is) ws) := by
  refine ⟨fun pins s σ H v u Q I r ⟨ρ, e, hh, m, e', re, rp, q, es, f⟩ => (pg_tup hc h hn hst).run pins s σ H v u Q I r ?_⟩
  unfold Tg.set at es
  simp only at es
  split at es
  · rename_i xs
    unfold RepV at q
    obtain ⟨a, vs, rfl, s1, z⟩ := q
    refine ⟨a, vs, rfl, s1, by rw [z.length]; exact tgSets_length es, gSetsW_ok hw es z re rfl f⟩
  · cases es
abbrev WF : WX := fun _ _ _ _ => False
/-- the core: from the loop of ours to tLc's reading -/
theorem lc_ok {K : PySem.W.Frag} {W : WX} {k : IK} {as : List E} {t : Tg} {ws : List Nat} {tst : En → MH → Res Bool} {elt : E} {tt : TT} {σ : L2.St} {H : Hp} {Q : VK}
    (htt : ∀ σ2 H2 ρ2 e2 h2 (Qb : Bool → Hp → Prop), REnv K ρ2 H2 e2 σ2 → Rep K ρ2 h2 H2 → PostG RB K WF σ2 ρ2 H2 (tst e2 h2) Qb → tt σ2 H2 Qb)
    (hh : ∃ ρ e h, REnv K ρ H e σ ∧ Rep K ρ h H ∧ PostG (RepV K) K W σ ρ H ((Es.den C as e h).bind fun vs h1 => match srcO k vs h1 with
      | none => .bad
      | some src => loop .bad (compTurn src t (wipeM e ws) tst (fun e h => E.den C elt e h)) 0 ([], h1)) Q) :
    tLc (tIt K W C k as) (tTgW K t ws) tt (tI K WF C elt) ws σ H Q := by
  obtain ⟨ρ, e, h, re, rp, po⟩ := hh
  refine ⟨ρ, e, h, re, rp, ?_⟩
  cases hd : Es.den C as e h with
  | bad => rw [hd] at po; exact po
  | exc y h1 => rw [hd] at po; exact po
  | ok vs h1 =>
    rw [hd] at po
    simp only [Res.bind_ok] at po
    cases hs : srcO k vs h1 with
    | none => rw [hs] at po; exact po.elim
    | some src =>
      rw [hs] at po
      simp only at po
      refine ⟨src, hs, fun ρ1 H1 J x1 rp1 it D hD => ?_⟩
      have po := PostG.ext po x1
      -- a bound on the turns
      have hb : loop .bad (compTurn src t (wipeM e ws) tst (fun e h => E.den C elt e h)) 0 ([], h1) ≠ .bad := fun z => by rw [z] at po; exact po
      obtain ⟨n, en⟩ := of_loop hb
      rw [← en] at po
      refine ⟨fun i m H2 => ∃ ρ2 acc h2 us, Ext ρ1 H1 ρ2 H2 ∧ Rep K ρ2 h2 H2 ∧ D ∉ ρ2 ∧ H2 D = some (.lst us) ∧ RepVs K ρ2 H2 acc us ∧
        PostG (RepV K) K W σ ρ1 H1 (loopN .bad (compTurn src t (wipeM e ws) tst (fun e h => E.den C elt e h)) m i (acc, h2)) Q, ⟨n, ρ1, [], h1, [], ext_new hD, ?_, rp1.free hD, upd_same, .nil, po⟩, fun i m H2 ⟨ρ2, acc, h2, us, x2, rp2, nD, hD2, qa, po2⟩ => ?_⟩
      · exact rp1.keep (rp1.kp (ext_new hD)) fun a m => upd_ne fun z => rp1.free hD (z ▸ m)
      · cases m with
        | zero => exact po2.elim
        | succ m =>
          unfold loopN at po2
          unfold compTurn at po2
          simp only at po2
          have itk := it ρ2 h2 H2 i (rp1.kp x2) rp2
          cases hsrc : src i h2 with
          | none => rw [hsrc] at po2; exact po2.elim
          | some ov =>
            rw [hsrc] at po2
            cases ov with
            | none =>
              refine .inl ⟨itk.1 hsrc, ?_⟩
              simp only at po2
              refine po2 (ρ2 ++ [D]) H2 (.ref D) ⟨?_, x2.fr, fun a m => ?_⟩ (rp2.join nD ⟨us, hD2, qa⟩) (locRep (by rw [← rp2.len, List.getElem?_concat_length]))
              · obtain ⟨u, rfl⟩ := x2.pre
                exact ⟨u ++ [D], by rw [List.append_assoc]⟩
              · rcases List.mem_append.mp m with m | m
                · exact x2.new a m
                · rw [List.mem_singleton.mp m]
                  exact .inr hD
            | some v =>
              simp only at po2
              obtain ⟨go, yl⟩ := itk.2 v hsrc
              cases hset : t.set v (wipeM e ws) with
              | none => rw [hset] at po2; exact po2.elim
              | some e' =>
                rw [hset] at po2
                simp only at po2
                refine .inr ⟨go, fun H' => ∃ ρ3 acc h3 us, Ext ρ1 H1 ρ3 H' ∧ Rep K ρ3 h3 H' ∧ D ∉ ρ3 ∧ H' D = some (.lst us) ∧ RepVs K ρ3 H' acc us ∧
                  PostG (RepV K) K W σ ρ1 H1 (loopN .bad (compTurn src t (wipeM e ws) tst (fun e h => E.den C elt e h)) m (i + 1) (acc, h3)) Q, fun H' q => ⟨m, Nat.lt_succ_self m, q⟩, fun x H3 y3 => ?_⟩
                obtain ⟨x3, rp3, qv⟩ := yl x H3 y3
                have hD3 : H3 D = some (.lst us) := x3.fr D _ hD2 nD
                have re3 : REnv K ρ2 H3 (wipeM e ws) (wipe σ ws) := ((renv_wipe ((re.mono rp x1).mono rp1 x2) ws).mono rp2 x3)
                refine ⟨ρ2, wipeM e ws, h2, v, e', re3, rp3, qv, hset, fun σ' re' hw => ⟨hw.trans (wipe_sub fun _ z => z), htt σ' H3 ρ2 e' h2 _ re' rp3 ?_⟩⟩
                -- the test
                cases ht : tst e' h2 with
                | bad => rw [ht] at po2; exact po2.elim
                | exc _ _ => rw [ht] at po2; exact po2.elim
                | ok b h4 =>
                  rw [ht] at po2
                  intro ρ4 H4 b' x4 rp4 eb
                  subst eb
                  have nD4 : D ∉ ρ4 := fun z => by
                    rcases x4.new D z with z | z
                    · exact nD z
                    · rw [hD3] at z; cases z
                  have hD4 : H4 D = some (.lst us) := x4.fr D _ hD3 nD
                  have qa4 : RepVs K ρ4 H4 acc us := (qa.mono rp2 x3).mono rp3 x4
                  cases b with
                  | false =>
                    simp only at po2
                    rw [if_neg Bool.false_ne_true]
                    exact ⟨ρ4, acc, h4, us, (x2.trans x3).trans x4, rp4, nD4, hD4, qa4, po2⟩
                  | true =>
                    simp only at po2
                    rw [if_pos rfl]
                    refine ⟨ρ4, e', h4, re'.mono rp3 x4, rp4, ?_⟩
                    cases hel : E.den C elt e' h4 with
                    | bad => rw [hel] at po2; exact po2.elim
                    | exc _ _ => rw [hel] at po2; exact po2.elim
                    | ok y h5 =>
                      rw [hel] at po2
                      simp only at po2
                      intro ρ5 H5 w x5 rp5 qy
                      by_cases hz : acc.length < sizeLine
                      · rw [if_pos hz] at po2
                        simp only at po2
                        have nD5 : D ∉ ρ5 := fun z => by
                          rcases x5.new D z with z | z
                          · exact nD4 z
                          · rw [hD4] at z; cases z
                        have hD5 : H5 D = some (.lst us) := x5.fr D _ hD4 nD4
                        have kp : Kp ρ5 H5 ρ5 (upd H5 D (.lst (us ++ [w]))) := ⟨⟨[], by simp⟩, fun a xs q => by
                          rw [upd_ne fun z => by rw [z, hD5] at q; cases q]; exact q, fun a o u q => by
                          rw [upd_ne fun z => by rw [z, hD5] at q; cases q]; exact q⟩
                        refine ⟨us, hD5, by rw [qa4.length]; exact hz, ρ5, acc ++ [y], h5, us ++ [w], ?_, ?_, nD5, upd_same, ((qa4.mono rp4 x5).append (.one qy)).keep kp, po2⟩
                        · have x6 := ((x2.trans x3).trans x4).trans x5
                          refine ⟨x6.pre, fun a o q na => ?_, x6.new⟩
                          rw [upd_ne fun z => by rw [z, hD] at q; cases q]
                          exact x6.fr a o q na
                        · exact rp5.keep kp fun a m => upd_ne fun z => nD5 (z ▸ m)
                      · rw [if_neg hz] at po2
                        exact po2.elim
/-! ### statements -/
def PostS (K : PySem.W.Frag) (W : WX) (D : Ends) (ρ : List Addr) (H : Hp) (r : SR) : Prop := match r with
  | .nx e h' => ∀ ρ' H' σ', Ext ρ H ρ' H' → Rep K ρ' h' H' → REnv K ρ' H' e σ' → D.nx σ' H'
  | .rt v h' => ∀ ρ' H' w, Ext ρ H ρ' H' → Rep K ρ' h' H' → RepV K ρ' H' v w → D.rt w H'
  | .bk e h' => ∀ ρ' H' σ', Ext ρ H ρ' H' → Rep K ρ' h' H' → REnv K ρ' H' e σ' → D.bk σ' H'
  | .ct e h' => ∀ ρ' H' σ', Ext ρ H ρ' H' → Rep K ρ' h' H' → REnv K ρ' H' e σ' → D.ct σ' H'
  | .exc x e h' => ∀ ρ' H' σ' cls d, Ext ρ H ρ' H' → Rep K ρ' h' H' → REnv K ρ' H' e σ' → RepX K ρ' H' x cls d → W cls d σ' H'
  | .bad => False
def tS (K : PySem.W.Frag) (W : WX) (C : Cl) (s : S) : TS := fun D σ H => ∃ ρ e h, REnv K ρ H e σ ∧ Rep K ρ h H ∧ PostS K W D ρ H (S.den C s e h)
def tSs (K : PySem.W.Frag) (W : WX) (C : Cl) (s : List S) : TS := fun D σ H => ∃ ρ e h, REnv K ρ H e σ ∧ Rep K ρ h H ∧ PostS K W D ρ H (Ss.den C s e h)
theorem PostS.ext {K : PySem.W.Frag} {W : WX} {D : Ends} {ρ ρ1 : List Addr} {H H1 : Hp} {r : SR} (p : PostS K W D ρ H r) (x : Ext ρ H ρ1 H1) : PostS K W D ρ1 H1 r := by
  cases r with
  | nx e h' => exact fun ρ' H' σ' y => p ρ' H' σ' (x.trans y)
  | rt v h' => exact fun ρ' H' w y => p ρ' H' w (x.trans y)
  | bk e h' => exact fun ρ' H' σ' y => p ρ' H' σ' (x.trans y)
  | ct e h' => exact fun ρ' H' σ' y => p ρ' H' σ' (x.trans y)
  | exc z e h' => exact fun ρ' H' σ' c d y => p ρ' H' σ' c d (x.trans y)
  | bad => exact p
/-- an expression, then what follows -/
theorem PostS.sr {α β : Type} {R : List Addr → Hp → α → β → Prop} {K : PySem.W.Frag} {W : WX} {D : Ends} {ρ : List Addr} {H : Hp} {r : Res α} {e : En} {σ : L2.St} {h : MH} {f : α → MH → SR} (re : REnv K ρ H e σ) (rp : Rep K ρ h H) (p : PostS K W D ρ H (r.sr e f)) :
    PostG R K W σ ρ H r (fun b H1 => ∃ ρ1 h1 a, Ext ρ H ρ1 H1 ∧ Rep K ρ1 h1 H1 ∧ R ρ1 H1 a b ∧ REnv K ρ1 H1 e σ ∧ PostS K W D ρ1 H1 (f a h1)) := by
  cases r with
  | ok a h' => exact fun ρ' H' b x rp' q => ⟨ρ', h', a, x, rp', q, re.mono rp x, PostS.ext (r := f a h') p x⟩
  | exc x h' => exact fun ρ' H' cls d y rp' q => p ρ' H' σ cls d y rp' (re.mono rp y) q
  | bad => exact p
variable {ps : List Stmt} {pst : Stmt} {ss : List S} {st : S}
theorem snd_snil : PSs X [] (tSs X.K W C []) := by
  refine ⟨fun pins s σ H D I ⟨ρ, e, h, re, rp, po⟩ => pss_nil.run pins s σ H D I ?_⟩
  simp only [Ss.den] at po
  exact po ρ H σ .refl rp re
theorem snd_scons (h1 : PS X pst (tS X.K W C st)) (h2 : PSs X ps (tSs X.K W C ss)) : PSs X (pst :: ps) (tSs X.K W C (st :: ss)) := by
  refine ⟨fun pins s σ H D I ⟨ρ, e, h, re, rp, po⟩ => (pss_cons h1 h2).run pins s σ H D I ?_⟩
  simp only [Ss.den] at po
  refine ⟨ρ, e, h, re, rp, ?_⟩
  cases hd : S.den C st e h with
  | nx e' h' =>
    rw [hd] at po
    exact fun ρ' H' σ' x rp' re' => ⟨ρ', e', h', re', rp', PostS.ext po x⟩
  | rt v h' => rw [hd] at po; exact po
  | bk e' h' => rw [hd] at po; exact po
  | ct e' h' => rw [hd] at po; exact po
  | exc x e' h' => rw [hd] at po; exact po
  | bad => rw [hd] at po; exact po
theorem snd_expr (ha : PE X pa (tI X.K W C a)) (hs : swapsWith pa none pos.line X.env = pure false) : PS X (.Expr pa pos) (tS X.K W C (.expr a)) := by
  refine PSi (ps_expr ha hs) fun D σ H ⟨ρ, e, h, re, rp, po⟩ => ?_
  simp only [S.den] at po
  exact ⟨ρ, e, h, re, rp, (PostS.sr (R := RepV X.K) re rp po).imp fun x H1 ⟨ρ1, h1, mx, x1, rp1, qx, re1, po1⟩ => po1 ρ1 H1 σ .refl rp1 re1⟩
theorem snd_doc {x : Str} {j : Nat} {p : Pos} : PS X (.Expr (.Constant (.str x) j p) pos) (tS X.K W C .pass) := by
  refine PSi ps_doc fun D σ H ⟨ρ, e, h, re, rp, po⟩ => ?_
  simp only [S.den] at po
  exact po ρ H σ .refl rp re
theorem snd_pass : PS X (.Pass pos) (tS X.K W C .pass) := by
  refine PSi ps_pass fun D σ H ⟨ρ, e, h, re, rp, po⟩ => ?_
  simp only [S.den] at po
  exact po ρ H σ .refl rp re
theorem snd_brk : PS X (.Break pos) (tS X.K W C .brk) := by
  refine PSi ps_break fun D σ H ⟨ρ, e, h, re, rp, po⟩ => ?_
  simp only [S.den] at po
  exact po ρ H σ .refl rp re
theorem snd_cont : PS X (.Continue pos) (tS X.K W C .cont) := by
  refine PSi ps_continue fun D σ H ⟨ρ, e, h, re, rp, po⟩ => ?_
  simp only [S.den] at po
  exact po ρ H σ .refl rp re
theorem snd_bad : PS X pst (tS X.K W C .bad) := by
  refine PSi ps_never fun D σ H ⟨ρ, e, h, re, rp, po⟩ => ?_
  simp only [S.den] at po
  exact po.elim
theorem snd_ret (ha : PE X pa (tI X.K W C a)) : PS X (.Return (some pa) pos) (tS X.K W C (.ret a)) := by
  refine PSi (ps_ret ha) fun D σ H ⟨ρ, e, h, re, rp, po⟩ => ?_
  simp only [S.den] at po
  exact ⟨ρ, e, h, re, rp, (PostS.sr (R := RepV X.K) re rp po).imp fun x H1 ⟨ρ1, h1, mx, x1, rp1, qx, re1, po1⟩ => po1 ρ1 H1 x .refl rp1 qx⟩
theorem snd_retN : PS X (.Return none pos) (tS X.K W C (.ret (.lit .non))) := by
  refine PSi ps_retN fun D σ H ⟨ρ, e, h, re, rp, po⟩ => ?_
  simp only [S.den, E.den, Res.sr_ok] at po
  exact po ρ H .non .refl rp nonRep
theorem snd_iff {pt pf : List Stmt} {t f : List S} (hc : PT X pa (tT X.K W C a)) (ht : PSs X pt (tSs X.K W C t)) (hf : PSs X pf (tSs X.K W C f)) : PS X (.If pa pt pf pos) (tS X.K W C (.iff a t f)) := by
  refine PSi (ps_if hc ht hf) fun D σ H ⟨ρ, e, h, re, rp, po⟩ => ?_
  simp only [S.den] at po
  refine ⟨ρ, e, h, re, rp, (PostS.sr (R := RB) re rp po).imp fun x H1 ⟨ρ1, h1, mx, x1, rp1, qx, re1, po1⟩ => ?_⟩
  subst qx
  cases mx with
  | true => exact ⟨ρ1, e, h1, re1, rp1, po1⟩
  | false => exact ⟨ρ1, e, h1, re1, rp1, po1⟩
/-- name = value, a, b = value -/
theorem asg_ok {K : PySem.W.Frag} {te : TE} {t : Tg} {D : Ends} {σ : L2.St} {H : Hp} (hE : ∀ Q : VK, tI K W C a σ H Q → te σ H Q) (h : tS K W C (.asg t a) D σ H) : tAsg te (tTg K t) D σ H := by
  obtain ⟨ρ, e, h, re, rp, po⟩ := h
  simp only [S.den] at po
  refine hE _ ⟨ρ, e, h, re, rp, (PostS.sr (R := RepV K) re rp po).imp fun x H1 ⟨ρ1, h1, mx, x1, rp1, qx, re1, po1⟩ => ?_⟩
  cases hs : t.set mx e with
  | none => rw [hs] at po1; exact po1.elim
  | some e' =>
    rw [hs] at po1
    exact ⟨ρ1, e, h1, mx, e', re1, rp1, qx, hs, fun σ' re' => po1 ρ1 H1 σ' .refl rp1 re'⟩
theorem snd_asg {t : Tg} (ha : PE X pa (tI X.K W C a)) (hg : PG X tg (tTg X.K t)) (hs : swapsWithSole [tg] pa pos.line X.env = pure false) (hw : swappedStores [tg] pa X.env = pure none)
    (h1 : (assignEach [tg] X.env).map (·.2) = [assign tg X.env]) : PS X (.Assign [tg] pa pos) (tS X.K W C (.asg t a)) :=
  PSi (ps_asg ha hg hs hw h1) fun D σ H h => asg_ok (fun _ q => q) h
theorem snd_par {i j : Nat} {x y : Str} {px py pt : Pos} {kt k2 pt2} (hc : X.calm = true) (hN : X.N.Nodup) (hi : X.N[i]? = some x) (hj : X.N[j]? = some y) (hij : i ≠ j)
    (hx : X.env.scope.names.lookup x = some .local) (hy : X.env.scope.names.lookup y = some .local) (ha : PE X pa (tI X.K W C a)) (hb : PE X pb (tI X.K W C b)) (hsa : starEach [pa, pb] X.env = [(false, eval pa X.env), (false, eval pb X.env)]) (hsb : starEach [pb] X.env = [(false, eval pb X.env)])
    (hw : swappedStores [.Tuple [.Name x px, .Name y py] kt pt] (.Tuple [pa, pb] k2 pt2) X.env = pure (some [x, y])) :
    PS X (.Assign [.Tuple [.Name x px, .Name y py] kt pt] (.Tuple [pa, pb] k2 pt2) pos) (tS X.K W C (.asg (.tp [i, j]) (.tup [a, b]))) := by
  have hA : PA X [pa, pb] (tIs X.K W C [a, b]) := snd_cons ha (snd_cons hb snd_nil (by rw [hsb]; rfl)) (by rw [hsa, hsb])
  refine PSi (ps_par hc hN hi hj hij hx hy hA hw rfl) fun D σ H ⟨ρ, e, h, re, rp, po⟩ => ?_
  simp only [S.den, E.den] at po
  refine ⟨ρ, e, h, re, rp, ?_⟩
  cases hd : Es.den C [a, b] e h with
  | bad => rw [hd] at po; exact po
  | exc z h1 => rw [hd] at po; exact fun ρ' H' cls d y rp' q => po ρ' H' σ cls d y rp' (re.mono rp y) q
  | ok vs h1 =>
    rw [hd] at po
    intro ρ1 H1 ws x1 rp1 qs
    simp only [Res.bind_ok] at po
    split at po
    · rename_i hz
      simp only [Res.sr_ok] at po
      have hl : vs.length = 2 := by
        have : ∀ {as : List E} {e : En} {h : MH} {vs : List MV} {h1 : MH}, Es.den C as e h = .ok vs h1 → vs.length = as.length := by
          intro as
          induction as with
          | nil => intro e h vs h1 q; simp only [Es.den] at q; cases q; rfl
          | cons b bs ih =>
            intro e h vs h1 q
            simp only [Es.den] at q
            cases h2 : E.den C b e h with
            | ok v h3 =>
              rw [h2] at q
              simp only [Res.bind_ok] at q
              cases h4 : Es.den C bs e h3 with
              | ok us h5 =>
                rw [h4] at q
                simp only [Res.bind_ok] at q
                cases q
                rw [List.length_cons, List.length_cons, ih h4]
              | exc _ _ => rw [h4] at q; cases q
              | bad => rw [h4] at q; cases q
            | exc _ _ => rw [h2] at q; cases q
            | bad => rw [h2] at q; cases q
        exact this hd
      match vs, hl, qs, po with
      | [v, w], _, qs, po =>
        obtain ⟨v', w', rfl, q1, q2⟩ := qs.of2
        exact ⟨v', w', rfl, po ρ1 H1 _ x1 rp1 (((re.mono rp x1).set i q1).set j q2)⟩
    · exact po.elim
theorem snd_aug {i : Nat} {x : Str} {o : BOp} {p : Pos} (hN : X.N.Nodup) (hi : X.N[i]? = some x) (hx : Loc X.env.scope x) (hf : X.fn x = true ∨ X.env.scope.names.lookup x = some .local) (ha : PE X pa (tI X.K W C a)) : PS X (.AugAssign (.Name x p) o.op pa pos) (tS X.K W C (.aug i o a)) := by
  refine PSi (ps_aug hN hi hx ha (ip_M o) hf) fun D σ H ⟨ρ, e, h, re, rp, po⟩ => ?_
  simp only [S.den] at po
  split at po
  · rename_i m em
    obtain ⟨w, ew, qw⟩ := re.2 i m em
    refine ⟨w, ew, ρ, e, h, re, rp, (PostS.sr (R := RepV X.K) re rp po).imp fun y H1 ⟨ρ1, h1, my, x1, rp1, qy, re1, po1⟩ => ?_⟩
    cases ho : augO o m my h1 with
    | none => rw [ho] at po1; exact po1.elim
    | some z =>
      obtain ⟨mz, h2⟩ := z
      rw [ho] at po1
      exact ⟨ρ1, h1, m, my, mz, h2, rp1, qw.mono rp x1, qy, ho, fun ρ2 H2 z x2 rp2 qz => po1 ρ2 H2 _ x2 rp2 ((re1.mono rp1 x2).set i qz)⟩
  · exact po.elim
theorem snd_setIx {c : E} {pc : Expr} {p : Pos} (hc : PE X pc (tI X.K W C c)) (ha : PE X pa (tI X.K W C a)) (hb : PE X pb (tI X.K W C b)) (hs : ∀ v, assign (.Subscript pa pb p) X.env v = (do
      let ov ← holding [v] (eval pa X.env)
      let iv ← holding [v, ov] (eval pb X.env)
      standAt p
      holding [v, ov, iv] (setItem ov iv v)
      release [v, ov, iv] [])) (hsw : swapsWithSole [.Subscript pa pb p] pc pos.line X.env = pure false) (hw : swappedStores [.Subscript pa pb p] pc X.env = pure none)
    : PS X (.Assign [.Subscript pa pb p] pc pos) (tS X.K W C (.setIx a b c)) := by
  refine PSi (ps_asg hc (pg_sub ha hb set_M hs) hsw hw rfl) fun D σ H ⟨ρ, e, h, re, rp, po⟩ => ?_
  simp only [S.den] at po
  refine ⟨ρ, e, h, re, rp, (PostS.sr (R := RepV X.K) re rp po).imp fun v H1 ⟨ρ1, h1, mv, x1, rp1, qv, re1, po1⟩ => ?_⟩
  refine ⟨ρ1, e, h1, re1, rp1, (PostS.sr (R := RepV X.K) re1 rp1 po1).imp fun o H2 ⟨ρ2, h2, mo, x2, rp2, qo, re2, po2⟩ => ?_⟩
  refine ⟨ρ2, e, h2, re2, rp2, (PostS.sr (R := RepV X.K) re2 rp2 po2).imp fun i H3 ⟨ρ3, h3, mi, x3, rp3, qi, re3, po3⟩ => ?_⟩
  split at po3
  · rename_i h4 he
    exact ⟨ρ3, h3, mo, mi, mv, h4, rp3, qo.mono rp2 x3, qi, (qv.mono rp1 x2).mono rp2 x3, he, fun H' y rp' => po3 ρ3 H' σ y rp' (re3.mono rp3 y)⟩
  · exact po3.elim
theorem snd_whl (hp : PassesOwn (model X.prog X.w) X.A X.env X.xe) (hc : PT X pa (tT X.K W C a)) (hb : PSs X ps (tSs X.K W C ss)) : PS X (.While pa ps [] pos) (tS X.K W C (.whl a ss)) := by
  refine PSi (ps_while hp hc hb) fun D σ H ⟨ρ, e, h, re, rp, po⟩ => ?_
  simp only [S.den] at po
  have hb : loop .bad (whileTurn C a (fun e h => Ss.den C ss e h)) 0 (e, h) ≠ .bad := fun z => by rw [z] at po; exact po
  obtain ⟨n, en⟩ := of_loop hb
  rw [← en] at po
  refine ⟨fun m σ H => ∃ i ρ e h, REnv X.K ρ H e σ ∧ Rep X.K ρ h H ∧ PostS X.K W D ρ H (loopN .bad (whileTurn C a (fun e h => Ss.den C ss e h)) m i (e, h)), ⟨n, 0, ρ, e, h, re, rp, po⟩, fun m σ H ⟨i, ρ, e, h, re, rp, po⟩ => ?_⟩
  cases m with
  | zero => exact po.elim
  | succ m =>
    unfold loopN at po
    unfold whileTurn at po
    simp only at po
    refine ⟨ρ, e, h, re, rp, ?_⟩
    cases ht : E.tst C a e h with
    | bad => rw [ht] at po; exact po
    | exc z h1 => rw [ht] at po; exact fun ρ' H' cls d y rp' q => po ρ' H' σ cls d y rp' (re.mono rp y) q
    | ok k h1 =>
      rw [ht] at po
      intro ρ1 H1 k' x1 rp1 ek
      subst ek
      cases k with
      | false =>
        rw [if_neg Bool.false_ne_true]
        exact po ρ1 H1 σ x1 rp1 (re.mono rp x1)
      | true =>
        rw [if_pos rfl]
        simp only at po
        refine ⟨fun σ H => ∃ i ρ e h, REnv X.K ρ H e σ ∧ Rep X.K ρ h H ∧ PostS X.K W D ρ H (loopN .bad (whileTurn C a (fun e h => Ss.den C ss e h)) m i (e, h)), fun σ' H' q => ⟨m, Nat.lt_succ_self m, q⟩, ρ1, e, h1, re.mono rp x1, rp1, ?_⟩
        cases hd : Ss.den C ss e h1 with
        | nx e2 h2 =>
          rw [hd] at po
          exact fun ρ' H' σ' y rp' re' => ⟨i + 1, ρ', e2, h2, re', rp', PostS.ext po (x1.trans y)⟩
        | ct e2 h2 =>
          rw [hd] at po
          exact fun ρ' H' σ' y rp' re' => ⟨i + 1, ρ', e2, h2, re', rp', PostS.ext po (x1.trans y)⟩
        | bk e2 h2 =>
          rw [hd] at po
          exact fun ρ' H' σ' y rp' re' => po ρ' H' σ' (x1.trans y) rp' re'
        | rt v h2 =>
          rw [hd] at po
          exact fun ρ' H' w y => po ρ' H' w (x1.trans y)
        | exc z e2 h2 =>
          rw [hd] at po
          exact fun ρ' H' σ' c d y => po ρ' H' σ' c d (x1.trans y)
        | bad => rw [hd] at po; exact po
theorem snd_for {k : IK} {as : List E} {t : Tg} {iter : Expr} (hp : PassesOwn (model X.prog X.w) X.A X.env X.xe) (hc : X.calm = true) (hi : PI X tg iter (tIt X.K W C k as)) (hg : PG X tg (tTg X.K t)) (hb : PSs X ps (tSs X.K W C ss))
    (hs : ∀ x, foldedSetIterable iter X.env x = pure x) : PS X (.For tg iter ps [] pos) (tS X.K W C (.for_ t k as ss)) := by
  refine PSi (ps_for hp hc hi hg hb hs) fun D σ H ⟨ρ, e, h, re, rp, po⟩ => ?_
  simp only [S.den] at po
  refine ⟨ρ, e, h, re, rp, ?_⟩
  cases hd : Es.den C as e h with
  | bad => rw [hd] at po; exact po
  | exc y h1 => rw [hd] at po; exact fun ρ' H' cls d y rp' q => po ρ' H' σ cls d y rp' (re.mono rp y) q
  | ok vs h1 =>
    rw [hd] at po
    simp only [Res.sr_ok] at po
    cases hs : srcO k vs h1 with
    | none => rw [hs] at po; exact po.elim
    | some src =>
      rw [hs] at po
      simp only at po
      refine ⟨src, hs, fun ρ1 H1 J x1 rp1 it => ?_⟩
      have po := PostS.ext po x1
      have hb : loop .bad (forTurn src t (fun e h => Ss.den C ss e h)) 0 (e, h1) ≠ .bad := fun z => by rw [z] at po; exact po
      obtain ⟨n, en⟩ := of_loop hb
      rw [← en] at po
      refine ⟨fun i m σ H2 => ∃ ρ2 e h2, Ext ρ1 H1 ρ2 H2 ∧ REnv X.K ρ2 H2 e σ ∧ Rep X.K ρ2 h2 H2 ∧ PostS X.K W D ρ2 H2 (loopN .bad (forTurn src t (fun e h => Ss.den C ss e h)) m i (e, h2)), ⟨n, ρ1, e, h1, .refl, re.mono rp x1, rp1, po⟩, fun i m σ2 H2 ⟨ρ2, e2, h2, x2, re2, rp2, po2⟩ => ?_⟩
      cases m with
      | zero => exact po2.elim
      | succ m =>
        unfold loopN at po2
        unfold forTurn at po2
        simp only at po2
        have itk := it ρ2 h2 H2 i (rp1.kp x2) rp2
        cases hsrc : src i h2 with
        | none => rw [hsrc] at po2; exact po2.elim
        | some ov =>
          rw [hsrc] at po2
          cases ov with
          | none => exact .inl ⟨itk.1 hsrc, po2 ρ2 H2 σ2 .refl rp2 re2⟩
          | some v =>
            simp only at po2
            obtain ⟨go, yl⟩ := itk.2 v hsrc
            cases hset : t.set v e2 with
            | none => rw [hset] at po2; exact po2.elim
            | some e' =>
              rw [hset] at po2
              simp only at po2
              refine .inr ⟨go, fun σ' H' => ∃ ρ3 e3 h3, Ext ρ1 H1 ρ3 H' ∧ REnv X.K ρ3 H' e3 σ' ∧ Rep X.K ρ3 h3 H' ∧ PostS X.K W D ρ3 H' (loopN .bad (forTurn src t (fun e h => Ss.den C ss e h)) m (i + 1) (e3, h3)), fun σ' H' q => ⟨m, Nat.lt_succ_self m, q⟩, fun x H3 y3 => ?_⟩
              obtain ⟨x3, rp3, qv⟩ := yl x H3 y3
              refine ⟨ρ2, e2, h2, v, e', re2.mono rp2 x3, rp3, qv, hset, fun σ' re' => ⟨ρ2, e', h2, re', rp3, ?_⟩⟩
              cases hd : Ss.den C ss e' h2 with
              | nx e4 h4 =>
                rw [hd] at po2
                exact fun ρ' H' σ' y rp' re' => ⟨ρ', e4, h4, (x2.trans x3).trans y, re', rp', PostS.ext po2 (x3.trans y)⟩
              | ct e4 h4 =>
                rw [hd] at po2
                exact fun ρ' H' σ' y rp' re' => ⟨ρ', e4, h4, (x2.trans x3).trans y, re', rp', PostS.ext po2 (x3.trans y)⟩
              | bk e4 h4 =>
                rw [hd] at po2
                exact fun ρ' H' σ' y rp' re' => po2 ρ' H' σ' (x3.trans y) rp' re'
              | rt v h4 =>
                rw [hd] at po2
                exact fun ρ' H' w y => po2 ρ' H' w (x3.trans y)
              | exc z e4 h4 =>
                rw [hd] at po2
                exact fun ρ' H' σ' c d y => po2 ρ' H' σ' c d (x3.trans y)
              | bad => rw [hd] at po2; exact po2
end
end MP
end
section
set_option Elab.async false
set_option linter.all false
set_option maxRecDepth 100000
set_option maxHeartbeats 4000000
/-! MP, part g: from the model's syntax to the small language. -/
namespace MP
open PySem PySem.Spec PyProof.Rows L2

structure Ge where
  fns : List Str
  consts : List (Str × MV)
  free : List Str
structure Gm where
  G : Ge
  N : List Str
  sc : Scope
  fn : Str → Bool
/-- the place of a name -/
def ixOf : List Str → Str → Option Nat
  | [], _ => none
  | y :: r, x => if x = y then some 0 else (ixOf r x).map (· + 1)
theorem ixOf_at : ∀ {l : List Str} {x : Str} {i : Nat}, ixOf l x = some i → l[i]? = some x
  | [], _, _, h => by cases h
  | y :: r, x, i, h => by
    unfold ixOf at h
    split at h
    · rename_i e
      cases h
      rw [e]
      rfl
    · cases e : ixOf r x with
      | none => rw [e] at h; cases h
      | some j =>
        rw [e] at h
        cases h
        show (y :: r)[j + 1]? = some x
        rw [List.getElem?_cons_succ]
        exact ixOf_at e
def plainNm (x : Str) : Bool := !(x == ("__debug__" : Str)) && (!(x == ("__classdict__" : Str)) && !(x == ("__name__" : Str)))
def visB (sc : Scope) (x : Str) : Bool := match sc.names.lookup x with
  | some .local => true
  | some .cell => true
  | some .free => true
  | _ => false
def locB (Γ : Gm) (x : Str) : Bool := match Γ.sc.names.lookup x with
  | some .local => true
  | some .cell => Γ.fn x
  | _ => false
def glB (sc : Scope) (x : Str) : Bool := match sc.names.lookup x with
  | some .globalImplicit => true
  | _ => false
def notStar : Expr → Bool
  | .Starred _ _ => false
  | _ => true
def notSlice : Expr → Bool
  | .Slice .. => false
  | _ => true
def notCall : Expr → Bool
  | .Call .. => false
  | _ => true
def isName : Expr → Str → Bool
  | .Name y _, x => decide (y = x)
  | _, _ => false
def cBop : Operator → Option BOp
  | .Add => some .add
  | .Sub => some .sub
  | .Mult => some .mul
  | .FloorDiv => some .fdiv
  | .Mod => some .mod
  | .Pow => some .pow
  | _ => none
def cCop : CmpOp → Option COp
  | .Eq => some .eq
  | .NotEq => some .ne
  | .Lt => some .lt
  | .LtE => some .le
  | .Gt => some .gt
  | .GtE => some .ge
  | .Is => some .is
  | .IsNot => some .isn
  | .In => some .inn
  | .NotIn => some .nin
theorem cBop_ok {p : Operator} {o : BOp} (h : cBop p = some o) : p = o.op := by
  cases p <;> cases h <;> rfl
theorem cCop_ok {p : CmpOp} {o : COp} (h : cCop p = some o) : p = o.op := by
  cases p <;> cases h <;> rfl
def opts {α β : Type} (f : α → Option β) : List α → Option (List β)
  | [] => some []
  | a :: r => match f a, opts f r with
    | some b, some bs => some (b :: bs)
    | _, _ => none
/-- the block's own names, with their places -/
def ownOf (N : List Str) : List (Str × NameKind) → List (Str × Nat)
  | [] => []
  | (y, k) :: r => match k, ixOf N y with
    | .local, some i => (y, i) :: ownOf N r
    | .cell, some i => (y, i) :: ownOf N r
    | _, _ => ownOf N r
def cNames (Γ : Gm) : List Expr → Option (List Nat)
  | [] => some []
  | .Name x _ :: r => if plainNm x = true ∧ locB Γ x = true then match ixOf Γ.N x, cNames Γ r with
    | some i, some is => some (i :: is)
    | _, _ => none else none
  | _ :: _ => none
def cTg (Γ : Gm) : Expr → Option Tg
  | .Name x _ => if plainNm x = true ∧ locB Γ x = true then (ixOf Γ.N x).map .nm else none
  | .Tuple es _ _ => (cNames Γ es).map .tp
  | _ => none
def cConst : Const → Option MV
  | .int i => some (.int i)
  | .bool b => some (.bl b)
  | .none => some .non
  | .str x => some (.str x)
  | _ => none
def cBi (x : Str) (n : Nat) : Option Bi :=
  if x = "len" then (if n = 1 then some .len else none) else
  if x = "min" then (if n = 2 then some .min2 else if n = 1 then some .minL else none) else
  if x = "max" then (if n = 2 then some .max2 else if n = 1 then some .maxL else none) else
  if x = "abs" then (if n = 1 then some .abs else none) else
  if x = "all" then (if n = 1 then some .allL else none) else
  if x = "any" then (if n = 1 then some .anyL else none) else
  if x = "sum" then (if n = 1 then some .sum else none) else
  if x = "sorted" then (if n = 1 then some .sorted else none) else
  if x = "int" then (if n = 1 then some .int else none) else
  if x = "list" then (if n = 1 then some .list else none) else
  if x = "tuple" then (if n = 1 then some .tuple else none) else none
def tyBi (t : Str) : Option Bi :=
  if t = "int" then some .isInt else if t = "bool" then some .isBool else if t = "list" then some .isList else
  if t = "tuple" then some .isTup else if t = "str" then some .isStr else none
def cMt (x : Str) (n : Nat) : Option Mt :=
  if x = "append" then (if n = 1 then some .append else none) else
  if x = "pop" then (if n = 0 then some .pop else if n = 1 then some .popAt else none) else none
/-- what a for walks -/
def cIt (Γ : Gm) (c : Expr → Option E) (it : Expr) : Option (IK × List E) := match it with
  | .Call (.Name f _) [a] [] _ => if f = "range" then (if glB Γ.sc f = true ∧ (ixOf Γ.G.fns f).isNone = true ∧ Γ.G.free.contains f = true ∧ notStar a = true then (c a).map fun a => (.rng1, [a]) else none) else (c it).map fun a => (.val, [a])
  | .Call (.Name f _) [a, b] [] _ => if f = "range" then (if glB Γ.sc f = true ∧ (ixOf Γ.G.fns f).isNone = true ∧ Γ.G.free.contains f = true ∧ notStar a = true ∧ notStar b = true then match c a, c b with
    | some a, some b => some (.rng2, [a, b])
    | _, _ => none else none) else (c it).map fun a => (.val, [a])
  | _ => (c it).map fun a => (.val, [a])
def cE (Γ : Gm) (n : Nat) (pe : Expr) : Option E := match n with
  | 0 => none
  | n + 1 => match pe with
    | .Constant c _ _ => (cConst c).map .lit
    | .Name x _ => if plainNm x = true then (if visB Γ.sc x = true then (ixOf Γ.N x).map .var else if glB Γ.sc x = true then (Γ.G.consts.lookup x).map .lit else none) else none
    | .BinOp a o b _ => match cBop o, cE Γ n a, cE Γ n b with
      | some o, some a, some b => some (.bin o a b)
      | _, _, _ => none
    | .UnaryOp .USub a _ => (cE Γ n a).map .neg
    | .UnaryOp .Not a _ => (cE Γ n a).map .not
    | .Compare a [o] [b] _ => if behindInMarks o b = false then match cCop o, cE Γ n a, cE Γ n b with
      | some o, some a, some b => some (.cmp o a b)
      | _, _, _ => none else none
    | .Compare a [o, o'] [b, c] _ => if lastMarks [o, o'] [b, c] = false then match cCop o, cCop o', cE Γ n a, cE Γ n b, cE Γ n c with
      | some o, some o', some a, some b, some c => some (.cmp2 o o' a b c)
      | _, _, _, _, _ => none else none
    | .BoolOp .And [a] _ => cE Γ n a
    | .BoolOp .Or [a] _ => cE Γ n a
    | .BoolOp .And (a :: b :: r) pos => match cE Γ n a, cE Γ n (.BoolOp .And (b :: r) pos) with
      | some a, some b => some (.and a b)
      | _, _ => none
    | .BoolOp .Or (a :: b :: r) pos => match cE Γ n a, cE Γ n (.BoolOp .Or (b :: r) pos) with
      | some a, some b => some (.or a b)
      | _, _ => none
    | .IfExp c a b _ => match cE Γ n c, cE Γ n a, cE Γ n b with
      | some c, some a, some b => some (.ite c a b)
      | _, _, _ => none
    | .Tuple es _ _ => if es.all notStar = true then (opts (cE Γ n) es).map .tup else none
    | .List es _ => if es.all notStar = true then (opts (cE Γ n) es).map .lst else none
    | .Subscript a (.Slice lo hi none _) _ => match cE Γ n a, (match lo with
        | none => some none
        | some l => (cE Γ n l).map some), (match hi with
        | none => some none
        | some u => (cE Γ n u).map some) with
      | some a, some l, some u => some (.sl a l u)
      | _, _, _ => none
    | .Subscript a b _ => if notSlice b = true then match cE Γ n a, cE Γ n b with
      | some a, some b => some (.ix a b)
      | _, _ => none else none
    | .Call (.Name f _) es [] _ => if plainNm f = true ∧ glB Γ.sc f = true ∧ es.all notStar = true then match ixOf Γ.G.fns f with
        | some i => (opts (cE Γ n) es).map (.call i)
        | none => if Γ.G.free.contains f = true then (match es with
          | [a, .Name t _] => if f = "isinstance" then (if glB Γ.sc t = true ∧ (ixOf Γ.G.fns t).isNone = true ∧ Γ.G.free.contains t = true then (match tyBi t, cE Γ n a with
              | some b, some a => some (.bi b [a])
              | _, _ => none) else none)
            else match cBi f es.length, opts (cE Γ n) es with
              | some b, some as => some (.bi b as)
              | _, _ => none
          | es => match cBi f es.length, opts (cE Γ n) es with
            | some b, some as => some (.bi b as)
            | _, _ => none) else none
      else none
    | .Call (.Attribute o m ap) es [] pos => if es.all notStar = true ∧ notCall o = true ∧ (ap.endLine == pos.line) = true then match cMt m es.length, cE Γ n o, opts (cE Γ n) es with
      | some t, some a, some as => some (.mt t a as)
      | _, _, _ => none else none
    | .ListComp elt [⟨tg, it, ifs, z⟩] scope _ =>
      let own := ownOf Γ.N scope.names
      let Γ' : Gm := { G := Γ.G, N := Γ.N, sc := relS scope Γ.sc, fn := fun x => scope.names.lookup x == some .cell }
      if z = 0 ∧ blkC Γ.N Γ.sc scope own = true then match cIt Γ (cE Γ n) it, cTg Γ' tg, cE Γ' n elt with
        | some (k, as), some t, some el => if (t.slots.all fun i => own.map (·.2) |>.contains i) = true then (match ifs with
          | [] => some (.comp (own.map (·.2)) t k as el)
          | [c] => (cE Γ' n c).map fun c => .compIf (own.map (·.2)) t k as c el
          | _ => none) else none
        | _, _, _ => none
      else none
    | _ => none
/-- a comprehension of this kind -/
def isComp : Expr → Bool
  | .ListComp .. => true
  | .SetComp .. => true
  | .DictComp .. => true
  | _ => false
def isTuple : Expr → Bool
  | .Tuple .. => true
  | .List .. => true
  | _ => false
/-- name = [..] on one line -/
def swB (Γ : Gm) (tg pe : Expr) : Bool := match tg, pe with
  | .Name y py, .ListComp _ _ scope pos => (decide (Γ.sc.names.lookup y = some .local) && (py.line == pos.line)) && !(scope.names.any fun (n, k) => n == y && (k == .local || k == .cell))
  | _, _ => false
def cS (Γ : Gm) (n : Nat) (st : Stmt) : S := match n with
  | 0 => .bad
  | n + 1 => match st with
    | .Pass _ => .pass
    | .Break _ => .brk
    | .Continue _ => .cont
    | .Expr (.Constant (.str _) _ _) _ => .pass
    | .Expr e _ => if isComp e = true then .bad else match cE Γ n e with
      | some a => .expr a
      | none => .bad
    | .Return none _ => .ret (.lit .non)
    | .Return (some e) _ => match cE Γ n e with
      | some a => .ret a
      | none => .bad
    | .If c t f _ => match cE Γ n c with
      | some c => .iff c (t.map (cS Γ n)) (f.map (cS Γ n))
      | none => .bad
    | .While c b [] _ => match cE Γ n c with
      | some c => .whl c (b.map (cS Γ n))
      | none => .bad
    | .For tg it b [] _ => match cTg Γ tg, cIt Γ (cE Γ n) it with
      | some t, some (k, as) => .for_ t k as (b.map (cS Γ n))
      | _, _ => .bad
    | .Assign [.Subscript o i _] e _ => if notSlice i = true ∧ isComp e = false then match cE Γ n o, cE Γ n i, cE Γ n e with
      | some o, some i, some e => .setIx o i e
      | _, _, _ => .bad else .bad
    | .Assign [tg] e _ => if (isTuple tg && isTuple e) = true then (match tg, e with
        | .Tuple [.Name x px, .Name y py] _ _, .Tuple [a, b] _ _ => if (decide (Γ.sc.names.lookup x = some .local) && (decide (Γ.sc.names.lookup y = some .local) && (px.line == py.line && (plainNm x && (plainNm y && (notStar a && (notStar b &&
              (!(([a, b].all (foldedForSure 8)) || ([a, b].all (constantsAlone 8))))))))))) = true then match ixOf Γ.N x, ixOf Γ.N y, cE Γ n a, cE Γ n b with
            | some i, some j, some a, some b => if i = j then .bad else .asg (.tp [i, j]) (.tup [a, b])
            | _, _, _, _ => .bad else .bad
        | _, _ => .bad) else match cTg Γ tg, cE Γ n e with
      | some t, some a => .asg t a
      | _, _ => .bad
    | .AugAssign (.Name x _) o e _ => if plainNm x = true ∧ locB Γ x = true then match ixOf Γ.N x, cBop o, cE Γ n e with
      | some i, some o, some a => .aug i o a
      | _, _, _ => .bad else .bad
    | _ => .bad
end MP
end
section
set_option Elab.async false
set_option linter.all false
set_option maxRecDepth 100000
set_option maxHeartbeats 4000000
/-! MP, part h: what the translation gives, the syntax does. -/
namespace MP
open PySem PySem.Spec PyProof.Rows L2

/-- the module's facts, by names -/
structure GOk (P : Program) (w : World) (K : PySem.W.Frag) (mg : Str → Option Value) (base : Heap) (C : Cl) (G : Ge) (k : Nat) : Prop where
  fn : ∀ (i : Nat) (x : Str), ixOf G.fns x = some i → ∃ f fd ps, mg x = some (.ref f) ∧ PySem.W.keepIn K (.ref f) = true ∧ Binds K fd ps [] ∧ FnOk P w K mg base (L2.CX P w) k f fd ps (spI K C i)
  cst : ∀ (x : Str) (v : MV), G.consts.lookup x = some v → ∃ u w, mg x = some u ∧ RelV w u ∧ ∀ ρ H, RepV K ρ H v w
  free : ∀ x : Str, G.free.contains x = true → mg x = none
structure XOk (X : Cx) (W : WX) (C : Cl) (Γ : Gm) (k : Nat) : Prop where
  N : X.N = Γ.N
  sc : X.env.scope = Γ.sc
  knd : Γ.sc.kind = .function
  fnm : ∀ x, Γ.fn x = true → X.fn x = true
  calm : X.calm = true
  nd : X.N.Nodup
  tk : Takes X W
  own : PassesOwn (model X.prog X.w) X.A X.env X.xe
  room : Room k X.A
  glb : GOk X.prog X.w X.K X.mg X.base C Γ.G k
section
variable {X : Cx} {W : WX} {C : Cl} {Γ : Gm} {k : Nat}
theorem XOk.hu (o : XOk X W C Γ k) : X.A.units + 65 < cLine := by have := o.room.un; omega
theorem XOk.vis (o : XOk X W C Γ k) {x : Str} (h : visB Γ.sc x = true) : Vis X.env.scope x := by
  rw [o.sc]
  unfold visB at h
  unfold Vis
  split at h
  · rename_i e; exact .inl e
  · rename_i e; exact .inr (.inl e)
  · rename_i e; exact .inr (.inr e)
  · cases h
theorem XOk.loc (o : XOk X W C Γ k) {x : Str} (h : locB Γ x = true) : L2.Loc X.env.scope x ∧ (X.fn x = true ∨ X.env.scope.names.lookup x = some .local) := by
  rw [o.sc]
  unfold locB at h
  unfold L2.Loc
  split at h
  · rename_i e; exact ⟨.inl e, .inr e⟩
  · rename_i e; exact ⟨.inr e, .inl (o.fnm x h)⟩
  · cases h
theorem XOk.gl (o : XOk X W C Γ k) {x : Str} (h : glB Γ.sc x = true) : Gl X x := by
  unfold Gl
  show X.env.scope.names.lookup x = _
  rw [o.sc]
  unfold glB at h
  split at h
  · rename_i e; exact e
  · cases h
theorem XOk.at (o : XOk X W C Γ k) {x : Str} {i : Nat} (h : ixOf Γ.N x = some i) : X.N[i]? = some x := by
  rw [o.N]
  exact ixOf_at h
theorem plainNm_ok {x : Str} (h : plainNm x = true) : (x == ("__debug__" : Str)) = false ∧ (x == ("__classdict__" : Str)) = false ∧ x ≠ ("__name__" : Str) := by
  unfold plainNm at h
  rw [Bool.and_eq_true, Bool.and_eq_true] at h
  obtain ⟨a, b, c⟩ := h
  refine ⟨by simpa using a, by simpa using b, fun z => ?_⟩
  rw [z] at c
  simp at c
theorem starEach_one {a : Expr} {es : List Expr} {env : Env} (h : notStar a = true) : starEach (a :: es) env = (false, eval a env) :: starEach es env := by
  cases a <;> first | rfl | cases h
theorem star_plain {pos : Pos} {env : Env} : ∀ {es : List Expr}, es.all notStar = true → (backTo pos (starEach es env)).any (·.1) = false
  | [], _ => rfl
  | a :: es, h => by
    rw [List.all_cons, Bool.and_eq_true] at h
    rw [starEach_one h.1]
    have ih := star_plain (pos := pos) (env := env) h.2
    unfold backTo at ih ⊢
    rw [List.map_cons, List.any_cons]
    simpa using ih
theorem plainIx_of {b : Expr} (h : notSlice b = true) : PlainIx b := by
  cases b <;> first | (intro o i; rfl) | cases h
theorem fold_of {it : Expr} {env : Env} (h : ∀ es k p, it ≠ .Set es k p) : ∀ x, foldedSetIterable it env x = pure x := by
  intro x
  cases it <;> first | rfl | exact absurd rfl (h _ _ _)
theorem base_of {o : Expr} {m : Str} {env : Env} {t : Sem Value} (h : notCall o = true) : attributeBase o m env t = t := by
  cases o <;> first | rfl | cases h
theorem opts_pa {f : Expr → Option E} (hf : ∀ pe e, f pe = some e → PE X pe (tI X.K W C e)) : ∀ {es : List Expr} {as : List E}, es.all notStar = true → opts f es = some as → PA X es (tIs X.K W C as)
  | [], _, _, h => by cases h; exact snd_nil
  | a :: es, as, hs, h => by
    unfold opts at h
    rw [List.all_cons, Bool.and_eq_true] at hs
    cases h1 : f a with
    | none => rw [h1] at h; cases h
    | some b =>
      cases h2 : opts f es with
      | none => rw [h1, h2] at h; cases h
      | some bs =>
        rw [h1, h2] at h
        cases h
        exact snd_cons (hf _ _ h1) (opts_pa hf hs.2 h2) (starEach_one hs.1)
theorem opts_len {α β : Type} {f : α → Option β} : ∀ {es : List α} {as : List β}, opts f es = some as → as.length = es.length
  | [], _, h => by cases h; rfl
  | a :: es, as, h => by
    unfold opts at h
    cases h1 : f a with
    | none => rw [h1] at h; cases h
    | some b =>
      cases h2 : opts f es with
      | none => rw [h1, h2] at h; cases h
      | some bs =>
        rw [h1, h2] at h
        cases h
        rw [List.length_cons, List.length_cons, opts_len h2]
theorem assignEach_name {x : Str} {p : Pos} {es : List Expr} {env : Env} : assignEach (.Name x p :: es) env = (false, assign (.Name x p) env) :: assignEach es env := rfl
theorem cNames_ok (o : XOk X W C Γ k) : ∀ {es : List Expr} {is : List Nat}, cNames Γ es = some is → PGs X es (gSets is) ∧ (assignEach es X.env).length = is.length ∧ (assignEach es X.env).findIdx? (·.1) = none
  | [], _, h => by cases h; exact ⟨pgs_nil, rfl, rfl⟩
  | e :: es, is, h => by
    cases e with
    | Name x p =>
      unfold cNames at h
      split at h
      · rename_i hx
        cases h1 : ixOf Γ.N x with
        | none => rw [h1] at h; cases h
        | some i =>
          cases h2 : cNames Γ es with
          | none => rw [h1, h2] at h; cases h
          | some js =>
            rw [h1, h2] at h
            cases h
            obtain ⟨a, b, c⟩ := cNames_ok o h2
            obtain ⟨l1, l2⟩ := o.loc hx.2
            refine ⟨pgs_cons (pg_name o.nd (o.at h1) l1 l2) a rfl, ?_, ?_⟩
            · rw [assignEach_name, List.length_cons, List.length_cons, b]
            · rw [assignEach_name, List.findIdx?_cons, c]
              rfl
      · cases h
    | _ => cases h
theorem cTg_ok (o : XOk X W C Γ k) {tg : Expr} {t : Tg} (h : cTg Γ tg = some t) : PG X tg (tTg X.K t) := by
  unfold cTg at h
  split at h
  · rename_i x p
    split at h
    · rename_i hx
      cases h1 : ixOf Γ.N x with
      | none => rw [h1] at h; cases h
      | some i =>
        rw [h1] at h
        cases h
        obtain ⟨l1, l2⟩ := o.loc hx.2
        exact snd_nm o.nd (o.at h1) l1 l2
    · cases h
  · rename_i es kk p
    cases h1 : cNames Γ es with
    | none => rw [h1] at h; cases h
    | some is =>
      rw [h1] at h
      cases h
      obtain ⟨a, b, c⟩ := cNames_ok o h1
      exact snd_tp o.calm a b c
  · cases h
theorem cTgW_ok (o : XOk X W C Γ k) {tg : Expr} {t : Tg} {ws : List Nat} (hw : ∀ i ∈ t.slots, i ∈ ws) (h : cTg Γ tg = some t) : PG X tg (tTgW X.K t ws) := by
  unfold cTg at h
  split at h
  · rename_i x p
    split at h
    · rename_i hx
      cases h1 : ixOf Γ.N x with
      | none => rw [h1] at h; cases h
      | some i =>
        rw [h1] at h
        cases h
        obtain ⟨l1, l2⟩ := o.loc hx.2
        exact snd_nmW (hw i (by simp [Tg.slots])) o.nd (o.at h1) l1 l2
    · cases h
  · rename_i es kk p
    cases h1 : cNames Γ es with
    | none => rw [h1] at h; cases h
    | some is =>
      rw [h1] at h
      cases h
      obtain ⟨a, b, c⟩ := cNames_ok o h1
      exact snd_tpW hw o.calm a b c
  · cases h
/-- the block of a comprehension -/
theorem XOk.blk (o : XOk X W C Γ k) {scope : Scope} {own : List (Str × Nat)} (b : blkC Γ.N Γ.sc scope own = true) (s : Shared) (H : Hp) (Cc : Addr) (cl : List (Str × Addr)) (fp : List Addr) :
    XOk (X.blk s H scope (compEnvC scope cl Cc X.env) fp) WF C { G := Γ.G, N := Γ.N, sc := relS scope Γ.sc, fn := fun x => scope.names.lookup x == some .cell } k := by
  have bo := blkOk_by b
  refine ⟨o.N, ?_, bo.kind, fun x h => h, o.calm, o.nd, takes_none5', PassesOwn.never, o.room, o.glb⟩
  show relabel scope X.env = relS scope Γ.sc
  rw [← o.sc]
  rfl
where takes_none5' {X : Cx} : Takes X WF := fun _ _ ⟨_, _, _, _, _, _, _, _, _, _, _, _, _, _, _, _, w⟩ => w.elim
/-- an expression as a value, as a test, as the rest of an and or an or -/
structure Gd (X : Cx) (W : WX) (C : Cl) (pe : Expr) (e : E) : Prop where
  v : PE X pe (tI X.K W C e)
  t : PT X pe (tT X.K W C e)
  w : ∀ op vs pos, pe = .BoolOp op vs pos → PW X pe (tT X.K W C e)
theorem Gd.any {pe : Expr} {e : E} (h : PE X pe (tI X.K W C e)) (he : ∀ whole, isTrue pe X.env whole = (do let v ← whole; standAt pe.pos; holding [v] (truthy v))) (hb : ∀ op vs pos, pe ≠ .BoolOp op vs pos) : Gd X W C pe e :=
  ⟨h, sndT_any h he, fun op vs pos z => absurd z (hb op vs pos)⟩
theorem sndT_ite {pa pb pc : Expr} {a b c : E} {pos : Pos} (hc : PT X pc (tT X.K W C c)) (ha : PT X pa (tT X.K W C a)) (hb : PT X pb (tT X.K W C b)) : PT X (.IfExp pc pa pb pos) (tT X.K W C (.ite c a b)) := by
  refine ⟨fun pins s σ H Q I ⟨ρ, e, h, re, rp, po⟩ => ?_⟩
  rw [tst_ite] at po
  show wpAny _ _ (do if ← isTrue pc X.env (eval pc X.env) then isTrue pa X.env (eval pa X.env) else isTrue pb X.env (eval pb X.env)) _ _ _
  refine wpAny_bind (thn (hc.run pins s σ H _ I ⟨ρ, e, h, re, rp, (PostG.bind (R := RB) po)⟩) fun d s1 ⟨H1, I1, ρ1, h1, k, x1, rp1, ek, po1⟩ => ?_)
  subst ek
  cases k with
  | true => exact ha.run pins s1 σ H1 Q I1 ⟨ρ1, e, h1, re.mono rp x1, rp1, po1⟩
  | false => exact hb.run pins s1 σ H1 Q I1 ⟨ρ1, e, h1, re.mono rp x1, rp1, po1⟩
theorem cConst_ok {c : Const} {v : MV} {j : Nat} {pos : Pos} (h : cConst c = some v) : ∃ w, PE X (.Constant c j pos) (tC w) ∧ ∀ ρ H, RepV X.K ρ H v w := by
  cases c <;> cases h
  · exact ⟨_, pe_non, fun _ _ => nonRep⟩
  · exact ⟨_, pe_bl, fun _ _ => blRep⟩
  · exact ⟨_, pe_int, fun _ _ => intRep⟩
  · exact ⟨_, pe_str, fun _ _ => strRep⟩
theorem cBi_ok (o : XOk X W C Γ k) {f : Str} {n : Nat} {b : Bi} (h : cBi f n = some b) : (∃ id, CallR X (.builtin id) (rsM X.K (biO b)) ∧ bootBuiltins f = some (.builtin id)) ∨ ∃ T, CallR X (.type T) (rsM X.K (biO b)) ∧ bootBuiltins f = some (.type T) := by
  unfold cBi at h
  split at h
  · rename_i e; subst e; split at h <;> cases h; exact .inl ⟨_, cb_len, PySem.boot_len⟩
  split at h
  · rename_i e; subst e
    split at h
    · cases h; exact .inl ⟨_, cb_min2 o.calm, by decide +kernel⟩
    · split at h <;> cases h; exact .inl ⟨_, cb_minL o.calm, by decide +kernel⟩
  split at h
  · rename_i e; subst e
    split at h
    · cases h; exact .inl ⟨_, cb_max2 o.calm, by decide +kernel⟩
    · split at h <;> cases h; exact .inl ⟨_, cb_maxL o.calm, by decide +kernel⟩
  split at h
  · rename_i e; subst e; split at h <;> cases h; exact .inl ⟨_, cb_abs, by decide +kernel⟩
  split at h
  · rename_i e; subst e; split at h <;> cases h; exact .inl ⟨_, cb_allL o.calm, by decide +kernel⟩
  split at h
  · rename_i e; subst e; split at h <;> cases h; exact .inl ⟨_, cb_anyL o.calm, by decide +kernel⟩
  split at h
  · rename_i e; subst e; split at h <;> cases h; exact .inl ⟨_, cb_sum o.calm, by decide +kernel⟩
  split at h
  · rename_i e; subst e; split at h <;> cases h; exact .inl ⟨_, cb_sorted, by decide +kernel⟩
  split at h
  · rename_i e; subst e; split at h <;> cases h; exact .inr ⟨_, ct_int, by decide +kernel⟩
  split at h
  · rename_i e; subst e; split at h <;> cases h; exact .inr ⟨_, ct_list, by decide +kernel⟩
  split at h
  · rename_i e; subst e; split at h <;> cases h; exact .inr ⟨_, ct_tuple, by decide +kernel⟩
  · cases h
theorem tyBi_ok {X : Cx} {t : Str} {b : Bi} (h : tyBi t = some b) : ∃ nm : String, CallR X (.builtin "isinstance") (fun vs H Q => ∃ x, vs = [x, .ty nm] ∧ rsM X.K (biO b) [x] H Q) ∧ bootBuiltins t = some (.type nm) ∧ t ≠ "__name__" ∧ (t == ("__debug__" : Str)) = false := by
  unfold tyBi at h
  split at h
  · rename_i e; subst e; cases h; exact ⟨"int", cb_isTy (.inl ⟨rfl, rfl⟩), by decide +kernel, by decide +kernel, by decide +kernel⟩
  split at h
  · rename_i e; subst e; cases h; exact ⟨"bool", cb_isTy (.inr ⟨rfl, rfl⟩), by decide +kernel, by decide +kernel, by decide +kernel⟩
  split at h
  · rename_i e; subst e; cases h; exact ⟨"list", cb_isTn (fun _ _ => rfl) (fun t ht => by simp only [List.mem_cons, List.not_mem_nil, or_false] at ht; rcases ht with rfl | rfl | rfl | rfl | rfl | rfl <;> exact kit_ty (by decide +kernel)), by decide +kernel, by decide +kernel, by decide +kernel⟩
  split at h
  · rename_i e; subst e; cases h; exact ⟨"tuple", cb_isTn (fun _ _ => rfl) (fun t ht => by simp only [List.mem_cons, List.not_mem_nil, or_false] at ht; rcases ht with rfl | rfl | rfl | rfl | rfl | rfl <;> exact kit_ty (by decide +kernel)), by decide +kernel, by decide +kernel, by decide +kernel⟩
  split at h
  · rename_i e; subst e; cases h; exact ⟨"str", cb_isTn (fun _ _ => rfl) (fun t ht => by simp only [List.mem_cons, List.not_mem_nil, or_false] at ht; rcases ht with rfl | rfl | rfl | rfl | rfl | rfl <;> exact kit_ty (by decide +kernel)), by decide +kernel, by decide +kernel, by decide +kernel⟩
  · cases h
theorem cMt_ok {m : Str} {n : Nat} {t : Mt} (h : cMt m n = some t) : ∃ id, Slot "list" m id ∧ typeOf (.builtin id) = pure (.type "method_descriptor") ∧ MtR X id (rmM X.K (mtO t)) ∧ n ≤ 1 := by
  unfold cMt at h
  split at h
  · rename_i e; subst e
    split at h
    · rename_i en
      cases h
      exact ⟨_, PySem.F.slot_list_append, PySem.F.type_list_append, mt_appendM, by omega⟩
    · cases h
  split at h
  · rename_i e; subst e
    split at h
    · rename_i en
      cases h
      exact ⟨_, PySem.F.slot_list_pop, PySem.F.type_list_pop, mt_popM, by omega⟩
    split at h
    · rename_i en
      cases h
      exact ⟨_, PySem.F.slot_list_pop, PySem.F.type_list_pop, mt_popAtM, by omega⟩
    · cases h
  · cases h
theorem cIt_ok {X : Cx} {W : WX} {C : Cl} {Γ : Gm} {k : Nat} (o : XOk X W C Γ k) {f : Expr → Option E} (hf : ∀ pe e, f pe = some e → PE X pe (tI X.K W C e)) {tg it : Expr} {ik : IK} {as : List E} (h : cIt Γ f it = some (ik, as)) : PI X tg it (tIt X.K W C ik as) := by
  have gen : (f it).map (fun a => ((.val, [a]) : IK × List E)) = some (ik, as) → PI X tg it (tIt X.K W C ik as) := fun h => by
    cases h1 : f it with
    | none => rw [h1] at h; cases h
    | some a =>
      rw [h1] at h
      cases h
      exact snd_itV (hf _ _ h1)
  unfold cIt at h
  split at h
  · rename_i x p a pos
    split at h
    · rename_i e
      subst e
      split at h
      · rename_i hx
        cases h1 : f a with
        | none => rw [h1] at h; cases h
        | some b =>
          rw [h1] at h
          cases h
          exact snd_rng1 (o.gl hx.1) (o.glb.free _ hx.2.2.1) (hf _ _ h1) (by rw [starEach_one hx.2.2.2]; rfl)
      · cases h
    · exact gen h
  · rename_i x p a b pos
    split at h
    · rename_i e
      subst e
      split at h
      · rename_i hx
        cases h1 : f a with
        | none => rw [h1] at h; cases h
        | some a' =>
          cases h2 : f b with
          | none => rw [h1, h2] at h; cases h
          | some b' =>
            rw [h1, h2] at h
            cases h
            exact snd_rng2 (o.gl hx.1) (o.glb.free _ hx.2.2.1) (hf _ _ h1) (hf _ _ h2) (by rw [starEach_one hx.2.2.2.1, starEach_one hx.2.2.2.2]; rfl) (by rw [starEach_one hx.2.2.2.2]; rfl)
      · cases h
    · exact gen h
  · exact gen h
theorem comp_parts {n : Nat} {X : Cx} {W : WX} {C : Cl} {Γ : Gm} {k : Nat} (o : XOk X W C Γ k) (ih : ∀ {X : Cx} {W : WX} {Γ : Gm}, XOk X W C Γ k → ∀ {pe : Expr} {e : E}, cE Γ n pe = some e → Gd X W C pe e)
    {elt : Expr} {gs : List Comprehension} {scope : Scope} {pos : Pos} {e : E} (h : cE Γ (n + 1) (.ListComp elt gs scope pos) = some e) :
    ∃ (tg it : Expr) (ifs : List Expr) (wi : TI) (g : TG) (tt : TT) (te : TE) (own : List (Str × Nat)), gs = [⟨tg, it, ifs, 0⟩] ∧ PI X tg it wi ∧ BlkOk X.N X.env.scope scope own ∧
      (∀ (s : Shared) (H : Hp) (Cc : Addr) (cl : List (Str × Addr)) (fp : List Addr), PG (X.blk s H scope (compEnvC scope cl Cc X.env) fp) tg g) ∧
      (∀ (s : Shared) (H : Hp) (Cc : Addr) (cl : List (Str × Addr)) (fp : List Addr), PTs (X.blk s H scope (compEnvC scope cl Cc X.env) fp) ifs tt) ∧
      (∀ (s : Shared) (H : Hp) (Cc : Addr) (cl : List (Str × Addr)) (fp : List Addr), PE (X.blk s H scope (compEnvC scope cl Cc X.env) fp) elt te) ∧
      (∀ x, foldedSetIterable it X.env x = pure x) ∧ ∀ σ H Q, tI X.K W C e σ H Q → tLc wi g tt te (own.map (·.2)) σ H Q := by
  have ihv : ∀ pe e, cE Γ n pe = some e → PE X pe (tI X.K W C e) := fun pe e h => (ih o h).v
  unfold cE at h
  split at h <;> try (rename_i hk; cases hk; done)
  case h_19 elt tg it ifs z scope p heq =>
    cases heq
    simp only at h
    split at h
    · rename_i hx
      obtain ⟨rfl, hb⟩ := hx
      split at h
      · rename_i ik as t el hit htg hel
        split at h
        · rename_i hw
          have hw' : ∀ i ∈ t.slots, i ∈ (ownOf Γ.N scope.names).map (·.2) := fun i hi => by
            have := List.all_eq_true.mp hw i hi
            simpa using this
          have bo := blkOk_by hb
          have bo : BlkOk X.N X.env.scope scope (ownOf Γ.N scope.names) := by rw [o.N, o.sc]; exact bo
          have pi : PI X tg it (tIt X.K W C ik as) := cIt_ok o ihv hit
          have hset : ∀ es kk pp, it ≠ .Set es kk pp := fun es kk pp z => by
            subst z
            have q : (cE Γ n (.Set es kk pp)).map (fun a => ((.val, [a]) : IK × List E)) = some (ik, as) := hit
            cases n with
            | zero => cases q
            | succ n => cases q
          split at h
          · cases h
            refine ⟨tg, it, [], tIt X.K W C ik as, tTgW X.K t ((ownOf Γ.N scope.names).map (·.2)), tYes, tI X.K WF C el, ownOf Γ.N scope.names, rfl, pi, bo, fun s H Cc cl fp => cTgW_ok (o.blk hb s H Cc cl fp) hw' htg, fun s H Cc cl fp => pts_nil, fun s H Cc cl fp => (ih (o.blk hb s H Cc cl fp) hel).v, fold_of hset, fun σ H Q ⟨ρ, e, h, re, rp, po⟩ => ?_⟩
            simp only [E.den] at po
            exact lc_ok (fun σ2 H2 ρ2 e2 h2 Qb re2 rp2 po2 => po2.here rp2 rfl) ⟨ρ, e, h, re, rp, po⟩
          · rename_i c
            cases h1 : cE { G := Γ.G, N := Γ.N, sc := relS scope Γ.sc, fn := fun x => scope.names.lookup x == some .cell } n c with
            | none => rw [h1] at h; cases h
            | some c' =>
              rw [h1] at h
              cases h
              refine ⟨tg, it, [c], tIt X.K W C ik as, tTgW X.K t ((ownOf Γ.N scope.names).map (·.2)), tT X.K WF C c', tI X.K WF C el, ownOf Γ.N scope.names, rfl, pi, bo, fun s H Cc cl fp => cTgW_ok (o.blk hb s H Cc cl fp) hw' htg, fun s H Cc cl fp => pts_one (ih (o.blk hb s H Cc cl fp) h1).t, fun s H Cc cl fp => (ih (o.blk hb s H Cc cl fp) hel).v, fold_of hset, fun σ H Q ⟨ρ, e, h, re, rp, po⟩ => ?_⟩
              simp only [E.den] at po
              exact lc_ok (fun σ2 H2 ρ2 e2 h2 Qb re2 rp2 po2 => ⟨ρ2, e2, h2, re2, rp2, po2⟩) ⟨ρ, e, h, re, rp, po⟩
          · cases h
        · cases h
      · cases h
    · cases h
  case h_20 => cases h
theorem cE_ok : ∀ (n : Nat) {X : Cx} {W : WX} {C : Cl} {Γ : Gm} {k : Nat} (o : XOk X W C Γ k) {pe : Expr} {e : E}, cE Γ n pe = some e → Gd X W C pe e
  | 0, _, _, _, _, _, _, _, _, h => by cases h
  | n + 1, X, W, C, Γ, k, o, pe, e, h => by
    have ih := fun {pe : Expr} {e : E} (h : cE Γ n pe = some e) => cE_ok n o h
    have ihv : ∀ pe e, cE Γ n pe = some e → PE X pe (tI X.K W C e) := fun pe e h => (ih h).v
    unfold cE at h
    split at h
    case h_1 c j p =>
      cases h1 : cConst c with
      | none => rw [h1] at h; cases h
      | some v =>
        rw [h1] at h
        cases h
        obtain ⟨w, a, b⟩ := cConst_ok (X := X) (j := j) (pos := p) h1
        exact .any (snd_lit a b) (fun _ => rfl) (fun _ _ _ z => nomatch z)
    case h_2 x p =>
      split at h
      · rename_i hx
        obtain ⟨p1, p2, p3⟩ := plainNm_ok hx
        split at h
        · rename_i hv
          cases h1 : ixOf Γ.N x with
          | none => rw [h1] at h; cases h
          | some i =>
            rw [h1] at h
            cases h
            exact .any (snd_var (o.at h1) (o.vis hv) p1 p2) (fun _ => rfl) (fun _ _ _ z => nomatch z)
        · split at h
          · rename_i hg
            cases h1 : Γ.G.consts.lookup x with
            | none => rw [h1] at h; cases h
            | some v =>
              rw [h1] at h
              cases h
              obtain ⟨u, w, a, b, c⟩ := o.glb.cst x v h1
              exact .any (snd_lit (pe_glob (o.gl hg) a b p1) c) (fun _ => rfl) (fun _ _ _ z => nomatch z)
          · cases h
      · cases h
    case h_3 a op b p =>
      cases h1 : cBop op with
      | none => rw [h1] at h; cases h
      | some op' =>
        cases h2 : cE Γ n a with
        | none => rw [h1, h2] at h; cases h
        | some a' =>
          cases h3 : cE Γ n b with
          | none => rw [h1, h2, h3] at h; cases h
          | some b' =>
            rw [h1, h2, h3] at h
            cases h
            rw [cBop_ok h1]
            exact .any (snd_bin op' (ihv _ _ h2) (ihv _ _ h3)) (fun _ => rfl) (fun _ _ _ z => nomatch z)
    case h_4 a p =>
      cases h2 : cE Γ n a with
      | none => rw [h2] at h; cases h
      | some a' =>
        rw [h2] at h
        cases h
        exact .any (snd_neg (ihv _ _ h2)) (fun _ => rfl) (fun _ _ _ z => nomatch z)
    case h_5 a p =>
      cases h2 : cE Γ n a with
      | none => rw [h2] at h; cases h
      | some a' =>
        rw [h2] at h
        cases h
        exact ⟨snd_not (ihv _ _ h2), sndT_not (ih h2).t, fun _ _ _ z => nomatch z⟩
    case h_6 a op b p =>
      split at h
      · rename_i hm
        cases h1 : cCop op with
        | none => rw [h1] at h; cases h
        | some op' =>
          cases h2 : cE Γ n a with
          | none => rw [h1, h2] at h; cases h
          | some a' =>
            cases h3 : cE Γ n b with
            | none => rw [h1, h2, h3] at h; cases h
            | some b' =>
              rw [h1, h2, h3] at h
              cases h
              rw [cCop_ok h1] at hm ⊢
              exact ⟨snd_cmp o.hu op' hm (ihv _ _ h2) (ihv _ _ h3), sndT_cmp o.hu op' hm (ihv _ _ h2) (ihv _ _ h3), fun _ _ _ z => nomatch z⟩
      · cases h
    case h_7 a op op2 b c p =>
      split at h
      · rename_i hm
        cases h1 : cCop op with
        | none => rw [h1] at h; cases h
        | some op' =>
          cases h1' : cCop op2 with
          | none => rw [h1, h1'] at h; cases h
          | some op2' =>
            cases h2 : cE Γ n a with
            | none => rw [h1, h1', h2] at h; cases h
            | some a' =>
              cases h3 : cE Γ n b with
              | none => rw [h1, h1', h2, h3] at h; cases h
              | some b' =>
                cases h4 : cE Γ n c with
                | none => rw [h1, h1', h2, h3, h4] at h; cases h
                | some c' =>
                  rw [h1, h1', h2, h3, h4] at h
                  cases h
                  rw [cCop_ok h1, cCop_ok h1'] at hm ⊢
                  exact ⟨snd_cmp2 o.hu op' op2' hm (ihv _ _ h2) (ihv _ _ h3) (ihv _ _ h4), sndT_cmp2 o.hu op' op2' hm (ihv _ _ h2) (ihv _ _ h3) (ihv _ _ h4), fun _ _ _ z => nomatch z⟩
      · cases h
    case h_8 a p =>
      have g := ih h
      exact ⟨pe_one g.v, (pw_and1 g.t).pt, fun op vs pos z => pw_and1 g.t⟩
    case h_9 a p =>
      have g := ih h
      exact ⟨pe_one g.v, (pw_or1 g.t).pt, fun op vs pos z => pw_or1 g.t⟩
    case h_10 a b r p =>
      cases h2 : cE Γ n a with
      | none => rw [h2] at h; cases h
      | some a' =>
        cases h3 : cE Γ n (.BoolOp .And (b :: r) p) with
        | none => rw [h2, h3] at h; cases h
        | some b' =>
          rw [h2, h3] at h
          cases h
          have g1 := ih h2
          have g2 := ih h3
          have pw := sndW_and (pos := p) g1.t (g2.w _ _ _ rfl)
          exact ⟨snd_and g1.v g2.v, pw.pt, fun _ _ _ _ => pw⟩
    case h_11 a b r p =>
      cases h2 : cE Γ n a with
      | none => rw [h2] at h; cases h
      | some a' =>
        cases h3 : cE Γ n (.BoolOp .Or (b :: r) p) with
        | none => rw [h2, h3] at h; cases h
        | some b' =>
          rw [h2, h3] at h
          cases h
          have g1 := ih h2
          have g2 := ih h3
          have pw := sndW_or (pos := p) g1.t (g2.w _ _ _ rfl)
          exact ⟨snd_or g1.v g2.v, pw.pt, fun _ _ _ _ => pw⟩
    case h_12 c a b p =>
      cases h1 : cE Γ n c with
      | none => rw [h1] at h; cases h
      | some c' =>
        cases h2 : cE Γ n a with
        | none => rw [h1, h2] at h; cases h
        | some a' =>
          cases h3 : cE Γ n b with
          | none => rw [h1, h2, h3] at h; cases h
          | some b' =>
            rw [h1, h2, h3] at h
            cases h
            exact ⟨snd_ite (ih h1).t (ihv _ _ h2) (ihv _ _ h3), sndT_ite (ih h1).t (ih h2).t (ih h3).t, fun _ _ _ z => nomatch z⟩
    case h_13 es kk p =>
      split at h
      · rename_i hs
        cases h1 : opts (cE Γ n) es with
        | none => rw [h1] at h; cases h
        | some as =>
          rw [h1] at h
          cases h
          exact .any (snd_tup (opts_pa ihv hs h1)) (fun _ => rfl) (fun _ _ _ z => nomatch z)
      · cases h
    case h_14 es p =>
      split at h
      · rename_i hs
        cases h1 : opts (cE Γ n) es with
        | none => rw [h1] at h; cases h
        | some as =>
          rw [h1] at h
          cases h
          exact .any (snd_lst (opts_pa ihv hs h1)) (fun _ => rfl) (fun _ _ _ z => nomatch z)
      · cases h
    case h_15 a lo hi p2 p =>
      cases h1 : cE Γ n a with
      | none => rw [h1] at h; cases h
      | some a' =>
        rw [h1] at h
        have part : ∀ {x : Option Expr} {y : Option E}, (match x with
            | none => some none
            | some l => (cE Γ n l).map some) = some y → PO X x (tO X.K W C y) := fun {x y} hx => by
          cases x with
          | none => cases hx; exact snd_none
          | some l =>
            cases h2 : cE Γ n l with
            | none => simp [h2] at hx
            | some l' =>
              simp [h2] at hx
              subst hx
              exact snd_some (ihv _ _ h2)
        split at h
        · rename_i e1 e2 e3
          cases e1
          cases h
          exact .any (snd_sl (ihv _ _ h1) (part e2) (part e3)) (fun _ => rfl) (fun _ _ _ z => nomatch z)
        · cases h
    case h_16 a b p _ =>
      split at h
      · rename_i hs
        cases h2 : cE Γ n a with
        | none => rw [h2] at h; cases h
        | some a' =>
          cases h3 : cE Γ n b with
          | none => rw [h2, h3] at h; cases h
          | some b' =>
            rw [h2, h3] at h
            cases h
            exact .any (snd_ix (plainIx_of hs) (ihv _ _ h2) (ihv _ _ h3)) (fun _ => rfl) (fun _ _ _ z => nomatch z)
      · cases h
    case h_17 f p es pos =>
      split at h
      · rename_i hx
        obtain ⟨hp, hg, hs⟩ := hx
        obtain ⟨p1, p2, p3⟩ := plainNm_ok hp
        have gen : ∀ b, cBi f es.length = some b → ∀ as, opts (cE Γ n) es = some as → Γ.G.free.contains f = true → Gd X W C (.Call (.Name f p) es [] pos) (.bi b as) := fun b hb as ha hf => by
          have hne : es ≠ [] := fun z => by
            subst z
            unfold cBi at hb
            simp at hb
          cases es with
          | nil => exact absurd rfl hne
          | cons x xs =>
            have hs' := hs
            rw [List.all_cons, Bool.and_eq_true] at hs'
            rcases cBi_ok o hb with ⟨id, hc, hv⟩ | ⟨T, hc, hv⟩
            · exact .any (snd_bi hc (o.gl hg) (o.glb.free _ hf) hv (opts_pa ihv hs ha) p3 p1 (starEach_one hs'.1) (star_plain hs'.2)) (fun _ => rfl) (fun _ _ _ z => nomatch z)
            · exact .any (snd_ty hc (o.gl hg) (o.glb.free _ hf) hv (opts_pa ihv hs ha) p3 p1 (starEach_one hs'.1) (star_plain hs'.2)) (fun _ => rfl) (fun _ _ _ z => nomatch z)
        split at h
        · rename_i i hi
          cases h1 : opts (cE Γ n) es with
          | none => rw [h1] at h; cases h
          | some as =>
            rw [h1] at h
            cases h
            obtain ⟨fa, fd, ps, a1, a2, a3, a4⟩ := o.glb.fn i f hi
            cases es with
            | nil =>
              cases h1
              exact .any (snd_call0 a4 o.room (o.gl hg) a1 a2 a3 o.tk p1) (fun _ => rfl) (fun _ _ _ z => nomatch z)
            | cons x xs =>
              have hs' := hs
              rw [List.all_cons, Bool.and_eq_true] at hs'
              exact .any (snd_call a4 o.room (o.gl hg) a1 a2 a3 o.tk (opts_pa ihv hs h1) p1 (starEach_one hs'.1) (star_plain hs'.2)) (fun _ => rfl) (fun _ _ _ z => nomatch z)
        · split at h
          · rename_i hf
            split at h
            · rename_i a t tp
              split at h
              · rename_i ef
                subst ef
                split at h
                · rename_i ht
                  rw [List.all_cons, Bool.and_eq_true] at hs
                  have hs1 : starEach [Expr.Name t tp] X.env = [(false, eval (.Name t tp) X.env)] := rfl
                  have hs2 : starEach [a, Expr.Name t tp] X.env = [(false, eval a X.env), (false, eval (.Name t tp) X.env)] := by rw [starEach_one hs.1]; rfl
                  split at h
                  · rename_i b a' hb h1
                    cases h
                    obtain ⟨nm, q1, q2, q3, q4⟩ := tyBi_ok (X := X) hb
                    exact .any (snd_isTy q1 (o.gl hg) (o.glb.free _ hf) (by decide +kernel) (ihv _ _ h1) (pe_bltn (u := .type nm) (o.gl ht.1) (o.glb.free _ ht.2.2) q2 rfl q3 q4) p3 p1 hs2 hs1) (fun _ => rfl) (fun _ _ _ z => nomatch z)
                  · cases h
                · cases h
              · split at h
                · rename_i b as hb ha
                  cases h
                  exact gen b hb as ha hf
                · cases h
            · split at h
              · rename_i b as hb ha
                cases h
                exact gen b hb as ha hf
              · cases h
          · cases h
      · cases h
    case h_18 ob m ap es pos =>
      split at h
      · rename_i hx
        obtain ⟨hs, ho, hl⟩ := hx
        split at h
        · rename_i t a as ht ha has
          cases h
          obtain ⟨id, a1, a2, a3, a4⟩ := cMt_ok (X := X) ht
          have base : attributeBase ob m X.env (eval ob X.env) = eval ob X.env := base_of ho
          cases es with
          | nil =>
            cases has
            exact .any (snd_mt0 a1 a2 a3 (ihv _ _ ha) base hl) (fun _ => rfl) (fun _ _ _ z => nomatch z)
          | cons x xs =>
            cases xs with
            | nil =>
              rw [List.all_cons, Bool.and_eq_true] at hs
              unfold opts at has
              cases h1 : cE Γ n x with
              | none => rw [h1] at has; cases has
              | some x' =>
                rw [h1] at has
                cases has
                exact .any (snd_mt1 a1 a2 a3 (ihv _ _ ha) base hl (ihv _ _ h1) (by rw [starEach_one hs.1]; rfl)) (fun _ => rfl) (fun _ _ _ z => nomatch z)
            | cons _ _ => simp at a4
        · cases h
      · cases h
    case h_19 elt tg it ifs z scope p =>
      obtain ⟨tg', it', ifs', wi, g, tt, te, own, eg, q1, q2, q3, q4, q5, q6, q7⟩ := comp_parts (n := n) (X := X) (W := W) (C := C) (Γ := Γ) (pos := p) o (fun o => cE_ok n o) (elt := elt) (gs := [⟨tg, it, ifs, z⟩]) (scope := scope) (e := e) (by unfold cE; exact h)
      cases eg
      exact .any (PEi (pe_lc o.calm o.nd q1 q2 q3 q4 q5 q6) q7) (fun _ => rfl) (fun _ _ _ z => nomatch z)
    case h_20 => cases h
end
end MP
end
section
set_option Elab.async false
set_option linter.all false
set_option maxRecDepth 100000
set_option maxHeartbeats 4000000
/-! MP, part i: statements, defs. -/
namespace MP
open PySem PySem.Spec PyProof.Rows L2

section
variable {X : Cx} {W : WX} {C : Cl} {Γ : Gm} {k : Nat}
theorem sw_none {pe : Expr} {tg : Option Expr} {l : Nat} {env : Env} (h : isComp pe = false) : swapsWith pe tg l env = pure false := by
  cases pe <;> first | rfl | cases h
theorem comp_E {n : Nat} {pe : Expr} {e : E} (h : cE Γ n pe = some e) (hc : isComp pe = true) : ∃ elt gs scope pos, pe = .ListComp elt gs scope pos := by
  cases pe with
  | ListComp elt gs scope pos => exact ⟨elt, gs, scope, pos, rfl⟩
  | SetComp _ _ _ _ => cases n <;> cases h
  | DictComp _ _ _ _ _ => cases n <;> cases h
  | _ => cases hc
theorem sw_comp (o : XOk X W C Γ k) {elt : Expr} {gs : List Comprehension} {scope : Scope} {pos : Pos} {tg : Expr} {l : Nat} : swapsWith (.ListComp elt gs scope pos) (some tg) l X.env = pure (swB Γ tg (.ListComp elt gs scope pos)) := by
  cases tg with
  | Name y py =>
    have hb : X.env.blockKind = .function := by
      unfold Env.blockKind
      rw [o.sc, o.knd]
      rfl
    have hk : X.env.kindOf y = Γ.sc.names.lookup y := by rw [← o.sc]; rfl
    unfold swapsWith swB
    simp only [hb, hk, Expr.pos]
    have e : ∀ z : Option NameKind, (z == some NameKind.local) = decide (z = some .local) := fun z => by
      cases z with
      | none => rfl
      | some z => cases z <;> rfl
    rw [e]
    simp
  | _ => rfl
theorem swst_none {tg pe : Expr} {env : Env} (h : (isTuple tg && isTuple pe) = false) : swappedStores [tg] pe env = pure none := by
  cases tg <;> first
    | rfl
    | (cases pe <;> first | rfl | cases h)
theorem ae_one {tg : Expr} {env : Env} {t : Tg} (h : cTg Γ tg = some t) : (assignEach [tg] env).map (·.2) = [assign tg env] := by
  cases tg with
  | Name _ _ => rfl
  | Tuple _ _ _ => rfl
  | _ => cases h
theorem sw_par {x y : Str} {px py pt pt2 : Pos} {kt k2 : Nat} {a b : Expr} (o : XOk X W C Γ k) (hx : X.env.scope.names.lookup x = some .local) (hy : X.env.scope.names.lookup y = some .local) (hxy : x ≠ y) (hl : (px.line == py.line) = true) (ha : notStar a = true) (hb : notStar b = true)
    (hf : (([a, b].all (foldedForSure 8)) || ([a, b].all (constantsAlone 8))) = false) : swappedStores [.Tuple [.Name x px, .Name y py] kt pt] (.Tuple [a, b] k2 pt2) X.env = pure (some [x, y]) := by
  have hbk : X.env.blockKind = .function := by
    unfold Env.blockKind
    rw [o.sc, o.knd]
    rfl
  have k1 : X.env.kindOf x = some .local := hx
  have k2 : X.env.kindOf y = some .local := hy
  have hlp : px.line = py.line := by simpa using hl
  rw [Bool.or_eq_false_iff] at hf
  unfold swappedStores
  have hyx : (y == x) = false := by simpa using fun z => hxy z.symm
  simp [hbk, k1, k2, hlp, hxy, hf.1, hf.2, Expr.pos, List.eraseDups_cons, bind, pure, hyx]
  constructor
  · cases a <;> first | rfl | cases ha
  · cases b <;> first | rfl | cases hb
theorem map_ok {f : Stmt → S} (hf : ∀ st, PS X st (tS X.K W C (f st))) : ∀ sts : List Stmt, PSs X sts (tSs X.K W C (sts.map f))
  | [] => snd_snil
  | st :: r => snd_scons (hf st) (map_ok hf r)
theorem cS_ok : ∀ (n : Nat) {X : Cx} {W : WX} {C : Cl} {Γ : Gm} {k : Nat} (o : XOk X W C Γ k) (st : Stmt), PS X st (tS X.K W C (cS Γ n st))
  | 0, _, _, _, _, _, _, _ => snd_bad
  | n + 1, X, W, C, Γ, k, o, st => by
    have ih : ∀ sts : List Stmt, PSs X sts (tSs X.K W C (sts.map (cS Γ n))) := map_ok fun st => cS_ok n o st
    have ihe : ∀ pe e, cE Γ n pe = some e → PE X pe (tI X.K W C e) := fun pe e h => (cE_ok n o h).v
    unfold cS
    split
    · exact snd_pass
    · exact snd_brk
    · exact snd_cont
    · exact snd_doc
    · rename_i e p _
      split
      · exact snd_bad
      · rename_i hc
        split
        · rename_i a ha
          exact snd_expr (ihe _ _ ha) (sw_none (by simpa using hc))
        · exact snd_bad
    · exact snd_retN
    · split
      · rename_i a ha
        exact snd_ret (ihe _ _ ha)
      · exact snd_bad
    · split
      · rename_i c hc
        exact snd_iff (cE_ok n o hc).t (ih _) (ih _)
      · exact snd_bad
    · split
      · rename_i c hc
        exact snd_whl o.own (cE_ok n o hc).t (ih _)
      · exact snd_bad
    · rename_i tg it b p
      split
      · rename_i t ik as ht hi
        refine snd_for o.own o.calm (cIt_ok o ihe hi) (cTg_ok o ht) (ih _) (fold_of fun es kk pp z => ?_)
        subst z
        have q : (cE Γ n (.Set es kk pp)).map (fun a => ((.val, [a]) : IK × List E)) = some (ik, as) := hi
        cases n with
        | zero => cases q
        | succ n => cases q
      · exact snd_bad
    · rename_i ob i p e pos
      split
      · rename_i hx
        split
        · rename_i o' i' e' h1 h2 h3
          have hsl : ∀ v, assign (.Subscript ob i p) X.env v = (do
              let ov ← holding [v] (eval ob X.env)
              let iv ← holding [v, ov] (eval i X.env)
              standAt p
              holding [v, ov, iv] (setItem ov iv v)
              release [v, ov, iv] []) := by
            intro v
            cases i <;> first | rfl | cases hx.1
          refine snd_setIx (ihe _ _ h3) (ihe _ _ h1) (ihe _ _ h2) hsl ?_ rfl
          unfold swapsWithSole
          exact sw_none hx.2
        · exact snd_bad
      · exact snd_bad
    · rename_i tg e pos _
      split
      · rename_i htt
        split
        · rename_i x px y py kt pt a b k2 pt2 _
          split
          · rename_i hx
            simp only [Bool.and_eq_true, Bool.not_eq_true', decide_eq_true_eq] at hx
            obtain ⟨hx1, hy1, hl, hpx, hpy, hna, hnb, hf⟩ := hx
            split
            · rename_i i j a' b' h1 h2 h3 h4
              split
              · exact snd_bad
              · rename_i hij
                have hxy : x ≠ y := fun z => hij (by rw [z, h2] at h1; exact (Option.some.inj h1).symm)
                have hx' : X.env.scope.names.lookup x = some .local := by rw [o.sc]; exact hx1
                have hy' : X.env.scope.names.lookup y = some .local := by rw [o.sc]; exact hy1
                exact snd_par o.calm o.nd (o.at h1) (o.at h2) hij hx' hy' (ihe _ _ h3) (ihe _ _ h4) (by rw [starEach_one hna, starEach_one hnb]; rfl) (by rw [starEach_one hnb]; rfl) (sw_par o hx' hy' hxy hl hna hnb hf)
            · exact snd_bad
          · exact snd_bad
        · exact snd_bad
      · rename_i htt
        have htt : (isTuple tg && isTuple e) = false := by simpa using htt
        split
        · rename_i t a ht ha
          cases hc : isComp e with
          | false =>
            refine snd_asg (ihe _ _ ha) (cTg_ok o ht) ?_ (swst_none htt) (ae_one ht)
            unfold swapsWithSole
            exact sw_none hc
          | true =>
            obtain ⟨elt, gs, scope, ep, rfl⟩ := comp_E ha hc
            cases hsw : swB Γ tg (.ListComp elt gs scope ep) with
            | false =>
              refine snd_asg (ihe _ _ ha) (cTg_ok o ht) ?_ (swst_none htt) (ae_one ht)
              simp only [swapsWithSole]
              rw [sw_comp o, hsw]
            | true =>
              cases tg with
              | Name y py =>
                cases n with
                | zero => cases ha
                | succ n =>
                  obtain ⟨tg', it', ifs', wi, g, tt, te, own, rfl, q1, q2, q3, q4, q5, q6, q7⟩ := comp_parts o (fun o => cE_ok n o) ha
                  unfold cTg at ht
                  simp only at ht
                  split at ht
                  · rename_i hy
                    cases h1 : ixOf Γ.N y with
                    | none => rw [h1] at ht; cases ht
                    | some i =>
                      rw [h1] at ht
                      cases ht
                      have hsw' := hsw
                      unfold swB at hsw'
                      simp only [Bool.and_eq_true, decide_eq_true_eq] at hsw'
                      have hyl : X.env.scope.names.lookup y = some .local := by rw [o.sc]; exact hsw'.1.1
                      refine PSi (ps_setLc o.calm o.nd (o.at h1) hyl (by rw [sw_comp o, hsw]) q1 q2 q3 q4 q5 q6) fun D σ H hq => ?_
                      obtain ⟨ρ, e, h, re, rp, po⟩ := hq
                      simp only [S.den] at po
                      refine q7 _ _ _ ⟨ρ, e, h, re, rp, (PostS.sr (R := RepV X.K) re rp po).imp fun x H1 ⟨ρ1, h1, mx, x1, rp1, qx, re1, po1⟩ => ?_⟩
                      exact po1 ρ1 H1 _ .refl rp1 (re1.set i qx)
                  · cases ht
              | _ => cases hsw
        · exact snd_bad
    · rename_i x p op e pos
      split
      · rename_i hx
        split
        · rename_i i op' a h1 h2 h3
          obtain ⟨l1, l2⟩ := o.loc hx.2
          rw [cBop_ok h2]
          exact snd_aug o.nd (o.at h1) l1 l2 (ihe _ _ h3)
        · exact snd_bad
      · exact snd_bad
    · exact snd_bad
end

/-! ### defs -/
/-- what the top says of a def -/
structure DSrc where
  params : Arguments
  body : List Stmt
  scope : Scope
def srcOf : Stmt → Option (Str × DSrc)
  | .FunctionDef x a b _ _ _ sc _ _ _ => some (x, ⟨a, b, sc⟩)
  | _ => none
/-- plain parameters -/
def psOf (a : Arguments) : Option (List Str) := match a with
  | ⟨[], as, none, [], [], none, []⟩ => some (as.map (·.arg))
  | _ => none
def scopeB (N P : List Str) (sc : Scope) : Bool :=
  (match sc.kind with
    | .function => true
    | _ => false) && (!sc.isCoroutine && (!sc.isGenerator && (decide N.Nodup && (decide (N.take P.length = P) && ((P.all fun x => match sc.names.lookup x with
    | some .local => true
    | some .cell => true
    | _ => false) && (sc.names.all fun y => match y.2 with
    | .free => false
    | _ => true))))))
theorem scopeB_ok {N P : List Str} {sc : Scope} (h : scopeB N P sc = true) : FnScope N P sc := by
  unfold scopeB at h
  simp only [Bool.and_eq_true, Bool.not_eq_true', decide_eq_true_eq, List.all_eq_true] at h
  obtain ⟨h1, h2, h3, h4, h5, h6, h7⟩ := h
  refine ⟨?_, h2, h3, h4, h5, fun x hx => ?_, fun y hy e => ?_⟩
  · split at h1
    · assumption
    · cases h1
  · have := h6 x hx
    split at this
    · left; assumption
    · right; assumption
    · cases this
  · have := h7 y hy
    rw [e] at this
    cases this
/-- a def of the text is the one of the small language -/
def fnB (G : Ge) (st : Stmt) (f : Fn) : Prop := match srcOf st with
  | some (x, s) => x = Str.ofString f.name ∧ psOf s.params = some (f.ps.map Str.ofString) ∧ scopeB ((f.ps ++ f.loc).map Str.ofString) (f.ps.map Str.ofString) s.scope = true ∧
    s.body.map (cS { G := G, N := (f.ps ++ f.loc).map Str.ofString, sc := s.scope, fn := fun _ => true } 60) = f.body
  | none => False
section
variable {P : Program} {w : World} {K : PySem.W.Frag} {mg : Str → Option Value} {base : Heap}
theorem spI_len {T : List Fn} {d i : Nat} {f : Fn} (hf : T[i]? = some f) {vs : List V} {H : Hp} {Q : VK} {Ex : XK} (h : spI K (callD T d) i vs H Q Ex) : vs.length = f.ps.length := by
  obtain ⟨ρ, h, xs, rp, qs, po⟩ := h
  cases d with
  | zero => exact po.elim
  | succ d =>
    unfold callD at po
    rw [hf] at po
    simp only at po
    split at po
    · rename_i e
      rw [qs.length, e]
    · exact po.elim
theorem renv_start {ρ : List Addr} {H : Hp} {xs : List MV} {vs : List V} (qs : RepVs K ρ H xs vs) (N : List Str) (n : Nat) (hn : n = N.length) : REnv K ρ H (xs.map some ++ List.replicate (n - xs.length) none) (L2.start N vs) := by
  unfold L2.start
  refine ⟨by simp [qs.length, hn], fun i v e => ?_⟩
  by_cases hi : i < xs.length
  · rw [List.getElem?_append_left (by simpa using hi), List.getElem?_map] at e
    cases e2 : xs[i]? with
    | none => rw [e2] at e; cases e
    | some x =>
      rw [e2] at e
      cases e
      obtain ⟨u, eu, qu⟩ := qs.get e2
      refine ⟨u, ?_, qu⟩
      rw [List.getElem?_append_left (by simp [qs.length]; exact hi), List.getElem?_map, eu]
      rfl
  · rw [List.getElem?_append_right (by simpa using hi), List.getElem?_replicate] at e
    split at e <;> cases e
theorem def_ok {G : Ge} {T : List Fn} {d i : Nat} {f : Fn} {st : Stmt} {src : DSrc} {x : Str} {fa : Addr} {fd : FuncData} (hs : srcOf st = some (x, src)) (hf : T[i]? = some f) (hb : fnB G st f)
    (F : FunD K x x src.params src.body src.scope [] [] fa fd) (glb : GOk P w K mg base (callD T d) G d) :
    FnOk P w K mg base (L2.CX P w) (d + 1) fa fd (f.ps.map Str.ofString) (spI K (callD T (d + 1)) i) := by
  unfold fnB at hb
  rw [hs] at hb
  obtain ⟨_, hps, hsc, hbd⟩ := hb
  have S := scopeB_ok hsc
  refine F.ok S (fun vs H Q Ex h => by rw [spI_len hf h, List.length_map]) (fun cdv A outer s H vs Q Ex hr h => ?_)
  let Γ : Gm := { G := G, N := (f.ps ++ f.loc).map Str.ofString, sc := src.scope, fn := fun _ => true }
  let X : Cx := cxOf (L2.CX P w) P w K mg base Γ.N x src.scope fa cdv A outer s H Ex
  have tk : Takes X (fun cls d _ H' => Ex cls d H') := takes_of (E₁ := fun e' s'' => L2.CX P w outer H s Ex e' s'') rfl rfl rfl rfl
  have own : PassesOwn (model X.prog X.w) X.A X.env X.xe := passes_of (K := fun e s'' => L2.CX P w outer H s Ex e s'') (E₁ := fun e' s'' => L2.CX P w outer H s Ex e' s'') rfl
  have o : XOk X (fun cls d _ H' => Ex cls d H') (callD T d) Γ d := ⟨rfl, rfl, S.kind, fun _ _ => rfl, rfl, S.nd, tk, own, hr, glb⟩
  refine ⟨tSs K (fun cls d _ H' => Ex cls d H') (callD T d) f.body, ?_, ?_⟩
  · rw [← hbd]
    exact map_ok (X := X) (fun st => cS_ok 60 o st) src.body
  · obtain ⟨ρ, h, xs, rp, qs, po⟩ := h
    unfold callD at po
    rw [hf] at po
    simp only at po
    split at po
    · rename_i e
      refine ⟨ρ, f.start xs, h, ?_, rp, ?_⟩
      · exact renv_start qs _ _ (by simp)
      · cases hd : Ss.den (callD T d) f.body (f.start xs) h with
        | nx e' h' => rw [hd] at po; exact fun ρ' H' σ' y rp' _ => po ρ' H' .non y rp' nonRep
        | rt v h' => rw [hd] at po; exact po
        | bk e' h' => rw [hd] at po; exact False.elim po
        | ct e' h' => rw [hd] at po; exact False.elim po
        | exc z e' h' => rw [hd] at po; exact fun ρ' H' σ' cls dd y rp' _ q => po ρ' H' cls dd y rp' q
        | bad => rw [hd] at po; exact po
    · exact po.elim
end
end MP
end
section
set_option Elab.async false
set_option linter.all false
set_option maxRecDepth 100000
set_option maxHeartbeats 4000000
/-! MP, part j: the whole program: the table of defs, the facts of the top, the law. -/
namespace MP
open PySem PySem.Spec PyProof.Rows L2

/-! ### plain parameters bind -/
theorem zip_lookup : ∀ {ps : List Str} {us : List Value} {n : Str}, us.length = ps.length → n ∈ ps → ((ps.zip us).lookup n).isNone = false
  | p :: ps, u :: us, n, hl, h => by
    rw [List.zip_cons_cons, List.lookup_cons]
    by_cases e : n = p
    · subst e; simp
    · have : (n == p) = false := by simpa using e
      rw [this]
      rcases List.mem_cons.mp h with z | z
      · exact absurd z e
      · exact zip_lookup (by simpa using hl) z
  | [], us, n, hl, h => by cases h
  | p :: ps, [], n, hl, h => by simp at hl
theorem fmc {α β : Type} {f g : α → Option β} : ∀ {l : List α}, (∀ n ∈ l, f n = g n) → l.filterMap f = l.filterMap g
  | [], _ => rfl
  | a :: l, h => by
    rw [List.filterMap_cons, List.filterMap_cons, h a List.mem_cons_self, fmc fun n hn => h n (List.mem_cons_of_mem _ hn)]
theorem zip_fm : ∀ {ps : List Str} {us : List Value}, us.length = ps.length → ps.Nodup → (ps.filterMap fun n => ((ps.zip us).lookup n).map (n, ·)) = ps.zip us
  | [], _, _, _ => rfl
  | p :: ps, [], hl, _ => by simp at hl
  | p :: ps, u :: us, hl, nd => by
    rw [List.filterMap_cons]
    simp only [List.zip_cons_cons, List.lookup_cons, BEq.rfl, Option.map_some]
    congr 1
    refine Eq.trans (fmc fun n hn => ?_) (zip_fm (us := us) (by simpa using hl) (List.nodup_cons.mp nd).2)
    have h := (List.nodup_cons.mp nd).1
    have : (n == p) = false := by
      have : n ≠ p := fun z => h (by rw [← z]; exact hn)
      simpa using this
    rw [this]
theorem bind_plain {x q : Str} {params : Arguments} {body : List Stmt} {sc : Scope} {kV doc pm cdv ct : Value} {an : Option Addr} {ps : List Str} {us : List Value} (hp : psOf params = some ps) (nd : ps.Nodup) (hl : us.length = ps.length) :
    bindArgs (PySem.W.fnOf x q params body sc .none kV doc pm an cdv ct) ⟨us, []⟩ = pure (ps.zip us) := by
  unfold psOf at hp
  split at hp
  · rename_i as
    cases hp
    have h1 : ((as.map (·.arg)).filter fun n => (((as.map (·.arg)).zip us).lookup n).isNone) = [] := by
      rw [List.filter_eq_nil_iff]
      intro a ha
      rw [zip_lookup hl ha]
      simp
    have h2 := zip_fm hl nd
    have hl' : us.length = as.length := by simpa using hl
    have e1 : seqItems? Value.none = Sem.pure none := rfl
    have e2 : ∀ {α β : Type} (x : α) (f : α → Sem β), (Sem.pure x).bind f = f x := fun _ _ => rfl
    have h3 : List.take as.length (List.map (fun x => x.arg) as) = List.map (fun x => x.arg) as := List.take_of_length_le (by simp)
    unfold bindArgs
    simp [PySem.W.fnOf, hl', bind, pure, e1, e2]
    rw [if_neg]
    · rw [List.filterMap_map] at h2
      rw [h2]
    · simp [h3, h1]
  · cases hp

/-! ### constants of the top -/
mutual
def cvB (K : PySem.W.Frag) : MV → Value → Bool
  | .non, .none => true
  | .bl b, .bool c => b == c
  | .int i, .int j _ => decide (i = j)
  | .str x, .str y _ => decide (x = y)
  | .tup xs, .ref a => match K.lookup a with
    | some ⟨.type c, _, .seq its _, _⟩ => decide (c = "tuple") && (decide (its.size ≤ sizeLine) && cvsB K xs its.toList)
    | _ => false
  | .rol xs, .ref a => match K.lookup a with
    | some ⟨.type c, none, .seq its _, _⟩ => decide (c = "list") && (decide (its.size ≤ sizeLine) && cvsB K xs its.toList)
    | _ => false
  | _, _ => false
def cvsB (K : PySem.W.Frag) : List MV → List Value → Bool
  | [], [] => true
  | x :: xs, u :: us => cvB K x u && cvsB K xs us
  | _, _ => false
end
mutual
theorem cvB_ok {K : PySem.W.Frag} : ∀ {m : MV} {u : Value}, cvB K m u = true → ∃ w, RelV w u ∧ ∀ ρ H, RepV K ρ H m w
  | .non, u, h => by
    cases u <;> first | (unfold cvB at h; cases h; done) | exact ⟨.non, rfl, fun _ _ => nonRep⟩
  | .bl b, u, h => by
    cases u <;> first | (unfold cvB at h; cases h; done) | skip
    rename_i c
    unfold cvB at h
    have : b = c := by simpa using h
    subst this
    exact ⟨.bl b, rfl, fun _ _ => blRep⟩
  | .int i, u, h => by
    cases u <;> first | (unfold cvB at h; cases h; done) | skip
    rename_i j t
    unfold cvB at h
    have : i = j := by simpa using h
    subst this
    exact ⟨.int i, ⟨t, rfl⟩, fun _ _ => intRep⟩
  | .str x, u, h => by
    cases u <;> first | (unfold cvB at h; cases h; done) | skip
    rename_i y t
    unfold cvB at h
    have : x = y := by simpa using h
    subst this
    exact ⟨.str x, ⟨t, rfl⟩, fun _ _ => strRep⟩
  | .tup xs, u, h => by
    cases u <;> first | (unfold cvB at h; cases h; done) | skip
    rename_i a
    unfold cvB at h
    split at h
    · rename_i c dd its n sl hl
      simp only [Bool.and_eq_true, decide_eq_true_eq] at h
      obtain ⟨h1, h2, h3⟩ := h
      subst h1
      obtain ⟨ws, r, q⟩ := cvsB_ok h3
      refine ⟨.ref a, rfl, fun ρ H => ?_⟩
      unfold RepV
      exact ⟨a, ws, rfl, .inr ⟨_, its, n, hl, rfl, rfl, h2, r⟩, q ρ H⟩
    · cases h
  | .rol xs, u, h => by
    cases u <;> first | (unfold cvB at h; cases h; done) | skip
    rename_i a
    unfold cvB at h
    split at h
    · rename_i c its n sl hl
      simp only [Bool.and_eq_true, decide_eq_true_eq] at h
      obtain ⟨h1, h2, h3⟩ := h
      subst h1
      obtain ⟨ws, r, q⟩ := cvsB_ok h3
      refine ⟨.ref a, rfl, fun ρ H => ?_⟩
      unfold RepV
      exact ⟨a, ws, rfl, .inr ⟨_, its, n, hl, rfl, rfl, rfl, h2, r⟩, q ρ H⟩
    · cases h
  | .loc _, u, h => by unfold cvB at h; cases h
  | .ty _, u, h => by unfold cvB at h; cases h
  | .cls _, u, h => by unfold cvB at h; cases h
theorem cvsB_ok {K : PySem.W.Frag} : ∀ {ms : List MV} {us : List Value}, cvsB K ms us = true → ∃ ws, Vals ws us ∧ ∀ ρ H, RepVs K ρ H ms ws
  | [], [], _ => ⟨[], .nil, fun _ _ => .nil⟩
  | [], _ :: _, h => by unfold cvsB at h; cases h
  | _ :: _, [], h => by unfold cvsB at h; cases h
  | m :: ms, u :: us, h => by
    unfold cvsB at h
    rw [Bool.and_eq_true] at h
    obtain ⟨w, r, q⟩ := cvB_ok h.1
    obtain ⟨ws, rs, qs⟩ := cvsB_ok h.2
    exact ⟨w :: ws, .cons r rs, fun ρ H => .cons (q ρ H) (qs ρ H)⟩
end

/-! ### a program -/
def srcGet : Stmt → DSrc
  | .FunctionDef _ a b _ _ _ sc _ _ _ => ⟨a, b, sc⟩
  | _ => ⟨⟨[], [], none, [], [], none, []⟩, [], ⟨.function, [], false, false, []⟩⟩
def nameGet : Stmt → Option Str
  | .FunctionDef x _ _ _ _ _ _ _ _ _ => some x
  | _ => none
theorem fnB_of {G : Ge} {st : Stmt} {f : Fn} (h1 : nameGet st = some (Str.ofString f.name)) (h2 : psOf (srcGet st).params = some (f.ps.map Str.ofString)) (h3 : scopeB ((f.ps ++ f.loc).map Str.ofString) (f.ps.map Str.ofString) (srcGet st).scope = true)
    (h4 : (srcGet st).body.map (cS { G := G, N := (f.ps ++ f.loc).map Str.ofString, sc := (srcGet st).scope, fn := fun _ => true } 60) = f.body) : fnB G st f := by
  cases st with
  | FunctionDef x a b c d e sc g i j =>
    have h1 : x = Str.ofString f.name := Option.some.inj h1
    exact ⟨h1, h2, h3, h4⟩
  | _ => cases h1
structure Prg where
  /-- the defs: the place in the top, the mini def -/
  defs : List (Nat × Fn)
  consts : List (Str × MV)
  free : List Str
def Prg.T (p : Prg) : List Fn := p.defs.map (·.2)
def Prg.G (p : Prg) : Ge := { fns := p.defs.map fun d => Str.ofString d.2.name, consts := p.consts, free := p.free }
def topAt (P : Program) (i : Nat) : Stmt := P.main.body.getD i (.Pass ⟨0, 0, 0, 0⟩)
/-- every def of the table is the text's -/
def Prg.Is (p : Prg) (P : Program) : Prop := ∀ d ∈ p.defs, fnB p.G (topAt P d.1) d.2
def defD (P : Program) (d : Nat × Fn) : He.DefD := match srcOf (topAt P d.1) with
  | some (x, s) => ⟨(x, none), x, x, s.params, s.body, s.scope, [], []⟩
  | none => ⟨("", none), "", "", ⟨[], [], none, [], [], none, []⟩, [], ⟨.function, [], false, false, []⟩, [], []⟩
def Prg.fa (p : Prg) : List He.Fa := (p.defs.map fun d => He.Fa.glo (Str.ofString d.2.name)) ++ p.free.map He.Fa.free
def Prg.fn (p : Prg) (P : Program) : List He.DefD := p.defs.map (defD P)
def cstB (K : PySem.W.Frag) (c : Str × MV) : Bool := match PySem.W.nsIn K mainGlobals c.1 with
  | some (some u) => cvB K c.2 u
  | _ => false
/-- what is read off behind the top -/
def obsM (p : Prg) (P : Program) (K : PySem.W.Frag) : He.AlD × Bool := (He.obsD p.fa (p.fn P) K, p.consts.all (cstB K))
def obsMG (n : Nat) (p : Prg) (P : Program) (g : Addr → Option Obj) : He.AlD × Bool := obsM p P (He.frG g (He.asD g n))
def SaysM (p : Prg) (P : Program) (K : PySem.W.Frag) : Prop := obsM p P K = (He.valD (p.fn P), true)
def hookM (n : Nat) (p : Prg) (P : Program) : PySem.W.Hook where
  α := He.AlD × Bool
  obs := fun s => obsMG n p P s.heap.get?
  val := fun _ => (He.valD (p.fn P), true)
  says := fun _ h => ∃ K : PySem.W.Frag, K.In h ∧ SaysM p P K
  of := fun _ _ e => ⟨_, He.frG_in, e⟩
  keeps := fun _ _ _ ⟨K, hK, c⟩ k => ⟨K, PySem.W.Frag.In.keeps hK k, c⟩
theorem obsMG_eq {n : Nat} {p : Prg} {P : Program} {g : Addr → Option Obj} {s : Shared} (h : ∀ a, g a = s.heap.get? a) : obsMG n p P g = (hookM n p P).obs s := by
  have e : g = s.heap.get? := funext h
  subst e
  rfl
section
variable {P : Program} {w : World} {K : PySem.W.Frag} {mg : Str → Option Value} {base h : Heap} {p : Prg}
theorem ixOf_lt : ∀ {l : List Str} {x : Str} {i : Nat}, ixOf l x = some i → i < l.length := fun h => (List.getElem?_eq_some_iff.mp (ixOf_at h)).1
theorem mem_lookup' {α : Type} : ∀ {l : List (Str × α)} {x : Str} {v : α}, l.lookup x = some v → (x, v) ∈ l
  | [], _, _, h => by cases h
  | (y, u) :: l, x, v, h => by
    rw [List.lookup_cons] at h
    cases e : x == y with
    | true =>
      rw [e] at h
      have : x = y := by simpa using e
      subst this
      cases h
      exact List.mem_cons_self
    | false =>
      rw [e] at h
      exact List.mem_cons_of_mem _ (mem_lookup' h)
theorem says_fact (c : SaysM p P K) {f : He.Fa} (m : f ∈ p.fa) : f.ok K = true := by
  obtain ⟨i, hi⟩ := List.getElem?_of_mem m
  exact He.SaysD.fact (fa := p.fa) (fn := p.fn P) (congrArg (fun z : He.AlD × Bool => z.1) c) i hi
theorem says_def (c : SaysM p P K) (hI : p.Is P) {i : Nat} {d : Nat × Fn} (hd : p.defs[i]? = some d) : ∃ src fd, srcOf (topAt P d.1) = some (Str.ofString d.2.name, src) ∧
    FunD K (Str.ofString d.2.name) (Str.ofString d.2.name) src.params src.body src.scope [] [] (He.ga K (Str.ofString d.2.name)) fd := by
  have hb := hI d (List.mem_of_getElem? hd)
  unfold fnB at hb
  split at hb
  · rename_i x s hs
    obtain ⟨rfl, _⟩ := hb
    have e : (p.fn P)[i]? = some ⟨(Str.ofString d.2.name, none), Str.ofString d.2.name, Str.ofString d.2.name, s.params, s.body, s.scope, [], []⟩ := by
      unfold Prg.fn
      rw [List.getElem?_map, hd]
      show some (defD P d) = _
      unfold defD
      rw [hs]
    obtain ⟨fd, F⟩ := He.SaysD.def_ (fa := p.fa) (fn := p.fn P) (congrArg (fun z : He.AlD × Bool => z.1) c) i e
    exact ⟨s, fd, hs, F⟩
  · exact hb.elim
theorem all_ok (X : K.In h) (G : h.Ns mainGlobals mg) (hI : p.Is P) (c : SaysM p P K) : ∀ d : Nat, GOk P w K mg base (callD p.T d) p.G d := by
  intro d
  have cst : ∀ (x : Str) (v : MV), p.G.consts.lookup x = some v → ∃ u w, mg x = some u ∧ RelV w u ∧ ∀ ρ H, RepV K ρ H v w := fun x v hx => by
    have h1 : p.consts.all (cstB K) = true := congrArg (fun z : He.AlD × Bool => z.2) c
    have h2 := List.all_eq_true.mp h1 _ (mem_lookup' hx)
    unfold cstB at h2
    split at h2
    · rename_i u hu
      obtain ⟨w, r, q⟩ := cvB_ok h2
      exact ⟨u, w, PySem.W.mg_of X G hu, r, q⟩
    · cases h2
  have free : ∀ x : Str, p.G.free.contains x = true → mg x = none := fun x hx => by
    refine He.free_ok X G (says_fact c (f := .free x) (List.mem_append_right _ (List.mem_map.mpr ⟨x, ?_, rfl⟩)))
    simpa [Prg.G] using hx
  have one : ∀ (i : Nat) (x : Str), ixOf p.G.fns x = some i → ∃ dd src fd, p.defs[i]? = some dd ∧ x = Str.ofString dd.2.name ∧ srcOf (topAt P dd.1) = some (x, src) ∧ mg x = some (.ref (He.ga K x)) ∧ FunD K x x src.params src.body src.scope [] [] (He.ga K x) fd := fun i x hi => by
    have hx := ixOf_at hi
    unfold Prg.G at hx
    simp only at hx
    rw [List.getElem?_map] at hx
    cases hd : p.defs[i]? with
    | none => rw [hd] at hx; cases hx
    | some dd =>
      rw [hd] at hx
      cases hx
      obtain ⟨src, fd, hs, F⟩ := says_def c hI hd
      exact ⟨dd, src, fd, rfl, rfl, hs, He.glo_ok X G (says_fact c (List.mem_append_left _ (List.mem_map.mpr ⟨dd, List.mem_of_getElem? hd, rfl⟩))), F⟩
  have bnd : ∀ {i : Nat} {x : Str} {dd : Nat × Fn} {src : DSrc} {fd : FuncData}, p.defs[i]? = some dd → srcOf (topAt P dd.1) = some (x, src) → FunD K x x src.params src.body src.scope [] [] (He.ga K x) fd → Binds K fd (dd.2.ps.map Str.ofString) [] := fun {i x dd src fd} hd hs F => by
    have hb := hI dd (List.mem_of_getElem? hd)
    unfold fnB at hb
    rw [hs] at hb
    obtain ⟨_, hps, hsc, _⟩ := hb
    have S := scopeB_ok hsc
    have nd : (dd.2.ps.map Str.ofString).Nodup := by
      rw [← S.pre]
      exact S.nd.sublist (List.take_sublist _ _)
    exact F.bindsN fun kV doc pm an cdv ct us hl => bind_plain hps nd hl
  induction d with
  | zero =>
    refine ⟨fun i x hi => ?_, cst, free⟩
    obtain ⟨dd, src, fd, hd, rfl, hs, hm, F⟩ := one i x hi
    refine ⟨_, fd, _, hm, F.kp, bnd hd hs F, ⟨fun vs H Q E hsp => ?_, fun A outer s H args us vs Q E _ _ _ _ hsp => ?_⟩⟩
    · obtain ⟨_, _, _, _, _, po⟩ := hsp
      exact po.elim
    · obtain ⟨_, _, _, _, _, po⟩ := hsp
      exact po.elim
  | succ d ih =>
    refine ⟨fun i x hi => ?_, cst, free⟩
    obtain ⟨dd, src, fd, hd, rfl, hs, hm, F⟩ := one i x hi
    have hT : p.T[i]? = some dd.2 := by
      unfold Prg.T
      rw [List.getElem?_map, hd]
      rfl
    exact ⟨_, fd, _, hm, F.kp, bnd hd hs F, def_ok hs hT (hI dd (List.mem_of_getElem? hd)) F ih⟩
end
/-! ### the law -/
/-- the depth of calls that is let -/
abbrev DEEP : Nat := 230
theorem law_ok {l : PySem.W.OpenLaw} {q : Program} {loose : List Str} {XP : (Str → Option Value) → Heap → Prop} {d : DefRec} {p : Prg} {n i : Nat} {dd : Nat × Fn} {a : String} (hn : l.most = some 63) (hdf : d.params.defaults = []) (hI : p.Is l.prog)
    (hi : ixOf p.G.fns d.name = some i) (hd : p.defs[i]? = some dd) (ha : dd.2.ps = [a])
    (run : ∀ ns : List Int, ns.length ≤ 63 → ∃ h', callD p.T DEEP i [.rol (ns.map .int)] [] = .ok (.bl true) h') :
    PySem.W.WalkO q loose XP (hookM n p l.prog).says l.row.toRowW d [] (fun f vs => PySem.call f vs) := by
  refine Att.attach_call hn hdf fun w s₀ s₁ mg mb fa o pm cd doc ad vs ns G Y ho hdo hcd hmg hobj hints hlen hg => ?_
  obtain ⟨K, KX, c⟩ := Y
  have hr : Room DEEP callerA := ⟨rfl, by decide, by decide⟩
  obtain ⟨f, fd, ps, hm, _, bd, F⟩ := (all_ok (P := l.prog) (w := w) (base := s₁.heap) KX G.T.g hI c DEEP).fn i d.name hi
  have ef : fa = f := by
    rw [hmg] at hm
    cases hm
    rfl
  subst ef
  obtain ⟨dd', hd', hs⟩ : ∃ dd', p.defs[i]? = some dd' ∧ Str.ofString dd'.2.name = d.name := by
    have hx := ixOf_at hi
    unfold Prg.G at hx
    simp only at hx
    rw [List.getElem?_map] at hx
    cases e : p.defs[i]? with
    | none => rw [e] at hx; cases hx
    | some dd' =>
      rw [e] at hx
      exact ⟨dd', rfl, Option.some.inj hx⟩
  rw [hd] at hd'
  cases hd'
  obtain ⟨src, fd2, hsr, F2⟩ := says_def c hI hd
  have hb := hI dd (List.mem_of_getElem? hd)
  unfold fnB at hb
  rw [hsr] at hb
  obtain ⟨_, hps, hsc, _⟩ := hb
  rw [ha] at hps
  have eg : He.ga K d.name = fa := by
    have h1 := He.glo_ok KX G.T.g (says_fact c (f := .glo (Str.ofString dd.2.name)) (List.mem_append_left _ (List.mem_map.mpr ⟨dd, List.mem_of_getElem? hd, rfl⟩)))
    rw [hs, hmg] at h1
    cases h1
    rfl
  have F' : ∀ base : Heap, K.In base → base.Ns mainGlobals mg → FnOk l.prog w K mg base (L2.CX l.prog w) DEEP fa fd2 [Str.ofString a] (spI K (callD p.T DEEP) i) := fun base hK hG => by
    have hT : p.T[i]? = some dd.2 := by
      unfold Prg.T
      rw [List.getElem?_map, hd]
      rfl
    have z := def_ok (w := w) (mg := mg) (base := base) hsr hT (hI dd (List.mem_of_getElem? hd)) F2 (all_ok hK hG hI c 229)
    rw [ha, hs, eg] at z
    exact z
  have hbind : ∀ (s : Shared) (u : Value), BindsTo s fd2 ⟨[u], []⟩ [(Str.ofString a, u)] := fun s u =>
    FunD.bindsA (ps := [Str.ofString a]) F2 (fun kV doc pm an cdv ct us hl => bind_plain hps (by simp) hl) s [u] rfl
  refine law_call (x := Str.ofString a) KX G.T.g G.T.b G.T.builtins G.T.nolimit hg hobj hints (Nat.le_trans hlen (by decide)) hr F' hbind (fun H hO hS => ?_) fun H e s' z => ?_
  · obtain ⟨h', e⟩ := run ns hlen
    refine ⟨[], [], [.rol (ns.map .int)], ⟨rfl, List.nodup_nil, fun l o z => by cases z⟩, .one ?_, ?_⟩
    · unfold RepV
      refine ⟨ad, ns.map V.int, rfl, ?_, repVs_ints⟩
      rcases hS with (z | ⟨o, z⟩) | z
      · rcases hO ad with y | ⟨o, xs, y⟩
        · rw [y] at z; cases z
        · rw [y] at z; cases z
      · exact .inl ⟨o, z⟩
      · exact .inr z
    · rw [e]
      intro ρ' H' w _ _ q
      exact repBl q
  · obtain ⟨_, _, _, _, _, _, _, _, _, _, _, _, y⟩ := z
    exact y
end MP
end
section
set_option Elab.async false
set_option linter.all false
set_option maxRecDepth 100000
set_option maxHeartbeats 4000000
/-! MP, part k: how the small language runs: rules for simp, loops by invariants. -/
namespace MP
open PySem

/-! ### the meaning, form by form -/
def envGet : En → Nat → Option MV
  | some v :: _, 0 => some v
  | none :: _, 0 => none
  | _ :: r, n + 1 => envGet r n
  | [], _ => none
@[simp] theorem envGet_0 {v : MV} {r : En} : envGet (some v :: r) 0 = some v := rfl
@[simp] theorem envGet_s {x : Option MV} {r : En} {n : Nat} : envGet (x :: r) (n + 1) = envGet r n := by
  cases x <;> rfl
theorem envGet_eq : ∀ {e : En} {i : Nat}, envGet e i = match e[i]? with
    | some (some v) => some v
    | _ => none
  | [], _ => rfl
  | some v :: r, 0 => rfl
  | none :: r, 0 => rfl
  | x :: r, n + 1 => by rw [envGet_s, envGet_eq (e := r)]; rfl
section
variable {C : Cl} {e : En} {h : MH} {a b c : E} {es : List E}
@[simp] theorem den_var {i : Nat} : E.den C (.var i) e h = oR h (envGet e i) := by
  rw [envGet_eq]
  simp only [E.den]
  cases e[i]? with
  | none => rfl
  | some x => cases x <;> rfl
@[simp] theorem den_lit {v : MV} : E.den C (.lit v) e h = .ok v h := by simp only [E.den]
@[simp] theorem den_bin {o : BOp} : E.den C (.bin o a b) e h = (E.den C a e h).bind fun x h1 => (E.den C b e h1).bind fun y h2 => oP (binO o x y h2) := by simp only [E.den]
@[simp] theorem den_neg : E.den C (.neg a) e h = (E.den C a e h).bind fun x h1 => match x with
    | .int i => .ok (.int (-i)) h1
    | _ => .bad := by simp only [E.den] <;> rfl
@[simp] theorem den_not : E.den C (.not a) e h = (E.den C a e h).bind fun x h1 => (oR h1 (truO x h1)).bind fun k h2 => .ok (.bl (!k)) h2 := by simp only [E.den]
@[simp] theorem den_cmp {o : COp} : E.den C (.cmp o a b) e h = (E.den C a e h).bind fun x h1 => (E.den C b e h1).bind fun y h2 => (oR h2 (cmpO o x y h2)).bind fun k h3 => .ok (.bl k) h3 := by simp only [E.den]
@[simp] theorem den_cmp2 {o o' : COp} : E.den C (.cmp2 o o' a b c) e h = (E.den C a e h).bind fun x h1 => (E.den C b e h1).bind fun y h2 => (oR h2 (cmpO o x y h2)).bind fun k h3 =>
      if k = true then (E.den C c e h3).bind fun z h4 => (oR h4 (cmpO o' y z h4)).bind fun k h5 => .ok (.bl k) h5 else .ok (.bl false) h3 := by simp only [E.den]
@[simp] theorem den_and : E.den C (.and a b) e h = (E.den C a e h).bind fun x h1 => (oR h1 (truO x h1)).bind fun k h2 => if k = true then E.den C b e h2 else .ok x h2 := by simp only [E.den]
@[simp] theorem den_or : E.den C (.or a b) e h = (E.den C a e h).bind fun x h1 => (oR h1 (truO x h1)).bind fun k h2 => if k = true then .ok x h2 else E.den C b e h2 := by simp only [E.den]
@[simp] theorem den_ite : E.den C (.ite c a b) e h = (E.den C c e h).bind fun x h1 => (oR h1 (truO x h1)).bind fun k h2 => if k = true then E.den C a e h2 else E.den C b e h2 := by simp only [E.den]
@[simp] theorem den_tup : E.den C (.tup es) e h = (Es.den C es e h).bind fun vs h1 => if vs.length ≤ sizeLine then .ok (.tup vs) h1 else .bad := by simp only [E.den]
@[simp] theorem den_lst : E.den C (.lst es) e h = (Es.den C es e h).bind fun vs h1 => if vs.length ≤ sizeLine then .ok (.loc h1.length) (h1 ++ [.lst vs]) else .bad := by simp only [E.den]
@[simp] theorem den_ix : E.den C (.ix a b) e h = (E.den C a e h).bind fun x h1 => (E.den C b e h1).bind fun y h2 => oR h2 (ixO x y h2) := by simp only [E.den]
@[simp] theorem den_sl {lo hi : Option E} : E.den C (.sl a lo hi) e h = (E.den C a e h).bind fun x h1 => (Eo.den C lo e h1).bind fun l h2 => (Eo.den C hi e h2).bind fun u h3 => oP (slO x l u h3) := by simp only [E.den]
@[simp] theorem den_call {f : Nat} : E.den C (.call f es) e h = (Es.den C es e h).bind fun vs h1 => C f vs h1 := by simp only [E.den]
@[simp] theorem den_bi {b : Bi} : E.den C (.bi b es) e h = (Es.den C es e h).bind fun vs h1 => oP (biO b vs h1) := by simp only [E.den]
@[simp] theorem den_mt {m : Mt} : E.den C (.mt m a es) e h = (E.den C a e h).bind fun x h1 => if recvO m x h1 = true then (Es.den C es e h1).bind fun vs h2 => oP (mtO m x vs h2) else .bad := by simp only [E.den]
@[simp] theorem den_comp {ws : List Nat} {t : Tg} {k : IK} : E.den C (.comp ws t k es a) e h = (Es.den C es e h).bind fun vs h1 => match srcO k vs h1 with
    | none => .bad
    | some src => loop .bad (compTurn src t (wipeM e ws) (fun _ h => .ok true h) (fun e h => E.den C a e h)) 0 ([], h1) := by simp only [E.den] <;> rfl
@[simp] theorem den_compIf {ws : List Nat} {t : Tg} {k : IK} : E.den C (.compIf ws t k es c a) e h = (Es.den C es e h).bind fun vs h1 => match srcO k vs h1 with
    | none => .bad
    | some src => loop .bad (compTurn src t (wipeM e ws) (fun e h => E.tst C c e h) (fun e h => E.den C a e h)) 0 ([], h1) := by simp only [E.den] <;> rfl
@[simp] theorem deno_none : Eo.den C none e h = .ok none h := by simp only [Eo.den]
@[simp] theorem deno_some : Eo.den C (some a) e h = (E.den C a e h).bind fun x h1 => match x with
    | .int i => .ok (some i) h1
    | _ => .bad := by simp only [Eo.den] <;> rfl
@[simp] theorem dens_nil : Es.den C [] e h = .ok [] h := by simp only [Es.den]
@[simp] theorem dens_cons : Es.den C (a :: es) e h = (E.den C a e h).bind fun v h1 => (Es.den C es e h1).bind fun vs h2 => .ok (v :: vs) h2 := by simp only [Es.den]
theorem tst_eq : E.tst C a e h = (E.den C a e h).bind fun x h1 => oR h1 (truO x h1) := rfl
variable {ss tt ff : List S} {s : S} {t : Tg}
@[simp] theorem run_nil : Ss.den C [] e h = .nx e h := by simp only [Ss.den]
@[simp] theorem run_cons : Ss.den C (s :: ss) e h = (S.den C s e h).seq fun e h => Ss.den C ss e h := by simp only [Ss.den]
@[simp] theorem run_expr : S.den C (.expr a) e h = (E.den C a e h).sr e fun _ h1 => .nx e h1 := by simp only [S.den]
@[simp] theorem run_asg : S.den C (.asg t a) e h = (E.den C a e h).sr e fun v h1 => match t.set v e with
    | some e' => .nx e' h1
    | none => .bad := by simp only [S.den] <;> rfl
@[simp] theorem run_aug {i : Nat} {o : BOp} : S.den C (.aug i o a) e h = (oR h (envGet e i)).sr e fun x _ => (E.den C a e h).sr e fun y h1 => (oP (augO o x y h1)).sr e fun z h2 => .nx (e.set i (some z)) h2 := by
  rw [envGet_eq]
  simp only [S.den]
  cases e[i]? with
  | none => rfl
  | some x => cases x <;> rfl
@[simp] theorem run_setIx : S.den C (.setIx a b c) e h = (E.den C c e h).sr e fun v h1 => (E.den C a e h1).sr e fun x h2 => (E.den C b e h2).sr e fun y h3 => match setIxO x y v h3 with
    | some h4 => .nx e h4
    | none => .bad := by simp only [S.den] <;> rfl
@[simp] theorem run_ret : S.den C (.ret a) e h = (E.den C a e h).sr e fun v h1 => .rt v h1 := by simp only [S.den]
@[simp] theorem run_iff : S.den C (.iff c tt ff) e h = (E.tst C c e h).sr e fun k h1 => if k = true then Ss.den C tt e h1 else Ss.den C ff e h1 := by simp only [S.den]
@[simp] theorem run_for {k : IK} : S.den C (.for_ t k es ss) e h = (Es.den C es e h).sr e fun vs h1 => match srcO k vs h1 with
    | none => .bad
    | some src => loop .bad (forTurn src t (fun e h => Ss.den C ss e h)) 0 (e, h1) := by simp only [S.den] <;> rfl
@[simp] theorem run_whl : S.den C (.whl c ss) e h = loop .bad (whileTurn C c (fun e h => Ss.den C ss e h)) 0 (e, h) := by simp only [S.den]
@[simp] theorem run_brk : S.den C .brk e h = .bk e h := by simp only [S.den]
@[simp] theorem run_cont : S.den C .cont e h = .ct e h := by simp only [S.den]
@[simp] theorem run_pass : S.den C .pass e h = .nx e h := by simp only [S.den]
theorem call_eq {T : List Fn} {d f : Nat} {vs : List MV} {fn : Fn} (hf : T[f]? = some fn) (hl : vs.length = fn.ps.length) : callD T (d + 1) f vs h = (Ss.den (callD T d) fn.body (fn.start vs) h).res := by
  rw [callD, hf]
  simp only [hl, if_true]
end

/-! ### operations at known kinds -/
section
variable {h : MH} {i j : Int}
@[simp] theorem add_ii : binO .add (.int i) (.int j) h = some (.int (i + j), h) := rfl
@[simp] theorem sub_ii : binO .sub (.int i) (.int j) h = some (.int (i - j), h) := rfl
theorem mul_r (h1 : -18446744073709551616 < j) (h2 : j < 18446744073709551616) : binO .mul (.int i) (.int j) h = some (.int (i * j), h) := by
  have e : augO.CMulB i j = true := by
    unfold augO.CMulB
    simp only [Bool.or_eq_true, Bool.and_eq_true, decide_eq_true_eq]
    right
    omega
  simp only [binO, e, if_true]
theorem mul_l (h1 : -18446744073709551616 < i) (h2 : i < 18446744073709551616) : binO .mul (.int i) (.int j) h = some (.int (i * j), h) := by
  have e : augO.CMulB i j = true := by
    unfold augO.CMulB
    simp only [Bool.or_eq_true, Bool.and_eq_true, decide_eq_true_eq]
    left
    omega
  simp only [binO, e, if_true]
theorem fdiv_ii (h1 : 0 < j) (h2 : j < 1073741824) : binO .fdiv (.int i) (.int j) h = some (.int (i / j), h) := by
  have e : j ≠ 0 ∧ j.natAbs < 1073741824 := by omega
  simp only [binO]
  rw [if_pos e, Int.fdiv_eq_ediv_of_nonneg i (by omega)]
theorem mod_ii (h1 : 0 < j) : binO .mod (.int i) (.int j) h = some (.int (i % j), h) := by
  have e : j ≠ 0 := by omega
  simp only [binO]
  rw [if_pos e, Int.fmod_eq_emod_of_nonneg i (by omega)]
@[simp] theorem pow_10_18 : binO .pow (.int 10) (.int 18) h = some (.int 1000000000000000000, h) := by
  simp only [binO]
  rw [if_pos (by decide)]
  rfl
@[simp] theorem aadd_ii : augO .add (.int i) (.int j) h = some (.int (i + j), h) := rfl
@[simp] theorem asub_ii : augO .sub (.int i) (.int j) h = some (.int (i - j), h) := rfl
theorem amul_r (h1 : -18446744073709551616 < j) (h2 : j < 18446744073709551616) : augO .mul (.int i) (.int j) h = some (.int (i * j), h) := by
  have e : augO.CMulB i j = true := by
    unfold augO.CMulB
    simp only [Bool.or_eq_true, Bool.and_eq_true, decide_eq_true_eq]
    right
    omega
  simp only [augO, e, if_true]
@[simp] theorem eqO_ii : eqO (.int i) (.int j) h = some (decide (i = j)) := by
  unfold eqO
  rw [dat_of (.int i), dat_of (.int j)]
  show (if SeqAt.shaped (.int i) = true ∧ SeqAt.shaped (.int j) = true then _ else _) = _
  rw [if_pos ⟨rfl, rfl⟩]
  simp only [PyData.eqv]
  by_cases e : i = j <;> simp [e]
theorem shaped_str {x : Str} (hx : PyData.canLay0 (.str x) = true) : SeqAt.shaped (.str x) = true := by
  unfold SeqAt.shaped
  rw [hx]
  simp [PyData.depth]
theorem eqO_ss {x y : Str} (hx : PyData.canLay0 (.str x) = true) (hy : PyData.canLay0 (.str y) = true) : eqO (.str x) (.str y) h = some (x == y) := by
  unfold eqO
  rw [dat_of (.str x), dat_of (.str y)]
  show (if SeqAt.shaped (.str x) = true ∧ SeqAt.shaped (.str y) = true then _ else _) = _
  rw [if_pos ⟨shaped_str hx, shaped_str hy⟩]
  simp only [PyData.eqv]
@[simp] theorem cmp_eq {x y : MV} : cmpO .eq x y h = eqO x y h := rfl
@[simp] theorem cmp_ne {x y : MV} : cmpO .ne x y h = (eqO x y h).map (!·) := rfl
@[simp] theorem cmp_inn {x y : MV} : cmpO .inn x y h = inO x y h := rfl
@[simp] theorem cmp_nin {x y : MV} : cmpO .nin x y h = (inO x y h).map (!·) := rfl
@[simp] theorem cmp_lt : cmpO .lt (.int i) (.int j) h = some (decide (i < j)) := rfl
@[simp] theorem cmp_le : cmpO .le (.int i) (.int j) h = some (decide (i ≤ j)) := rfl
@[simp] theorem cmp_gt : cmpO .gt (.int i) (.int j) h = some (decide (j < i)) := rfl
@[simp] theorem cmp_ge : cmpO .ge (.int i) (.int j) h = some (decide (j ≤ i)) := rfl
@[simp] theorem cmp_is {x : MV} : cmpO .is x .non h = some x.isNon := rfl
@[simp] theorem cmp_isn {x : MV} : cmpO .isn x .non h = some (!x.isNon) := rfl
@[simp] theorem tru_bl {b : Bool} : truO (.bl b) h = some b := rfl
@[simp] theorem tru_non : truO .non h = some false := rfl
@[simp] theorem tru_int : truO (.int i) h = some (i != 0) := rfl
@[simp] theorem tru_tup {xs : List MV} : truO (.tup xs) h = some (!xs.isEmpty) := rfl
@[simp] theorem tru_rol {xs : List MV} : truO (.rol xs) h = some (!xs.isEmpty) := rfl
theorem tru_loc {l : Nat} {xs : List MV} (e : h[l]? = some (.lst xs)) : truO (.loc l) h = some (!xs.isEmpty) := by
  unfold truO
  simp only [e]
@[simp] theorem inO_tup {x : MV} {ys : List MV} : inO x (.tup ys) h = if flatM x = true ∧ ys.all flatM = true then some (ys.any fun z => PyData.eqv (flatD z) (flatD x)) else none := rfl
/-! built-in functions -/
@[simp] theorem bi_min2 : biO .min2 [.int i, .int j] h = some (.int (if j < i then j else i), h) := rfl
@[simp] theorem bi_max2 : biO .max2 [.int i, .int j] h = some (.int (if j > i then j else i), h) := rfl
@[simp] theorem bi_abs : biO .abs [.int i] h = some (.int (if i < 0 then -i else i), h) := rfl
@[simp] theorem bi_int : biO .int [.int i] h = some (.int i, h) := rfl
@[simp] theorem bi_intb {b : Bool} : biO .int [.bl b] h = some (.int (if b then 1 else 0), h) := rfl
@[simp] theorem bi_isInt_i : biO .isInt [.int i] h = some (.bl true, h) := rfl
@[simp] theorem bi_isBool_i : biO .isBool [.int i] h = some (.bl false, h) := rfl
@[simp] theorem bi_len_tup {xs : List MV} : biO .len [.tup xs] h = some (.int xs.length, h) := rfl
@[simp] theorem bi_len_rol {xs : List MV} : biO .len [.rol xs] h = some (.int xs.length, h) := rfl
theorem bi_len_loc {l : Nat} {xs : List MV} (e : h[l]? = some (.lst xs)) : biO .len [.loc l] h = some (.int xs.length, h) := by
  simp only [biO, itemsO, e, Option.map_some]
theorem bi_list {x : MV} {xs : List MV} (e : itemsO x h = some xs) : biO .list [x] h = some (.loc h.length, h ++ [.lst xs]) := by
  simp only [biO, e]
theorem bi_tuple_loc {l : Nat} {xs : List MV} (e : h[l]? = some (.lst xs)) : biO .tuple [.loc l] h = some (.tup xs, h) := by
  simp only [biO, itemsO, e, Option.map_some]
@[simp] theorem items_tup {xs : List MV} : itemsO (.tup xs) h = some xs := rfl
@[simp] theorem items_rol {xs : List MV} : itemsO (.rol xs) h = some xs := rfl
theorem items_loc {l : Nat} {xs : List MV} (e : h[l]? = some (.lst xs)) : itemsO (.loc l) h = some xs := by
  simp only [itemsO, e]
/-! subscripts -/
theorem atI_nn {α : Type} {xs : List α} {n : Nat} {x : α} (e : xs[n]? = some x) : L2.atI xs (n : Int) = some x := L2.atI_nat e
theorem ix_seq {x : MV} {xs : List MV} {n : Nat} {v : MV} (e : itemsO x h = some xs) (hx : ∀ z, x ≠ .str z) (hj : j = (n : Int)) (ev : xs[n]? = some v) : ixO x (.int j) h = some v := by
  subst hj
  cases x with
  | str z => exact absurd rfl (hx z)
  | _ => simp only [ixO, e, Option.bind_some, atI_nn ev]
theorem ix_loc {l n : Nat} {xs : List MV} {v : MV} (e : h[l]? = some (.lst xs)) (hj : j = (n : Int)) (ev : xs[n]? = some v) : ixO (.loc l) (.int j) h = some v :=
  ix_seq (items_loc e) (fun _ z => nomatch z) hj ev
theorem ix_tup {n : Nat} {xs : List MV} {v : MV} (hj : j = (n : Int)) (ev : xs[n]? = some v) : ixO (.tup xs) (.int j) h = some v :=
  ix_seq rfl (fun _ z => nomatch z) hj ev
theorem ix_rol {n : Nat} {xs : List MV} {v : MV} (hj : j = (n : Int)) (ev : xs[n]? = some v) : ixO (.rol xs) (.int j) h = some v :=
  ix_seq rfl (fun _ z => nomatch z) hj ev
theorem append_loc {l : Nat} {xs : List MV} {v : MV} (e : h[l]? = some (.lst xs)) (hz : xs.length < sizeLine) : mtO .append (.loc l) [v] h = some (.non, h.set l (.lst (xs ++ [v]))) := by
  simp only [mtO, e]
  rw [if_pos hz]
theorem recv_loc {m : Mt} {l : Nat} {xs : List MV} (e : h[l]? = some (.lst xs)) : recvO m (.loc l) h = true := by
  simp only [recvO, e]
end

/-! ### for, by its items -/
/-- a for over items that stand still -/
def forL (t : Tg) (b : En → MH → SR) : List MV → En → MH → SR
  | [], e, h => .nx e h
  | v :: vs, e, h => match t.set v e with
    | none => .bad
    | some e' => match b e' h with
      | .nx e2 h2 => forL t b vs e2 h2
      | .ct e2 h2 => forL t b vs e2 h2
      | .bk e2 h2 => .nx e2 h2
      | r => r
theorem for_items {src : Src} {t : Tg} {b : En → MH → SR} (xs : List MV) (hs : ∀ i h, src i h = some xs[i]?) : ∀ (n i : Nat) (e : En) (h : MH), xs.length - i = n → loop .bad (forTurn src t b) i (e, h) = forL t b (xs.drop i) e h := by
  intro n
  induction n with
  | zero =>
    intro i e h hn
    have hd : xs.drop i = [] := List.drop_eq_nil_of_le (by omega)
    have hx : xs[i]? = none := List.getElem?_eq_none (by omega)
    rw [loop_eq, hd]
    simp only [forTurn, hs, hx, forL]
  | succ n ih =>
    intro i e h hn
    have hi : i < xs.length := by omega
    have hx : xs[i]? = some xs[i] := List.getElem?_eq_getElem hi
    rw [loop_eq, List.drop_eq_getElem_cons hi]
    simp only [forTurn, hs, hx, forL]
    cases ht : t.set xs[i] e with
    | none => rfl
    | some e' =>
      simp only
      cases hb : b e' h with
      | nx e2 h2 => exact ih (i + 1) e2 h2 (by omega)
      | ct e2 h2 => exact ih (i + 1) e2 h2 (by omega)
      | bk e2 h2 => rfl
      | rt v h2 => rfl
      | exc x e2 h2 => rfl
      | bad => rfl
theorem for_list {t : Tg} {b : En → MH → SR} {e : En} {h : MH} (xs : List MV) : loop .bad (forTurn (fun i _ => some xs[i]?) t b) 0 (e, h) = forL t b xs e h :=
  for_items xs (fun _ _ => rfl) _ 0 e h rfl
theorem for_rng {t : Tg} {b : En → MH → SR} {e : En} {h : MH} (lo : Int) (n : Nat) : loop .bad (forTurn (fun i _ => some (if i < n then some (.int (lo + i)) else none)) t b) 0 (e, h) = forL t b ((List.range n).map fun (k : Nat) => MV.int (lo + k)) e h := by
  refine for_items ((List.range n).map fun (k : Nat) => MV.int (lo + k)) (fun i h => ?_) _ 0 e h rfl
  rw [List.getElem?_map]
  by_cases hi : i < n
  · rw [if_pos hi, List.getElem?_range hi]
    rfl
  · rw [if_neg hi, List.getElem?_eq_none (by simpa using Nat.le_of_not_lt hi)]
    rfl
/-- a for by an invariant: it goes through all its items -/
theorem forL_inv {t : Tg} {b : En → MH → SR} (I : Nat → En → MH → Prop) : ∀ (xs : List MV) (i : Nat) (e : En) (h : MH), I i e h →
    (∀ k v e h, xs[k]? = some v → I (i + k) e h → ∃ e' e2 h2, t.set v e = some e' ∧ (b e' h = .nx e2 h2 ∨ b e' h = .ct e2 h2) ∧ I (i + k + 1) e2 h2) →
    ∃ e2 h2, forL t b xs e h = .nx e2 h2 ∧ I (i + xs.length) e2 h2
  | [], i, e, h, q, _ => ⟨e, h, rfl, q⟩
  | x :: xs, i, e, h, q, st => by
    obtain ⟨e', e2, h2, h3, h4, h5⟩ := st 0 x e h rfl q
    have ih := forL_inv I xs (i + 1) e2 h2 h5 fun k v e h hk hi => by
      have := st (k + 1) v e h (by simpa using hk) (by rw [show i + (k + 1) = i + 1 + k by omega]; exact hi)
      rw [show i + (k + 1) + 1 = i + 1 + k + 1 by omega] at this
      exact this
    obtain ⟨e3, h6, h7, h8⟩ := ih
    refine ⟨e3, h6, ?_, by rw [List.length_cons, show i + (xs.length + 1) = i + 1 + xs.length by omega]; exact h8⟩
    unfold forL
    rw [h3]
    rcases h4 with h4 | h4 <;> simp only [h4] <;> exact h7
/-! ### comprehensions, by their items -/
theorem comp_items {src : Src} {t : Tg} {e : En} {tst : En → MH → Res Bool} {elt : En → MH → Res MV} {h : MH} (xs : List MV) (f : MV → Option MV) (hs : ∀ i, src i h = some xs[i]?) (hz : xs.length < sizeLine)
    (ht : ∀ x ∈ xs, ∃ e', t.set x e = some e' ∧ ((∃ y, f x = some y ∧ tst e' h = .ok true h ∧ elt e' h = .ok y h) ∨ (f x = none ∧ tst e' h = .ok false h))) :
    loop .bad (compTurn src t e tst elt) 0 ([], h) = .ok (.loc h.length) (h ++ [.lst (xs.filterMap f)]) := by
  have go : ∀ (n i : Nat) (acc : List MV), xs.length - i = n → acc.length ≤ i → loop .bad (compTurn src t e tst elt) i (acc, h) = .ok (.loc h.length) (h ++ [.lst (acc ++ (xs.drop i).filterMap f)]) := by
    intro n
    induction n with
    | zero =>
      intro i acc hn ha
      have hd : xs.drop i = [] := List.drop_eq_nil_of_le (by omega)
      have hx : xs[i]? = none := List.getElem?_eq_none (by omega)
      rw [loop_eq, hd]
      simp only [compTurn, hs, hx, List.filterMap_nil, List.append_nil]
    | succ n ih =>
      intro i acc hn ha
      have hi : i < xs.length := by omega
      have hx : xs[i]? = some xs[i] := List.getElem?_eq_getElem hi
      obtain ⟨e', h1, h2⟩ := ht xs[i] (List.getElem_mem hi)
      rw [loop_eq, List.drop_eq_getElem_cons hi, List.filterMap_cons]
      rcases h2 with ⟨y, hy, h3, h4⟩ | ⟨hy, h3⟩
      · simp only [compTurn, hs, hx, h1, h3, h4, hy]
        rw [if_pos (by omega)]
        simp only
        rw [ih (i + 1) (acc ++ [y]) (by omega) (by rw [List.length_append, List.length_singleton]; omega), List.append_assoc]
        rfl
      · simp only [compTurn, hs, hx, h1, h3, hy]
        rw [ih (i + 1) acc (by omega) (by omega)]
  have := go _ 0 [] rfl (Nat.zero_le _)
  simpa using this
/-- no test -/
theorem comp_map {src : Src} {t : Tg} {e : En} {elt : En → MH → Res MV} {h : MH} (xs : List MV) (f : MV → MV) (hs : ∀ i, src i h = some xs[i]?) (hz : xs.length < sizeLine)
    (ht : ∀ x ∈ xs, ∃ e', t.set x e = some e' ∧ elt e' h = .ok (f x) h) :
    loop .bad (compTurn src t e (fun _ h => .ok true h) elt) 0 ([], h) = .ok (.loc h.length) (h ++ [.lst (xs.map f)]) := by
  rw [comp_items xs (fun x => some (f x)) hs hz fun x hx => let ⟨e', a, b⟩ := ht x hx; ⟨e', a, .inl ⟨f x, rfl, rfl, b⟩⟩]
  simp

/-- a range's items -/
def rngL (lo : Int) (n : Nat) : List MV := (List.range n).map fun (k : Nat) => .int (lo + k)
@[simp] theorem rngL_length {lo : Int} {n : Nat} : (rngL lo n).length = n := by simp [rngL]
theorem mem_rngL {lo : Int} {n : Nat} {v : MV} (h : v ∈ rngL lo n) : ∃ k : Nat, k < n ∧ v = .int (lo + k) := by
  unfold rngL at h
  obtain ⟨k, hk, e⟩ := List.mem_map.mp h
  exact ⟨k, List.mem_range.mp hk, e.symm⟩
theorem rngL_at {lo : Int} {n k : Nat} {v : MV} (h : (rngL lo n)[k]? = some v) : k < n ∧ v = .int (lo + k) := by
  unfold rngL at h
  rw [List.getElem?_map] at h
  by_cases hk : k < n
  · rw [List.getElem?_range hk] at h
    exact ⟨hk, (Option.some.inj h).symm⟩
  · rw [List.getElem?_eq_none (by simpa using Nat.le_of_not_lt hk)] at h
    cases h
theorem rngL_src {lo : Int} {n i : Nat} : (if i < n then some (MV.int (lo + i)) else none) = (rngL lo n)[i]? := by
  unfold rngL
  rw [List.getElem?_map]
  by_cases hi : i < n
  · rw [if_pos hi, List.getElem?_range hi]
    rfl
  · rw [if_neg hi, List.getElem?_eq_none (by simpa using Nat.le_of_not_lt hi)]
    rfl
theorem src_rng1 {h : MH} {j : Int} (h1 : -4611686018427387904 ≤ j) (h2 : j < 4611686018427387904) : srcO .rng1 [.int j] h = some fun i _ => some (rngL 0 j.toNat)[i]? := by
  have e : rngOk j = true := by
    unfold rngOk
    simp only [Bool.and_eq_true, decide_eq_true_eq]
    omega
  simp only [srcO, e, if_true, rngL_src]
theorem src_rng2 {h : MH} {a b : Int} (h1 : -4611686018427387904 ≤ a) (h2 : a < 4611686018427387904) (h3 : -4611686018427387904 ≤ b) (h4 : b < 4611686018427387904) :
    srcO .rng2 [.int a, .int b] h = some fun i _ => some (rngL a (b - a).toNat)[i]? := by
  have e : rngOk a = true := by
    unfold rngOk
    simp only [Bool.and_eq_true, decide_eq_true_eq]
    omega
  have e2 : rngOk b = true := by
    unfold rngOk
    simp only [Bool.and_eq_true, decide_eq_true_eq]
    omega
  simp only [srcO, e, e2, Bool.and_true, if_true, rngL_src]
@[simp] theorem src_tup {h : MH} {xs : List MV} : srcO .val [.tup xs] h = some fun i _ => some xs[i]? := rfl
@[simp] theorem src_rol {h : MH} {xs : List MV} : srcO .val [.rol xs] h = some fun i _ => some xs[i]? := rfl
theorem comp_rng {t : Tg} {e : En} {elt : En → MH → Res MV} {h : MH} (lo : Int) (n : Nat) (f : Nat → MV) (hz : n < 16777216)
    (ht : ∀ k < n, ∃ e', t.set (.int (lo + (k : Nat))) e = some e' ∧ elt e' h = .ok (f k) h) :
    loop .bad (compTurn (fun i _ => some (rngL lo n)[i]?) t e (fun _ h => .ok true h) elt) 0 ([], h) = .ok (.loc h.length) (h ++ [.lst ((List.range n).map f)]) := by
  rw [comp_items (rngL lo n) (fun x => match x with
    | .int v => some (f (v - lo).toNat)
    | _ => none) (fun i => rfl) (by rw [rngL_length]; exact hz) fun x hx => ?_]
  · congr 4
    unfold rngL
    rw [List.filterMap_map]
    have : (fun x => match x with
      | MV.int v => some (f (v - lo).toNat)
      | _ => none) ∘ (fun (k : Nat) => MV.int (lo + k)) = fun k => some (f k) := by
      funext k
      show some (f (lo + k - lo).toNat) = _
      rw [show (lo + k - lo).toNat = k by omega]
    rw [this]
    simp
  · obtain ⟨k, hk, rfl⟩ := mem_rngL hx
    obtain ⟨e', a, b⟩ := ht k hk
    refine ⟨e', a, .inl ⟨f k, ?_, rfl, b⟩⟩
    show some (f (lo + k - lo).toNat) = _
    rw [show (lo + k - lo).toNat = k by omega]
theorem rngL_succ {lo : Int} {n : Nat} : rngL lo (n + 1) = .int lo :: rngL (lo + 1) n := by
  unfold rngL
  rw [List.range_succ_eq_map, List.map_cons, List.map_map]
  congr 1
  · simp
  · apply List.map_congr_left
    intro k _
    show MV.int (lo + ((k + 1 : Nat) : Int)) = _
    congr 1
    omega
@[simp] theorem rngL_zero {lo : Int} : rngL lo 0 = [] := rfl
/-- one turn -/
theorem forL_cons {t : Tg} {b : En → MH → SR} {v : MV} {vs : List MV} {e e' e2 : En} {h h2 : MH} (h1 : t.set v e = some e') (h3 : b e' h = .nx e2 h2) : forL t b (v :: vs) e h = forL t b vs e2 h2 := by
  rw [forL, h1]
  simp only [h3]
@[simp] theorem forL_nil {t : Tg} {b : En → MH → SR} {e : En} {h : MH} : forL t b [] e h = .nx e h := rfl
@[simp] theorem tset_nm {i : Nat} {v : MV} {e : En} : (Tg.nm i).set v e = some (e.set i (some v)) := rfl
@[simp] theorem tset_tp {is : List Nat} {xs : List MV} {e : En} : (Tg.tp is).set (.tup xs) e = tgSets is xs e := rfl

/-! ### objects in the heap: everything by h[l]? -/
def isL : Option MO → Bool
  | some (.lst _) => true
  | _ => false
def lstO : Option MO → Option (List MV)
  | some (.lst xs) => some xs
  | _ => none
def appR (h : MH) (l : Nat) (v : MV) : Option MO → Option (MV × MH)
  | some (.lst xs) => if xs.length < sizeLine then some (.non, h.set l (.lst (xs ++ [v]))) else none
  | _ => none
def popR (h : MH) (l : Nat) : Option MO → Option (MV × MH)
  | some (.lst xs) => match xs[xs.length - 1]? with
    | some y => some (y, h.set l (.lst xs.dropLast))
    | none => none
  | _ => none
section
variable {h : MH} {l : Nat} {xs : List MV}
@[simp] theorem isL_lst : isL (some (.lst xs)) = true := rfl
@[simp] theorem lstO_lst : lstO (some (.lst xs)) = some xs := rfl
@[simp] theorem recv_l {m : Mt} : recvO m (.loc l) h = isL h[l]? := by
  cases e : h[l]? with
  | none => simp [recvO, isL, e]
  | some o => cases o <;> simp [recvO, isL, e]
@[simp] theorem app_l {v : MV} : mtO .append (.loc l) [v] h = appR h l v h[l]? := by
  cases e : h[l]? with
  | none => simp [mtO, appR, e]
  | some o => cases o <;> simp [mtO, appR, e]
theorem appR_lst {v : MV} (hz : xs.length < 16777216) : appR h l v (some (.lst xs)) = some (.non, h.set l (.lst (xs ++ [v]))) := by
  show (if xs.length < sizeLine then _ else _) = _
  rw [if_pos (show xs.length < sizeLine from hz)]
@[simp] theorem pop_l : mtO .pop (.loc l) [] h = popR h l h[l]? := by
  cases e : h[l]? with
  | none => simp [mtO, popR, e]
  | some o =>
    cases o with
    | lst xs => simp only [mtO, popR, e] <;> rfl
    | ins _ _ => simp [mtO, popR, e]
@[simp] theorem popR_lst {x : MV} : popR h l (some (.lst (xs ++ [x]))) = some (x, h.set l (.lst xs)) := by
  unfold popR
  simp
@[simp] theorem len_l : biO .len [.loc l] h = (lstO h[l]?).map fun xs => (.int xs.length, h) := by
  cases e : h[l]? with
  | none => simp [biO, itemsO, lstO, e]
  | some o => cases o <;> simp [biO, itemsO, lstO, e]
@[simp] theorem items_l : itemsO (.loc l) h = lstO h[l]? := by
  cases e : h[l]? with
  | none => simp [itemsO, lstO, e]
  | some o => cases o <;> simp [itemsO, lstO, e]
@[simp] theorem tru_l : truO (.loc l) h = (lstO h[l]?).map fun xs => !xs.isEmpty := by
  cases e : h[l]? with
  | none => simp [truO, lstO, e]
  | some o => cases o <;> simp [truO, lstO, e]
@[simp] theorem ix_l {i : Int} : ixO (.loc l) (.int i) h = (lstO h[l]?).bind fun xs => L2.atI xs i := by
  unfold ixO
  simp only [items_l]
@[simp] theorem ix_t {i : Int} : ixO (.tup xs) (.int i) h = L2.atI xs i := rfl
@[simp] theorem ix_r {i : Int} : ixO (.rol xs) (.int i) h = L2.atI xs i := rfl
@[simp] theorem tuple_l : biO .tuple [.loc l] h = (lstO h[l]?).map fun xs => (.tup xs, h) := by
  cases e : h[l]? with
  | none => simp [biO, itemsO, lstO, e]
  | some o => cases o <;> simp [biO, itemsO, lstO, e]
@[simp] theorem list_l : biO .list [.loc l] h = (lstO h[l]?).map fun xs => (.loc h.length, h ++ [.lst xs]) := by
  cases e : h[l]? with
  | none => simp [biO, itemsO, lstO, e]
  | some o => cases o <;> simp [biO, itemsO, lstO, e]
theorem src_l (e : h[l]? = some (.lst xs)) : srcO .val [.loc l] h = some (srcL l) := by
  simp only [srcO, e]
  rfl
/-! places -/
theorem atI_lit {n : Nat} : L2.atI xs (n : Int) = xs[n]? := by
  by_cases hn : n < xs.length
  · rw [List.getElem?_eq_getElem hn]
    exact L2.atI_nat (List.getElem?_eq_getElem hn)
  · rw [List.getElem?_eq_none (Nat.le_of_not_lt hn)]
    unfold L2.atI L2.ixN
    rw [if_pos (by omega), if_neg (by omega)]
    rfl
theorem atI_pos {i : Int} (hi : 0 ≤ i) : L2.atI xs i = xs[i.toNat]? := by
  have : i = (i.toNat : Int) := by omega
  rw [this, atI_lit]
  congr 1
@[simp] theorem atI_zero : L2.atI xs 0 = xs[0]? := atI_lit (n := 0)
@[simp] theorem atI_one : L2.atI xs 1 = xs[1]? := atI_lit (n := 1)
@[simp] theorem get_c0 {α : Type} {a : α} {r : List α} : (a :: r)[0]? = some a := rfl
@[simp] theorem get_cs {α : Type} {a : α} {r : List α} {n : Nat} : (a :: r)[n + 1]? = r[n]? := rfl
@[simp] theorem get_last {o : MO} : (h ++ [o])[h.length]? = some o := by
  rw [List.getElem?_append_right (Nat.le_refl _)]
  simp
@[simp] theorem get_len {r : MH} : (h ++ r)[h.length]? = r[0]? := by
  rw [List.getElem?_append_right (Nat.le_refl _)]
  simp
@[simp] theorem get_len1 {r : MH} {n : Nat} : (h ++ r)[h.length + n]? = r[n]? := by
  rw [List.getElem?_append_right (Nat.le_add_right _ _)]
  simp
theorem get_old {r : MH} (hl : l < h.length) : (h ++ r)[l]? = h[l]? := List.getElem?_append_left hl
@[simp] theorem set_last {o o' : MO} : (h ++ [o]).set h.length o' = h ++ [o'] := by
  rw [List.set_append_right _ _ (Nat.le_refl _)]
  simp
end
end MP
end
section
set_option Elab.async false
set_option linter.all false
set_option maxRecDepth 100000
set_option maxHeartbeats 4000000
/-! MP, part l: what the laws' own draws do. -/
namespace MP
open PySem
local macro_rules | `(tactic| walk_at "mp") => `(tactic| simp (disch := first | omega | assumption | (simp; omega) | decide +kernel) [Fn.start, List.replicate, tst_eq, mul_r, mul_l, fdiv_ii, mod_ii, amul_r, eqO_ss, src_rng1, src_rng2, for_list, tgSets, appR_lst, ↓reduceIte])
def dw0 : List S := [.expr (.mt .append (.var 4) [.bin .mod (.bi .int [.var 3]) (.var 1)]), .asg (.nm 3) (.bin .fdiv (.var 3) (.var 1))]
def dw1 : List S := [.asg (.nm 6) (.bin .mod (.bi .int [.bin .mul (.bin .add (.bin .add (.var 3) (.bin .mul (.lit (.int 7)) (.var 5))) (.lit (.int 1))) (.lit (.int 48271))]) (.lit (.int 2147483647))), .asg (.nm 6) (.bin .mod (.bi .int [.bin .add (.bin .mul (.var 6) (.lit (.int 69621))) (.bin .mul (.lit (.int 31)) (.var 5))]) (.lit (.int 2147483629))), .expr (.mt .append (.var 4) [.bin .mod (.bi .int [.bin .fdiv (.var 6) (.lit (.int 7))]) (.var 1)])]
def drawsB : List S := [.asg (.nm 3) (.var 0),
    .iff (.cmp .lt (.var 3) (.lit (.int 0))) [.asg (.nm 3) (.bin .sub (.lit (.int 0)) (.var 3))] [],
    .asg (.nm 4) (.lst []),
    .iff (.cmp .ge (.var 3) (.bin .pow (.lit (.int 10)) (.lit (.int 18)))) [.for_ (.nm 5) .rng1 [.var 2] dw0, .ret (.var 4)] [],
    .for_ (.nm 5) .rng1 [.var 2] dw1,
    .ret (.var 4)]
def DI (c m : Int) (n : Nat) (h : MH) (i : Nat) (e : En) (h' : MH) : Prop := ∃ (num : Int) (e5 e6 : Option MV) (xs : List Int), e = [some (.int c), some (.int m), some (.int n), some (.int num), some (.loc h.length), e5, e6] ∧ h' = h ++ [.lst (xs.map .int)] ∧ xs.length = i ∧ ∀ x ∈ xs, 0 ≤ x ∧ x < m
theorem draws_b0 (C : Cl) {c m num : Int} {n k : Nat} {e6 : Option MV} {h : MH} {xs : List MV} (hm : 0 < m ∧ m < 1073741824) (hx : xs.length < 16777216) :
    Ss.den C dw0 [some (.int c), some (.int m), some (.int n), some (.int num), some (.loc h.length), some (.int (0 + (k : Nat))), e6] (h ++ [.lst xs]) = .nx [some (.int c), some (.int m), some (.int n), some (.int (num / m)), some (.loc h.length), some (.int (0 + (k : Nat))), e6] (h ++ [.lst (xs ++ [.int (num % m)])]) := by
  unfold dw0
  walk_at "mp"
def dmix (num : Int) (k : Nat) : Int := ((num + 7 * (0 + (k : Nat)) + 1) * 48271 % 2147483647 * 69621 + 31 * (0 + (k : Nat))) % 2147483629
theorem draws_b1 (C : Cl) {c m num : Int} {n k : Nat} {e6 : Option MV} {h : MH} {xs : List MV} (hm : 0 < m ∧ m < 1073741824) (hx : xs.length < 16777216) :
    Ss.den C dw1 [some (.int c), some (.int m), some (.int n), some (.int num), some (.loc h.length), some (.int (0 + (k : Nat))), e6] (h ++ [.lst xs]) = .nx [some (.int c), some (.int m), some (.int n), some (.int num), some (.loc h.length), some (.int (0 + (k : Nat))), some (.int (dmix num k))] (h ++ [.lst (xs ++ [.int (dmix num k / 7 % m)])]) := by
  unfold dw1 dmix
  walk_at "mp"
theorem draws_s0 (C : Cl) {c m : Int} {n : Nat} {h : MH} (hm : 0 < m ∧ m < 1073741824) (hn : n < 10000) (k : Nat) (v : MV) (e : En) (h' : MH) (hk : (rngL 0 n)[k]? = some v) (q : DI c m n h (0 + k) e h') :
    ∃ e' e2 h2, (Tg.nm 5).set v e = some e' ∧ (Ss.den C dw0 e' h' = .nx e2 h2 ∨ Ss.den C dw0 e' h' = .ct e2 h2) ∧ DI c m n h (0 + k + 1) e2 h2 := by
  obtain ⟨num, e5, e6, xs, rfl, rfl, hl, hb⟩ := q
  obtain ⟨hk, rfl⟩ := rngL_at hk
  have hx : (xs.map MV.int).length < 16777216 := by rw [List.length_map]; omega
  refine ⟨_, _, _, rfl, .inl (draws_b0 C hm hx), num / m, some (.int (0 + k)), e6, xs ++ [num % m], rfl, by simp, by simp; omega, fun x hx => ?_⟩
  rcases List.mem_append.mp hx with hx | hx
  · exact hb x hx
  · rw [List.mem_singleton.mp hx]
    exact ⟨Int.emod_nonneg _ (by omega), Int.emod_lt_of_pos _ (by omega)⟩
theorem draws_s1 (C : Cl) {c m : Int} {n : Nat} {h : MH} (hm : 0 < m ∧ m < 1073741824) (hn : n < 10000) (k : Nat) (v : MV) (e : En) (h' : MH) (hk : (rngL 0 n)[k]? = some v) (q : DI c m n h (0 + k) e h') :
    ∃ e' e2 h2, (Tg.nm 5).set v e = some e' ∧ (Ss.den C dw1 e' h' = .nx e2 h2 ∨ Ss.den C dw1 e' h' = .ct e2 h2) ∧ DI c m n h (0 + k + 1) e2 h2 := by
  obtain ⟨num, e5, e6, xs, rfl, rfl, hl, hb⟩ := q
  obtain ⟨hk, rfl⟩ := rngL_at hk
  have hx : (xs.map MV.int).length < 16777216 := by rw [List.length_map]; omega
  refine ⟨_, _, _, rfl, .inl (draws_b1 C hm hx), num, some (.int (0 + k)), some (.int (dmix num k)), xs ++ [dmix num k / 7 % m], rfl, by simp, by simp; omega, fun x hx => ?_⟩
  rcases List.mem_append.mp hx with hx | hx
  · exact hb x hx
  · rw [List.mem_singleton.mp hx]
    exact ⟨Int.emod_nonneg _ (by omega), Int.emod_lt_of_pos _ (by omega)⟩
end MP
end
section
set_option Elab.async false
set_option linter.all false
set_option maxRecDepth 100000
/-! MP, part m: the laws' own draws, the end. -/
namespace MP
open PySem
theorem draws_test (C : Cl) (c m n h0 : MV) (h : MH) (num : Int) : ∃ b : Bool, E.tst C (.cmp .ge (.var 3) (.bin .pow (.lit (.int 10)) (.lit (.int 18)))) [some c, some m, some n, some (.int num), some h0, none, none] h = .ok b h := by
  have e : E.den C (.bin .pow (.lit (.int 10)) (.lit (.int 18))) [some c, some m, some n, some (.int num), some h0, none, none] h = .ok (.int 1000000000000000000) h := by
    rw [den_bin, den_lit]
    show (E.den C (.lit (.int 18)) [some c, some m, some n, some (.int num), some h0, none, none] h).bind (fun y h2 => oP (binO .pow (.int 10) y h2)) = _
    rw [den_lit]
    show oP (binO .pow (.int 10) (.int 18) h) = _
    rw [pow_10_18]
    rfl
  rw [tst_eq, den_cmp, den_var]
  show ∃ b, ((E.den C (.bin .pow (.lit (.int 10)) (.lit (.int 18))) [some c, some m, some n, some (.int num), some h0, none, none] h).bind fun y h2 => (oR h2 (cmpO .ge (.int num) y h2)).bind fun k h3 => Res.ok (MV.bl k) h3).bind (fun x h1 => oR h1 (truO x h1)) = _
  rw [e]
  generalize (1000000000000000000 : Int) = k
  exact ⟨decide (num ≥ k), rfl⟩
theorem seqNx {e : En} {h : MH} {k : En → MH → SR} : (SR.nx e h).seq k = k e h := rfl
section
variable {C : Cl} {e : En} {h h1 : MH} {c : E} {ss tt ff : List S} {es : List E} {k : IK} {t : Tg} {vs : List MV} {src : Src}
theorem run_for_at (q1 : Es.den C es e h = .ok vs h1) (q2 : srcO k vs h1 = some src) : S.den C (.for_ t k es ss) e h = loop .bad (forTurn src t (fun e h => Ss.den C ss e h)) 0 (e, h1) := by
  rw [run_for, q1]
  simp only [Res.sr]
  rw [q2]
theorem iff_t (hb : E.tst C c e h = .ok true h1) : S.den C (.iff c tt ff) e h = Ss.den C tt e h1 := by
  rw [run_iff, hb]
  rfl
theorem iff_f (hb : E.tst C c e h = .ok false h1) : S.den C (.iff c tt ff) e h = Ss.den C ff e h1 := by
  rw [run_iff, hb]
  rfl
end
theorem dens1 {C : Cl} {e : En} {h : MH} {a : E} {v : MV} (q : E.den C a e h = .ok v h) : Es.den C [a] e h = .ok [v] h := by
  rw [dens_cons, q]
  show (Es.den C [] e h).bind (fun vs h2 => Res.ok (v :: vs) h2) = _
  rw [dens_nil]
  rfl
theorem for_rets (C : Cl) {L : List MV} {src : Src} {a i r : Nat} {b : List S} {e e2 : En} {h h2 : MH} {v w : MV} (ha : envGet e a = some w) (e1 : srcO .rng1 [w] h = some src) (hsrc : src = fun i _ => some L[i]?) (q : forL (.nm i) (fun e h => Ss.den C b e h) L e h = .nx e2 h2) (hr : envGet e2 r = some v) :
    Ss.den C [.for_ (.nm i) .rng1 [.var a] b, .ret (.var r)] e h = .rt v h2 := by
  have e0 : Es.den C [.var a] e h = .ok [w] h := dens1 (by rw [den_var, ha]; rfl)
  rw [run_cons, run_for_at e0 e1, hsrc, for_list, q]
  show Ss.den C [.ret (.var r)] e2 h2 = _
  rw [run_cons, run_ret, den_var, hr]
  rfl
/-- a loop of so many turns and an answer -/
theorem for_ret (C : Cl) {n a i r : Nat} {b : List S} {e e2 : En} {h h2 : MH} {v : MV} (hn : n < 10000) (ha : envGet e a = some (.int n)) (q : forL (.nm i) (fun e h => Ss.den C b e h) (rngL 0 n) e h = .nx e2 h2) (hr : envGet e2 r = some v) :
    Ss.den C [.for_ (.nm i) .rng1 [.var a] b, .ret (.var r)] e h = .rt v h2 :=
  for_rets C ha (src_rng1 (by omega) (by omega)) rfl q hr
/-- a loop of so many turns, then the rest -/
theorem for_rest (C : Cl) {n i : Nat} {as : List E} {b r : List S} {e e2 : En} {h h1 h2 : MH} (hn : n < 10000) (ha : Es.den C as e h = .ok [.int n] h1) (q : forL (.nm i) (fun e h => Ss.den C b e h) (rngL 0 n) e h1 = .nx e2 h2) :
    Ss.den C (.for_ (.nm i) .rng1 as b :: r) e h = Ss.den C r e2 h2 := by
  have e1 : ∀ {src : Src} {L : List MV}, srcO .rng1 [.int (n : Int)] h1 = some src → (src = fun i _ => some L[i]?) → forL (.nm i) (fun e h => Ss.den C b e h) L e h1 = .nx e2 h2 → Ss.den C (.for_ (.nm i) .rng1 as b :: r) e h = Ss.den C r e2 h2 := by
    intro src L e1 hsrc q
    rw [run_cons, run_for_at ha e1, hsrc, for_list, q, seqNx]
  exact e1 (src_rng1 (by omega) (by omega)) rfl q
theorem draws_go {c m : Int} {n : Nat} {h : MH} (num : Int) : DI c m n h 0 [some (.int c), some (.int m), some (.int n), some (.int num), some (.loc h.length), none, none] (h ++ [.lst []]) := ⟨num, none, none, [], rfl, rfl, rfl, fun _ z => nomatch z⟩
theorem draws_fin (C : Cl) {c m : Int} {n : Nat} {h : MH} (b : List S) (hn : n < 10000) (num : Int) (hs : ∀ (k : Nat) (v : MV) (e : En) (h' : MH) (hk : (rngL 0 n)[k]? = some v) (q : DI c m n h (0 + k) e h'), ∃ e' e2 h2, (Tg.nm 5).set v e = some e' ∧ (Ss.den C b e' h' = .nx e2 h2 ∨ Ss.den C b e' h' = .ct e2 h2) ∧ DI c m n h (0 + k + 1) e2 h2) :
    ∃ xs : List Int, xs.length = n ∧ (∀ x ∈ xs, 0 ≤ x ∧ x < m) ∧ Ss.den C [.for_ (.nm 5) .rng1 [.var 2] b, .ret (.var 4)] [some (.int c), some (.int m), some (.int n), some (.int num), some (.loc h.length), none, none] (h ++ [.lst []]) = .rt (.loc h.length) (h ++ [.lst (xs.map .int)]) := by
  obtain ⟨e2, h2, q, q2⟩ := forL_inv (b := fun e h => Ss.den C b e h) (DI c m n h) (rngL 0 n) 0 _ _ (draws_go num) hs
  obtain ⟨num', e5, e6, xs, rfl, rfl, hl, hb⟩ := q2
  exact ⟨xs, by simpa using hl, hb, for_ret C hn rfl q rfl⟩
def drawsC : List S := [.iff (.cmp .ge (.var 3) (.bin .pow (.lit (.int 10)) (.lit (.int 18)))) [.for_ (.nm 5) .rng1 [.var 2] dw0, .ret (.var 4)] [],
      .for_ (.nm 5) .rng1 [.var 2] dw1, .ret (.var 4)]
theorem draws_key (C : Cl) {c m : Int} {n : Nat} {h : MH} (hm : 0 < m ∧ m < 1073741824) (hn : n < 10000) (num : Int) : ∃ xs : List Int, xs.length = n ∧ (∀ x ∈ xs, 0 ≤ x ∧ x < m) ∧ Ss.den C drawsC [some (.int c), some (.int m), some (.int n), some (.int num), some (.loc h.length), none, none] (h ++ [.lst []]) = .rt (.loc h.length) (h ++ [.lst (xs.map .int)]) := by
  obtain ⟨b, hb⟩ := draws_test C (.int c) (.int m) (.int n) (.loc h.length) (h ++ [.lst []]) num
  unfold drawsC
  cases b with
  | true =>
    obtain ⟨xs, h1, h2, h3⟩ := draws_fin C dw0 hn num (draws_s0 C hm hn)
    refine ⟨xs, h1, h2, ?_⟩
    rw [run_cons, iff_t hb, h3]
    rfl
  | false =>
    obtain ⟨xs, h1, h2, h3⟩ := draws_fin C dw1 hn num (draws_s1 C hm hn)
    refine ⟨xs, h1, h2, ?_⟩
    rw [run_cons, iff_f hb, run_nil, seqNx]
    exact h3
/-- draws: a new list of so many numbers below the modulus -/
theorem draws_ok (C : Cl) (c m : Int) (n : Nat) (h : MH) (hm : 0 < m ∧ m < 1073741824) (hn : n < 10000) :
    ∃ xs : List Int, xs.length = n ∧ (∀ x ∈ xs, 0 ≤ x ∧ x < m) ∧ Ss.den C drawsB [some (.int c), some (.int m), some (.int n), none, none, none, none] h = .rt (.loc h.length) (h ++ [.lst (xs.map .int)]) := by
  have key : ∀ num : Int, Ss.den C (.asg (.nm 4) (.lst []) :: drawsC) [some (.int c), some (.int m), some (.int n), some (.int num), none, none, none] h = Ss.den C drawsC [some (.int c), some (.int m), some (.int n), some (.int num), some (.loc h.length), none, none] (h ++ [.lst []]) := by
    intro num
    rw [run_cons, run_asg, den_lst, dens_nil]
    rfl
  have top : Ss.den C drawsB [some (.int c), some (.int m), some (.int n), none, none, none, none] h = Ss.den C (.asg (.nm 4) (.lst []) :: drawsC) [some (.int c), some (.int m), some (.int n), some (.int (if c < 0 then 0 - c else c)), none, none, none] h := by
    show Ss.den C (.asg (.nm 3) (.var 0) :: .iff (.cmp .lt (.var 3) (.lit (.int 0))) [.asg (.nm 3) (.bin .sub (.lit (.int 0)) (.var 3))] [] :: (.asg (.nm 4) (.lst []) :: drawsC)) _ h = _
    generalize (S.asg (.nm 4) (.lst []) :: drawsC) = r
    by_cases hc : c < 0
    · simp [hc, tst_eq, tgSets]
    · simp [hc, tst_eq, tgSets]
  rw [top, key]
  exact draws_key C hm hn _
end MP
end
section
set_option Elab.async false
set_option linter.all false
set_option maxRecDepth 100000
set_option maxHeartbeats 4000000
/-! MP, part n: the laws' own draw out of a state. -/
namespace MP
open PySem
/-! stores and other rules -/
section
variable {h : MH} {l : Nat} {xs : List MV}
theorem ixN_pos {n : Nat} {i : Int} (h1 : 0 ≤ i) (h2 : i < n) : L2.ixN n i = some i.toNat := by
  unfold L2.ixN
  rw [if_pos h1, if_pos (by omega)]
@[simp] theorem set_l {i : Int} {v : MV} : setIxO (.loc l) (.int i) v h = (lstO h[l]?).bind fun xs => (L2.ixN xs.length i).map fun j => h.set l (.lst (xs.set j v)) := by
  cases e : h[l]? with
  | none => simp [setIxO, lstO, e]
  | some o => cases o <;> simp [setIxO, lstO, e]
end
@[simp] theorem ty_i {i : Int} {h : MH} : tyNmM (.int i) h = some "int" := rfl
@[simp] theorem ty_b {b : Bool} {h : MH} : tyNmM (.bl b) h = some "bool" := rfl
@[simp] theorem ty_n {h : MH} : tyNmM .non h = some "NoneType" := rfl
@[simp] theorem ty_s {x : Str} {h : MH} : tyNmM (.str x) h = some "str" := rfl
@[simp] theorem ty_t {xs : List MV} {h : MH} : tyNmM (.tup xs) h = some "tuple" := rfl
@[simp] theorem ty_r {xs : List MV} {h : MH} : tyNmM (.rol xs) h = some "list" := rfl
@[simp] theorem bi_isList {x : MV} {h : MH} : biO .isList [x] h = (tyNmM x h).map fun t => (.bl (t == "list"), h) := rfl
@[simp] theorem bi_isTup {x : MV} {h : MH} : biO .isTup [x] h = (tyNmM x h).map fun t => (.bl (t == "tuple"), h) := rfl
@[simp] theorem bi_isStr {x : MV} {h : MH} : biO .isStr [x] h = (tyNmM x h).map fun t => (.bl (t == "str"), h) := rfl
def tenE18 : Int := 1000000000000000000
theorem ten_ge (C : Cl) (e : En) (h : MH) (i : Nat) (c : Int) (he : envGet e i = some (.int c)) : E.tst C (.cmp .ge (.var i) (.bin .pow (.lit (.int 10)) (.lit (.int 18)))) e h = .ok (decide (tenE18 ≤ c)) h := by
  have e1 : E.den C (.bin .pow (.lit (.int 10)) (.lit (.int 18))) e h = .ok (.int tenE18) h := by
    rw [den_bin, den_lit]
    show (E.den C (.lit (.int 18)) e h).bind (fun y h2 => oP (binO .pow (.int 10) y h2)) = _
    rw [den_lit]
    show oP (binO .pow (.int 10) (.int 18) h) = _
    rw [pow_10_18]
    rfl
  rw [tst_eq, den_cmp, den_var, he]
  show ((E.den C (.bin .pow (.lit (.int 10)) (.lit (.int 18))) e h).bind fun y h2 => (oR h2 (cmpO .ge (.int c) y h2)).bind fun k h3 => Res.ok (MV.bl k) h3).bind (fun x h1 => oR h1 (truO x h1)) = _
  rw [e1]
  generalize tenE18 = k
  rfl
/-- a heap that begins with the script's copy and the state -/
def dS (ns : List Int) (t : Int × Nat × Int) (g : MH) : MH := .lst (ns.map .int) :: .lst [.int t.1, .int t.2.1, .loc 0, .int t.2.2] :: g
section
variable {ns : List Int} {t : Int × Nat × Int} {g : MH}
@[simp] theorem dS_app {x : MH} : dS ns t g ++ x = dS ns t (g ++ x) := rfl
@[simp] theorem dS_len : (dS ns t g).length = g.length + 2 := rfl
@[simp high] theorem dS_get {n : Nat} : (dS ns t g)[n + 2]? = g[n]? := rfl
@[simp] theorem dS_set {n : Nat} {o : MO} : (dS ns t g).set (n + 2) o = dS ns t (g.set n o) := rfl
theorem dS_0 : (dS ns t g)[0]? = some (.lst (ns.map .int)) := rfl
theorem dS_1 : (dS ns t g)[1]? = some (.lst [.int t.1, .int t.2.1, .loc 0, .int t.2.2]) := rfl
end
def dCell (ns : List Int) (p : Nat) : Int := (ns[p]?).getD 0
def dC (ns : List Int) (t : Int × Nat × Int) : Int := (t.2.2 + dCell ns t.2.1 % 2147483629 + t.2.1 + 1) * 48271 % 2147483647
def dMix (c : Int) : Int := (c * 69621 + 11) % 2147483629
/-- refilled, if it is below the limit -/
def dR (ns : List Int) (t : Int × Nat × Int) : Int × Nat × Int :=
  if tenE18 ≤ dCell ns t.2.1 then (dCell ns t.2.1, t.2.1 + 1, t.2.2) else
  (dMix (dC ns t) * 2147483647 + (dMix (dC ns t) * 30011 + dC ns t) % 2147483587, t.2.1 + 1, dC ns t)
def dA (ns : List Int) (m : Int) (t : Int × Nat × Int) : Int × Nat × Int := if t.1 < m then dR ns t else t
/-- the drawn number -/
def dV (ns : List Int) (m : Int) (t : Int × Nat × Int) : Int := (dA ns m t).1 % m
/-- the state behind it -/
def dT (ns : List Int) (m : Int) (t : Int × Nat × Int) : Int × Nat × Int := ((dA ns m t).1 / m, (dA ns m t).2.1, (dA ns m t).2.2)
theorem dV_lo {ns : List Int} {m : Int} {t : Int × Nat × Int} (h : 0 < m) : 0 ≤ dV ns m t := Int.emod_nonneg _ (by omega)
theorem dV_hi {ns : List Int} {m : Int} {t : Int × Nat × Int} (h : 0 < m) : dV ns m t < m := Int.emod_lt_of_pos _ h
def dr0 : List S := [.setIx (.var 0) (.lit (.int 0)) (.var 4)]
def dr1 : List S := [.setIx (.var 0) (.lit (.int 3)) (.bin .mod (.bi .int [.bin .mul (.bin .add (.bin .add (.bin .add (.ix (.var 0) (.lit (.int 3))) (.bin .mod (.bi .int [.var 4]) (.lit (.int 2147483629)))) (.var 3)) (.lit (.int 1))) (.lit (.int 48271))]) (.lit (.int 2147483647))), .asg (.nm 5) (.bin .mod (.bi .int [.bin .add (.bin .mul (.ix (.var 0) (.lit (.int 3))) (.lit (.int 69621))) (.lit (.int 11))]) (.lit (.int 2147483629))), .setIx (.var 0) (.lit (.int 0)) (.bin .add (.bin .mul (.var 5) (.lit (.int 2147483647))) (.bin .mod (.bi .int [.bin .add (.bin .mul (.var 5) (.lit (.int 30011))) (.ix (.var 0) (.lit (.int 3)))]) (.lit (.int 2147483587))))]
def drC : List S := [.iff (.cmp .lt (.var 3) (.bi .len [.ix (.var 0) (.lit (.int 2))])) [.asg (.nm 4) (.ix (.ix (.var 0) (.lit (.int 2))) (.var 3))] [], .iff (.cmp .ge (.var 4) (.bin .pow (.lit (.int 10)) (.lit (.int 18)))) dr0 dr1]
def drE : List S := [.asg (.nm 2) (.bin .mod (.bi .int [.ix (.var 0) (.lit (.int 0))]) (.var 1)),
    .setIx (.var 0) (.lit (.int 0)) (.bin .fdiv (.ix (.var 0) (.lit (.int 0))) (.var 1)),
    .ret (.var 2)]
def drB : List S := .iff (.cmp .lt (.ix (.var 0) (.lit (.int 0))) (.var 1)) (.asg (.nm 3) (.ix (.var 0) (.lit (.int 1))) :: .setIx (.var 0) (.lit (.int 1)) (.bin .add (.var 3) (.lit (.int 1))) :: .asg (.nm 4) (.lit (.int 0)) :: drC) [] :: drE
local macro_rules | `(tactic| walk_at "mp") => `(tactic| simp (disch := first | omega | assumption | (simp; omega) | decide +kernel) [tst_eq, mul_r, fdiv_ii, mod_ii, dS_0, dS_1, atI_pos, ixN_pos])
theorem dr1_ok (C : Cl) {ns : List Int} {a c m cell : Int} {p q : Nat} {e2 e5 : Option MV} {g : MH} :
    ∃ f5, Ss.den C dr1 [some (.loc 1), some (.int m), e2, some (.int p), some (.int cell), e5] (.lst (ns.map .int) :: .lst [.int a, .int q, .loc 0, .int c] :: g) =
    .nx [some (.loc 1), some (.int m), e2, some (.int p), some (.int cell), f5] (.lst (ns.map .int) :: .lst [.int (dMix ((c + cell % 2147483629 + p + 1) * 48271 % 2147483647) * 2147483647 + (dMix ((c + cell % 2147483629 + p + 1) * 48271 % 2147483647) * 30011 + (c + cell % 2147483629 + p + 1) * 48271 % 2147483647) % 2147483587), .int q, .loc 0, .int ((c + cell % 2147483629 + p + 1) * 48271 % 2147483647)] :: g) := by
  refine ⟨some (.int (dMix ((c + cell % 2147483629 + p + 1) * 48271 % 2147483647))), ?_⟩
  unfold dr1 dMix
  walk_at "mp"
theorem dr0_ok (C : Cl) {ns : List Int} {a c m cell : Int} {p q : Nat} {e2 e5 : Option MV} {g : MH} :
    Ss.den C dr0 [some (.loc 1), some (.int m), e2, some (.int p), some (.int cell), e5] (.lst (ns.map .int) :: .lst [.int a, .int q, .loc 0, .int c] :: g) =
    .nx [some (.loc 1), some (.int m), e2, some (.int p), some (.int cell), e5] (.lst (ns.map .int) :: .lst [.int cell, .int q, .loc 0, .int c] :: g) := by
  unfold dr0
  walk_at "mp"
theorem drCell_ok (C : Cl) {ns : List Int} {a c m : Int} {p q : Nat} {e2 e5 : Option MV} {g : MH} :
    S.den C (.iff (.cmp .lt (.var 3) (.bi .len [.ix (.var 0) (.lit (.int 2))])) [.asg (.nm 4) (.ix (.ix (.var 0) (.lit (.int 2))) (.var 3))] []) [some (.loc 1), some (.int m), e2, some (.int p), some (.int 0), e5] (.lst (ns.map .int) :: .lst [.int a, .int q, .loc 0, .int c] :: g) =
    .nx [some (.loc 1), some (.int m), e2, some (.int p), some (.int (dCell ns p)), e5] (.lst (ns.map .int) :: .lst [.int a, .int q, .loc 0, .int c] :: g) := by
  unfold dCell
  by_cases hp : p < ns.length
  · have e1 : (ns.map MV.int)[p]? = some (.int ns[p]) := by rw [List.getElem?_map, List.getElem?_eq_getElem hp]; rfl
    have e2 : ns[p]? = some ns[p] := List.getElem?_eq_getElem hp
    have e3 : (p : Int) < (ns.length : Int) := by omega
    rw [e2]
    simp [tst_eq, atI_pos, e1, hp, atI_lit, List.getElem?_map, e2]
  · have e2 : ns[p]? = none := List.getElem?_eq_none (by omega)
    have e3 : ¬ (p : Int) < (ns.length : Int) := by omega
    rw [e2]
    simp [tst_eq, atI_pos, hp]
theorem drC_ok (C : Cl) {ns : List Int} {a c m : Int} {p : Nat} {e2 e5 : Option MV} {g : MH} :
    ∃ f4 f5, Ss.den C drC [some (.loc 1), some (.int m), e2, some (.int p), some (.int 0), e5] (.lst (ns.map .int) :: .lst [.int a, .int ((p : Int) + 1), .loc 0, .int c] :: g) =
    .nx [some (.loc 1), some (.int m), e2, some (.int p), f4, f5] (dS ns (dR ns (a, p, c)) g) := by
  have hp : ((p : Int) + 1) = ((p + 1 : Nat) : Int) := by omega
  unfold drC
  rw [hp, run_cons, drCell_ok, seqNx, run_cons]
  have ht := ten_ge C [some (.loc 1), some (.int m), e2, some (.int p), some (.int (dCell ns p)), e5] (.lst (ns.map .int) :: .lst [.int a, .int ((p + 1 : Nat) : Int), .loc 0, .int c] :: g) 4 (dCell ns p) (by simp)
  by_cases hc : tenE18 ≤ dCell ns p
  · rw [decide_eq_true hc] at ht
    rw [iff_t ht, dr0_ok, seqNx, run_nil]
    refine ⟨some (.int (dCell ns p)), e5, ?_⟩
    unfold dR
    rw [if_pos hc]
    rfl
  · rw [decide_eq_false hc] at ht
    obtain ⟨f5, q⟩ := dr1_ok C (ns := ns) (a := a) (c := c) (m := m) (cell := dCell ns p) (p := p) (q := p + 1) (e2 := e2) (e5 := e5) (g := g)
    rw [iff_f ht, q, seqNx, run_nil]
    refine ⟨some (.int (dCell ns p)), f5, ?_⟩
    unfold dR
    rw [if_neg hc]
    rfl
theorem drE_ok (C : Cl) {ns : List Int} {m : Int} {t : Int × Nat × Int} {e2 e3 e4 e5 : Option MV} {g : MH} (hm : 0 < m ∧ m < 1073741824) :
    Ss.den C drE [some (.loc 1), some (.int m), e2, e3, e4, e5] (dS ns t g) = .rt (.int (t.1 % m)) (dS ns (t.1 / m, t.2.1, t.2.2) g) := by
  unfold drE dS
  walk_at "mp"
theorem drP_ok (C : Cl) {ns : List Int} {m : Int} {a c : Int} {p : Nat} {e2 e5 : Option MV} {e3 e4 : Option MV} {g : MH} {r : List S} :
    Ss.den C (.asg (.nm 3) (.ix (.var 0) (.lit (.int 1))) :: .setIx (.var 0) (.lit (.int 1)) (.bin .add (.var 3) (.lit (.int 1))) :: .asg (.nm 4) (.lit (.int 0)) :: r) [some (.loc 1), some (.int m), e2, e3, e4, e5] (dS ns (a, p, c) g) =
    Ss.den C r [some (.loc 1), some (.int m), e2, some (.int p), some (.int 0), e5] (.lst (ns.map .int) :: .lst [.int a, .int ((p : Int) + 1), .loc 0, .int c] :: g) := by
  unfold dS
  walk_at "mp"
/-- the draw -/
theorem draw_ok (C : Cl) (ns : List Int) (t : Int × Nat × Int) (g : MH) (m : Int) (hm : 0 < m ∧ m < 1073741824) :
    Ss.den C drB [some (.loc 1), some (.int m), none, none, none, none] (dS ns t g) = .rt (.int (dV ns m t)) (dS ns (dT ns m t) g) := by
  obtain ⟨a, p, c⟩ := t
  have ht : E.tst C (.cmp .lt (.ix (.var 0) (.lit (.int 0))) (.var 1)) [some (.loc 1), some (.int m), none, none, none, none] (dS ns (a, p, c) g) = .ok (decide (a < m)) (dS ns (a, p, c) g) := by
    unfold dS
    walk_at "mp"
  unfold drB dV dT dA
  rw [run_cons]
  by_cases hc : a < m
  · rw [decide_eq_true hc] at ht
    obtain ⟨f4, f5, q⟩ := drC_ok C (ns := ns) (a := a) (c := c) (m := m) (p := p) (e2 := none) (e5 := none) (g := g)
    rw [iff_t ht, drP_ok, q, seqNx, drE_ok C hm, if_pos hc]
  · rw [decide_eq_false hc] at ht
    rw [iff_f ht, run_nil, seqNx, drE_ok C hm, if_neg hc]
/-! while, turn by turn -/
section
variable {C : Cl} {c : E} {b : En → MH → SR} {e e2 : En} {h h1 h2 : MH} {i : Nat}
theorem whl_stop (ht : E.tst C c e h = .ok false h1) : loop .bad (MP.whileTurn C c b) i (e, h) = .nx e h1 := by
  rw [loop_eq]
  simp only [MP.whileTurn, ht]
theorem whl_step (ht : E.tst C c e h = .ok true h1) (hb : b e h1 = .nx e2 h2) : loop .bad (MP.whileTurn C c b) i (e, h) = loop .bad (MP.whileTurn C c b) (i + 1) (e2, h2) := by
  rw [loop_eq]
  simp only [MP.whileTurn, ht, hb, SR.turn]
end
end MP
end
section
set_option Elab.async false
set_option linter.all false
set_option maxRecDepth 100000
set_option maxHeartbeats 4000000
open PySem PySem.Spec PyProof.Rows MP
namespace Law
set_option maxRecDepth 100000
def b0 : List S := [.iff (.cmp .lt (.var 1) (.lit (.int 65536))) [.ret (.tup [.var 0, .var 1])] [],
    .iff (.and (.cmp .ge (.var 0) (.lit (.int 65536))) (.cmp .lt (.var 1) (.bin .mul (.lit (.int 2)) (.lit (.int 65536))))) [.ret (.tup [.bin .sub (.var 0) (.lit (.int 65536)), .bin .sub (.var 1) (.lit (.int 65536))])] [],
    .ret (.lit (.tup [(.int 0), (.int 65535)]))]
/-- shift(low, high); slots: 0 low, 1 high -/
def f0 : Fn := { name := "shift", ps := ["low", "high"], loc := [], body := b0 }
def x1_0 : E := .cmp .lt (.var 1) (.var 0)
def w1_1 : List S := [.asg (.nm 1) (.bin .add (.bin .mul (.lit (.int 2)) (.var 1)) (.lit (.int 1)))]
def b1 : List S := [.asg (.nm 1) (.lit (.int 0)),
    .whl x1_0 w1_1,
    .ret (.var 1)]
/-- mask(word); slots: 0 word, 1 result -/
def f1 : Fn := { name := "mask", ps := ["word"], loc := ["result"], body := b1 }
def b2 : List S := [.asg (.nm 2) (.bi .max2 [.ix (.var 0) (.lit (.int 0)), .ix (.var 1) (.lit (.int 0))]),
    .asg (.nm 3) (.bi .min2 [.ix (.var 0) (.lit (.int 1)), .ix (.var 1) (.lit (.int 1))]),
    .iff (.cmp .gt (.var 2) (.var 3)) [.ret (.lit .non)] [],
    .ret (.tup [.var 2, .var 3])]
/-- cut(span, other); slots: 0 span, 1 other, 2 low, 3 high -/
def f2 : Fn := { name := "cut", ps := ["span", "other"], loc := ["low", "high"], body := b2 }
def b3 : List S := [.iff (.cmp .lt (.ix (.var 0) (.lit (.int 0))) (.var 1)) [.asg (.nm 3) (.ix (.var 0) (.lit (.int 1))), .setIx (.var 0) (.lit (.int 1)) (.bin .add (.var 3) (.lit (.int 1))), .asg (.nm 4) (.lit (.int 0)), .iff (.cmp .lt (.var 3) (.bi .len [.ix (.var 0) (.lit (.int 2))])) [.asg (.nm 4) (.ix (.ix (.var 0) (.lit (.int 2))) (.var 3))] [], .iff (.cmp .ge (.var 4) (.bin .pow (.lit (.int 10)) (.lit (.int 18)))) [.setIx (.var 0) (.lit (.int 0)) (.var 4)] [.setIx (.var 0) (.lit (.int 3)) (.bin .mod (.bi .int [.bin .mul (.bin .add (.bin .add (.bin .add (.ix (.var 0) (.lit (.int 3))) (.bin .mod (.bi .int [.var 4]) (.lit (.int 2147483629)))) (.var 3)) (.lit (.int 1))) (.lit (.int 48271))]) (.lit (.int 2147483647))), .asg (.nm 5) (.bin .mod (.bi .int [.bin .add (.bin .mul (.ix (.var 0) (.lit (.int 3))) (.lit (.int 69621))) (.lit (.int 11))]) (.lit (.int 2147483629))), .setIx (.var 0) (.lit (.int 0)) (.bin .add (.bin .mul (.var 5) (.lit (.int 2147483647))) (.bin .mod (.bi .int [.bin .add (.bin .mul (.var 5) (.lit (.int 30011))) (.ix (.var 0) (.lit (.int 3)))]) (.lit (.int 2147483587))))]] [],
    .asg (.nm 2) (.bin .mod (.bi .int [.ix (.var 0) (.lit (.int 0))]) (.var 1)),
    .setIx (.var 0) (.lit (.int 0)) (.bin .fdiv (.ix (.var 0) (.lit (.int 0))) (.var 1)),
    .ret (.var 2)]
/-- _law_draw(_law_state, _law_limit); slots: 0 _law_state, 1 _law_limit, 2 _law_value, 3 _law_position, 4 _law_cell, 5 _law_mixed -/
def f3 : Fn := { name := "_law_draw", ps := ["_law_state", "_law_limit"], loc := ["_law_value", "_law_position", "_law_cell", "_law_mixed"], body := b3 }
def b4 : List S := [.asg (.nm 1) (.call 3 [.var 0, .lit (.int 4)]),
    .iff (.cmp .eq (.var 1) (.lit (.int 0))) [.ret (.call 3 [.var 0, .lit (.int 65536)])] [],
    .iff (.cmp .eq (.var 1) (.lit (.int 1))) [.ret (.ix (.lst [.lit (.int 0), .lit (.int 1), .lit (.int 255), .lit (.int 256), .lit (.int 32768), .lit (.int 64511), .lit (.int 64512), .lit (.int 65535)]) (.call 3 [.var 0, .lit (.int 8)]))] [],
    .ret (.call 3 [.var 0, .lit (.int 6)])]
/-- _law_word(_law_state); slots: 0 _law_state, 1 _law_kind -/
def f4 : Fn := { name := "_law_word", ps := ["_law_state"], loc := ["_law_kind"], body := b4 }
def x5_0 : E := .and (.bi .isInt [.var 1]) (.not (.bi .isBool [.var 1]))
def b5 : List S := [.iff (.or (.not (.bi .isTup [.var 0])) (.cmp .ne (.bi .len [.var 0]) (.lit (.int 2)))) [.ret (.lit (.bl false))] [],
    .ret (.bi .allL [.comp [1] (.nm 1) .val [.var 0] x5_0])]
/-- _law_is_span(_law_actual); slots: 0 _law_actual, 1 _law_one -/
def f5 : Fn := { name := "_law_is_span", ps := ["_law_actual"], loc := ["_law_one"], body := b5 }
def b6 : List S := [.asg (.nm 1) (.call 3 [.var 0, .lit (.int 3)]),
    .iff (.cmp .eq (.var 1) (.lit (.int 0))) [.ret (.call 3 [.var 0, .lit (.int 131072)])] [],
    .ret (.bi .min2 [.lit (.int 131071), .bi .max2 [.lit (.int 0), .bin .sub (.bin .add (.ix (.lst [.lit (.int 0), .lit (.int 65535), .lit (.int 65536), .lit (.int 131071), .lit (.int 65537)]) (.call 3 [.var 0, .lit (.int 5)])) (.call 3 [.var 0, .lit (.int 3)])) (.lit (.int 1))]])]
/-- _law_wide(_law_state); slots: 0 _law_state, 1 _law_kind -/
def f6 : Fn := { name := "_law_wide", ps := ["_law_state"], loc := ["_law_kind"], body := b6 }
def x7_0 : E := .cmp .ge (.var 3) (.var 10)
def x7_1 : E := .var 3
def w7_2 : List S := [.asg (.nm 3) (.call 6 [.var 1]), .asg (.nm 4) (.call 6 [.var 1]), .asg (.nm 5) (.bi .min2 [.var 3, .var 4]), .asg (.nm 6) (.bi .max2 [.var 3, .var 4]), .asg (.nm 7) (.call 0 [.var 5, .var 6]), .asg (.nm 8) (.tup [.lit (.int 0), .lit (.int 65535)]), .iff (.cmp .lt (.var 6) (.lit (.int 65536))) [.asg (.nm 8) (.tup [.var 5, .var 6])] [.iff (.cmp .ge (.var 5) (.lit (.int 65536))) [.asg (.nm 8) (.tup [.bin .sub (.var 5) (.lit (.int 65536)), .bin .sub (.var 6) (.lit (.int 65536))])] []], .asg (.nm 9) (.bin .add (.var 5) (.call 3 [.var 1, .bin .add (.bin .sub (.var 6) (.var 5)) (.lit (.int 1))])), .iff (.or (.not (.call 5 [.var 7])) (.or (.cmp .ne (.var 7) (.var 8)) (.not (.cmp2 .le .le (.ix (.var 7) (.lit (.int 0))) (.bin .mod (.bi .int [.var 9]) (.lit (.int 65536))) (.ix (.var 7) (.lit (.int 1))))))) [.ret (.lit (.bl false))] [], .asg (.nm 10) (.call 4 [.var 1]), .asg (.nm 11) (.lst [.lit (.int 0), .lit (.int 1), .lit (.int 3), .lit (.int 7), .lit (.int 15), .lit (.int 31), .lit (.int 63), .lit (.int 127), .lit (.int 255), .lit (.int 511), .lit (.int 1023), .lit (.int 2047), .lit (.int 4095), .lit (.int 8191), .lit (.int 16383), .lit (.int 32767), .lit (.int 65535)]), .asg (.nm 12) (.call 1 [.var 10]), .iff (.or (.bi .isBool [.var 12]) (.cmp .ne (.var 12) (.bi .minL [.compIf [3] (.nm 3) .val [.var 11] x7_0 x7_1]))) [.ret (.lit (.bl false))] [], .asg (.nm 13) (.tup [.bi .min2 [.var 10, .bin .fdiv (.var 5) (.lit (.int 2))], .bi .max2 [.var 10, .bin .fdiv (.var 5) (.lit (.int 2))]]), .asg (.nm 14) (.tup [.bi .min2 [.bin .fdiv (.var 6) (.lit (.int 2)), .bin .fdiv (.var 9) (.lit (.int 2))], .bi .max2 [.bin .fdiv (.var 6) (.lit (.int 2)), .bin .fdiv (.var 9) (.lit (.int 2))]]), .iff (.cmp .eq (.call 3 [.var 1, .lit (.int 2)]) (.lit (.int 1))) [.asg (.tp [13, 14]) (.tup [.var 14, .var 13])] [], .asg (.nm 7) (.call 2 [.var 13, .var 14]), .asg (.nm 5) (.bi .max2 [.ix (.var 13) (.lit (.int 0)), .ix (.var 14) (.lit (.int 0))]), .asg (.nm 6) (.bi .min2 [.ix (.var 13) (.lit (.int 1)), .ix (.var 14) (.lit (.int 1))]), .iff (.or (.and (.cmp .gt (.var 5) (.var 6)) (.cmp .isn (.var 7) (.lit .non))) (.and (.cmp .le (.var 5) (.var 6)) (.cmp .ne (.var 7) (.tup [.var 5, .var 6])))) [.ret (.lit (.bl false))] []]
def b7 : List S := [.asg (.nm 1) (.lst [.lit (.int 0), .lit (.int 0), .bi .list [.var 0], .lit (.int 1)]),
    .for_ (.nm 2) .rng1 [.lit (.int 5)] w7_2,
    .ret (.lit (.bl true))]
/-- law(_law_script); slots: 0 _law_script, 1 _law_state, 2 _law_k, 3 _law_one, 4 _law_two, 5 _law_low, 6 _law_high, 7 _law_actual, 8 _law_due, 9 _law_middle, 10 _law_word_here, 11 _law_masks, 12 _law_told, 13 _law_first, 14 _law_second -/
def f7 : Fn := { name := "law", ps := ["_law_script"], loc := ["_law_state", "_law_k", "_law_one", "_law_two", "_law_low", "_law_high", "_law_actual", "_law_due", "_law_middle", "_law_word_here", "_law_masks", "_law_told", "_law_first", "_law_second"], body := b7 }
def prg : Prg := { defs := [(3, f0), (4, f1), (5, f2), (7, f3), (8, f4), (9, f5), (10, f6), (11, f7)], consts := [("WORDS", (.int 65536)), ("FULL", (.tup [(.int 0), (.int 65535)]))], free := ["all", "bool", "int", "isinstance", "len", "list", "max", "min", "range", "tuple"] }
abbrev PW : Program := PySem.Challenge.pw_unweave_k51_shifts_masks_and_cuts
theorem is0 : fnB prg.G (topAt PW 3) f0 := fnB_of (by kernel_rfl) (by kernel_rfl) (by kernel_rfl) (by kernel_rfl)
theorem is1 : fnB prg.G (topAt PW 4) f1 := fnB_of (by kernel_rfl) (by kernel_rfl) (by kernel_rfl) (by kernel_rfl)
theorem is2 : fnB prg.G (topAt PW 5) f2 := fnB_of (by kernel_rfl) (by kernel_rfl) (by kernel_rfl) (by kernel_rfl)
theorem is3 : fnB prg.G (topAt PW 7) f3 := fnB_of (by kernel_rfl) (by kernel_rfl) (by kernel_rfl) (by kernel_rfl)
theorem is4 : fnB prg.G (topAt PW 8) f4 := fnB_of (by kernel_rfl) (by kernel_rfl) (by kernel_rfl) (by kernel_rfl)
theorem is5 : fnB prg.G (topAt PW 9) f5 := fnB_of (by kernel_rfl) (by kernel_rfl) (by kernel_rfl) (by kernel_rfl)
theorem is6 : fnB prg.G (topAt PW 10) f6 := fnB_of (by kernel_rfl) (by kernel_rfl) (by kernel_rfl) (by kernel_rfl)
theorem is7 : fnB prg.G (topAt PW 11) f7 := fnB_of (by kernel_rfl) (by kernel_rfl) (by kernel_rfl) (by kernel_rfl)
theorem T0 : prg.T[0]? = some f0 := rfl
theorem T1 : prg.T[1]? = some f1 := rfl
theorem T2 : prg.T[2]? = some f2 := rfl
theorem T3 : prg.T[3]? = some f3 := rfl
theorem T4 : prg.T[4]? = some f4 := rfl
theorem T5 : prg.T[5]? = some f5 := rfl
theorem T6 : prg.T[6]? = some f6 := rfl
theorem T7 : prg.T[7]? = some f7 := rfl
theorem prg_is : prg.Is PW := by
  intro d hd
  simp only [prg, List.mem_cons, List.not_mem_nil, or_false] at hd
  rcases hd with rfl | rfl | rfl | rfl | rfl | rfl | rfl | rfl
  · exact is0
  · exact is1
  · exact is2
  · exact is3
  · exact is4
  · exact is5
  · exact is6
  · exact is7
end Law
end
section
set_option Elab.async false
set_option linter.all false
set_option maxRecDepth 100000
set_option maxHeartbeats 4000000
namespace Law
open PySem MP
local macro_rules | `(tactic| walk_at "mp") => `(tactic| simp (config := {decide := true}) (disch := first | omega | assumption | (simp; omega) | decide +kernel) [Fn.start, List.replicate, tst_eq, mul_r, mul_l, fdiv_ii, mod_ii, amul_r, eqO_ss, src_rng1, src_rng2, for_list, tgSets, appR_lst, ↓reduceIte])
def shf (low high : Int) : Int × Int := if high < 65536 then (low, high) else if 65536 ≤ low ∧ high < 131072 then (low - 65536, high - 65536) else (0, 65535)
@[simp] theorem c0 (d : Nat) (a b : Int) (h : MH) : callD prg.T (d + 1) 0 [.int a, .int b] h = .ok (.tup [.int (shf a b).1, .int (shf a b).2]) h := by
  rw [call_eq T0 rfl]
  simp only [f0, b0]
  walk_at "mp"
  unfold shf
  by_cases h1 : b < 65536
  · simp [h1]
  · by_cases h2 : 65536 ≤ a
    · by_cases h3 : b < 131072
      · simp (config := {decide := true}) [h1, h2, h3]
      · simp (config := {decide := true}) [h1, h2, h3]
    · simp (config := {decide := true}) [h1, h2]
/-- the mask: doubled until it is large enough -/
def mk : Nat → Int → Int → Int
  | 0, r, _ => r
  | n + 1, r, w => if r < w then mk n (2 * r + 1) w else r
theorem c1_loop (C : Cl) (w : Int) (h : MH) : ∀ (n i : Nat) (r : Int), w < (r + 1) * 2 ^ n → loop .bad (MP.whileTurn C x1_0 (fun e h => Ss.den C w1_1 e h)) i ([some (.int w), some (.int r)], h) = .nx [some (.int w), some (.int (mk n r w))] h := by
  have ht : ∀ r : Int, E.tst C x1_0 [some (.int w), some (.int r)] h = .ok (decide (r < w)) h := by
    intro r
    unfold x1_0
    simp [tst_eq]
  intro n
  induction n with
  | zero =>
    intro i r h2
    have hr : ¬ r < w := by simp at h2; omega
    have q := ht r
    rw [decide_eq_false hr] at q
    rw [whl_stop q]
    rfl
  | succ n ih =>
    intro i r h2
    have q := ht r
    by_cases hr : r < w
    · have h4 : (2 * r + 1 + 1) * 2 ^ n = (r + 1) * 2 ^ (n + 1) := by
        rw [Int.pow_succ, Int.mul_comm (2 ^ n) 2, ← Int.mul_assoc]
        congr 1
        omega
      rw [decide_eq_true hr] at q
      have hb : Ss.den C w1_1 [some (.int w), some (.int r)] h = .nx [some (.int w), some (.int (2 * r + 1))] h := by
        unfold w1_1
        walk_at "mp"
      rw [whl_step q hb, ih (i + 1) (2 * r + 1) (by rw [h4]; exact h2), mk, if_pos hr]
    · rw [decide_eq_false hr] at q
      rw [whl_stop q, mk, if_neg hr]
theorem c1 (d : Nat) (w : Int) (hw : 0 ≤ w ∧ w < 65536) (h : MH) : callD prg.T (d + 1) 1 [.int w] h = .ok (.int (mk 16 0 w)) h := by
  rw [call_eq T1 rfl]
  simp only [f1, b1]
  have q := c1_loop (callD prg.T d) w h 16 0 0 (by simp; omega)
  walk_at "mp"
  rw [q]
  simp
theorem c2 (d : Nat) (a b a' b' : Int) (h : MH) : callD prg.T (d + 1) 2 [.tup [.int a, .int b], .tup [.int a', .int b']] h =
    .ok (if (if b' < b then b' else b) < (if a' > a then a' else a) then .non else .tup [.int (if a' > a then a' else a), .int (if b' < b then b' else b)]) h := by
  rw [call_eq T2 rfl]
  simp only [f2, b2]
  walk_at "mp"
  generalize (if b' < b then b' else b) = x
  generalize (if a < a' then a' else a) = y
  by_cases hh : x < y <;> simp (config := {decide := true}) [hh]
theorem c3 (d : Nat) (ns : List Int) (t : Int × Nat × Int) (g : MH) (m : Int) (hm : 0 < m ∧ m < 1073741824) : callD prg.T (d + 1) 3 [.loc 1, .int m] (dS ns t g) = .ok (.int (dV ns m t)) (dS ns (dT ns m t) g) := by
  rw [call_eq T3 rfl]
  show (Ss.den (callD prg.T d) drB [some (.loc 1), some (.int m), none, none, none, none] (dS ns t g)).res = _
  rw [draw_ok _ ns t g m hm]
  rfl
theorem tab_at (T : List Int) (i : Int) (h0 : 0 ≤ i) (h1 : i < T.length) : ∃ v ∈ T, (T.map MV.int)[i.toNat]? = some (.int v) := by
  have hl : i.toNat < T.length := by omega
  exact ⟨T[i.toNat], List.getElem_mem hl, by rw [List.getElem?_map, List.getElem?_eq_getElem hl]; rfl⟩
theorem c4 (d : Nat) (ns : List Int) (t : Int × Nat × Int) (g : MH) : ∃ v t' g', 0 ≤ v ∧ v < 65536 ∧ callD prg.T (d + 2) 4 [.loc 1] (dS ns t g) = .ok (.int v) (dS ns t' (g ++ g')) := by
  rw [call_eq T4 rfl]
  simp only [f4, b4]
  have q := fun t g m hm => c3 d ns t g m hm
  by_cases e0 : dV ns 4 t = 0
  · refine ⟨dV ns 65536 (dT ns 4 t), dT ns 65536 (dT ns 4 t), [], dV_lo (by decide), dV_hi (by decide), ?_⟩
    simp (config := {decide := true}) [Fn.start, List.replicate, tst_eq, q, e0]
  · by_cases e1 : dV ns 4 t = 1
    · obtain ⟨v, hv, ev⟩ := tab_at [0, 1, 255, 256, 32768, 64511, 64512, 65535] (dV ns 8 (dT ns 4 t)) (dV_lo (by decide)) (dV_hi (by decide))
      have hb : ∀ x ∈ [(0 : Int), 1, 255, 256, 32768, 64511, 64512, 65535], 0 ≤ x ∧ x < 65536 := by decide
      refine ⟨v, dT ns 8 (dT ns 4 t), [.lst ([0, 1, 255, 256, 32768, 64511, 64512, 65535].map .int)], (hb v hv).1, (hb v hv).2, ?_⟩
      simp only [List.map_cons, List.map_nil] at ev ⊢
      simp (config := {decide := true}) [Fn.start, List.replicate, tst_eq, q, e0, e1, atI_pos (dV_lo (ns := ns) (m := 8) (t := dT ns 4 t) (by decide)), ev]
    · refine ⟨dV ns 6 (dT ns 4 t), dT ns 6 (dT ns 4 t), [], dV_lo (by decide), Int.lt_trans (dV_hi (by decide)) (by decide), ?_⟩
      simp (config := {decide := true}) [Fn.start, List.replicate, tst_eq, q, e0, e1]
theorem c5 (d : Nat) (a b : Int) (h : MH) : ∃ g, callD prg.T (d + 1) 5 [.tup [.int a, .int b]] h = .ok (.bl true) (h ++ g) := by
  rw [call_eq T5 rfl]
  simp only [f5, b5]
  refine ⟨[.lst [.bl true, .bl true]], ?_⟩
  have q : ∀ e1, E.den (callD prg.T d) (.comp [1] (.nm 1) .val [.var 0] x5_0) [some (.tup [.int a, .int b]), e1] h = .ok (.loc h.length) (h ++ [.lst [.bl true, .bl true]]) := by
    intro e1
    have e0 : Es.den (callD prg.T d) [.var 0] [some (.tup [.int a, .int b]), e1] h = .ok [.tup [.int a, .int b]] h := dens1 (by simp)
    rw [den_comp, e0]
    simp only [Res.bind, src_tup]
    rw [comp_map (elt := fun e h => E.den (callD prg.T d) x5_0 e h) [.int a, .int b] (fun _ => .bl true) (fun _ => rfl) (by show 2 < 16777216; decide) fun x hx => ?_]
    · rfl
    · refine ⟨_, rfl, ?_⟩
      simp only [List.mem_cons, List.not_mem_nil, or_false] at hx
      rcases hx with rfl | rfl <;> · unfold x5_0; simp [wipeM]
  simp (config := {decide := true}) [Fn.start, List.replicate, tst_eq, q, -den_comp, biO, listO, blsO]
theorem c6 (d : Nat) (ns : List Int) (t : Int × Nat × Int) (g : MH) : ∃ v t' g', 0 ≤ v ∧ v < 131072 ∧ callD prg.T (d + 2) 6 [.loc 1] (dS ns t g) = .ok (.int v) (dS ns t' (g ++ g')) := by
  rw [call_eq T6 rfl]
  simp only [f6, b6]
  have q := fun t g m hm => c3 d ns t g m hm
  by_cases e0 : dV ns 3 t = 0
  · refine ⟨dV ns 131072 (dT ns 3 t), dT ns 131072 (dT ns 3 t), [], dV_lo (by decide), dV_hi (by decide), ?_⟩
    simp (config := {decide := true}) [Fn.start, List.replicate, tst_eq, q, e0]
  · obtain ⟨v, hv, ev⟩ := tab_at [0, 65535, 65536, 131071, 65537] (dV ns 5 (dT ns 3 t)) (dV_lo (by decide)) (dV_hi (by decide))
    have hb : ∀ x ∈ [(0 : Int), 65535, 65536, 131071, 65537], 0 ≤ x ∧ x < 131072 := by decide
    have q3 := dV_lo (ns := ns) (m := 3) (t := dT ns 5 (dT ns 3 t)) (by decide)
    obtain ⟨w, hw, hw0, hw1⟩ : ∃ w, (if (if 1 < v + dV ns 3 (dT ns 5 (dT ns 3 t)) then v + dV ns 3 (dT ns 5 (dT ns 3 t)) - 1 else 0) < 131071 then (if 1 < v + dV ns 3 (dT ns 5 (dT ns 3 t)) then v + dV ns 3 (dT ns 5 (dT ns 3 t)) - 1 else 0) else 131071) = w ∧ 0 ≤ w ∧ w < 131072 := by
      refine ⟨_, rfl, ?_, ?_⟩ <;> · split <;> split <;> omega
    refine ⟨w, dT ns 3 (dT ns 5 (dT ns 3 t)), [.lst ([0, 65535, 65536, 131071, 65537].map .int)], hw0, hw1, ?_⟩
    simp only [List.map_cons, List.map_nil] at ev ⊢
    simp (config := {decide := true}) [Fn.start, List.replicate, tst_eq, q, e0, atI_pos (dV_lo (ns := ns) (m := 5) (t := dT ns 3 t) (by decide)), ev, hw]
end Law
end
section
set_option Elab.async false
set_option linter.all false
set_option maxRecDepth 100000
set_option maxHeartbeats 4000000
namespace Law
open PySem MP
theorem run_app (C : Cl) : ∀ (xs ys : List S) (e : En) (h : MH), Ss.den C (xs ++ ys) e h = (Ss.den C xs e h).seq fun e h => Ss.den C ys e h
  | [], ys, e, h => by rw [run_nil, seqNx]; rfl
  | x :: xs, ys, e, h => by
    rw [List.cons_append, run_cons, run_cons]
    cases q : S.den C x e h with
    | nx e2 h2 => rw [seqNx, seqNx, run_app C xs ys]
    | _ => rfl
theorem eqO_t2 {a b c d : Int} {h : MH} : eqO (.tup [.int a, .int b]) (.tup [.int c, .int d]) h = some (decide (a = c) && decide (b = d)) := by
  unfold eqO
  rw [dat_of (.tup (.cons (.int a) (.cons (.int b) .nil))), dat_of (.tup (.cons (.int c) (.cons (.int d) .nil)))]
  show (if SeqAt.shaped (.tuple [.int a, .int b]) = true ∧ SeqAt.shaped (.tuple [.int c, .int d]) = true then _ else _) = _
  rw [if_pos ⟨rfl, rfl⟩]
  by_cases h1 : a = c <;> by_cases h2 : b = d <;> simp [PyData.eqv, PyData.eqvAll, h1, h2]
theorem a1_ok (d : Nat) (ns : List Int) (t : Int × Nat × Int) (g : MH) (e0 k e3 e4 e5 e6 e7 e8 e9 e10 e11 e12 e13 e14 : Option MV) :
    ∃ t' g' f3 f4 lo hi, 0 ≤ lo ∧ lo ≤ hi ∧ hi < 131072 ∧ Ss.den (callD prg.T (d + 2)) (w7_2.take 4) [e0, some (.loc 1), k, e3, e4, e5, e6, e7, e8, e9, e10, e11, e12, e13, e14] (dS ns t g) =
      .nx [e0, some (.loc 1), k, f3, f4, some (.int lo), some (.int hi), e7, e8, e9, e10, e11, e12, e13, e14] (dS ns t' g') := by
  obtain ⟨a, t1, g1, a0, a1, q1⟩ := c6 d ns t g
  obtain ⟨b, t2, g2, b0, b1, q2⟩ := c6 d ns t1 (g ++ g1)
  refine ⟨t2, g ++ g1 ++ g2, some (.int a), some (.int b), if b < a then b else a, if b > a then b else a, by split <;> omega, by split <;> split <;> omega, by split <;> omega, ?_⟩
  unfold w7_2
  simp [q1, q2]
theorem a2_ok (d : Nat) (ns : List Int) (t : Int × Nat × Int) (g : MH) (lo hi : Int) (h0 : 0 ≤ lo) (h1 : lo ≤ hi) (h2 : hi < 131072) (e0 k e3 e4 e7 e8 e9 e10 e11 e12 e13 e14 : Option MV) :
    ∃ t' g' f7 f8 mi, 0 ≤ mi ∧ mi < 131072 ∧ Ss.den (callD prg.T (d + 2)) ((w7_2.drop 4).take 5) [e0, some (.loc 1), k, e3, e4, some (.int lo), some (.int hi), e7, e8, e9, e10, e11, e12, e13, e14] (dS ns t g) =
      .nx [e0, some (.loc 1), k, e3, e4, some (.int lo), some (.int hi), f7, f8, some (.int mi), e10, e11, e12, e13, e14] (dS ns t' g') := by
  have hl : 0 < hi - lo + 1 ∧ hi - lo + 1 < 1073741824 := by omega
  have q := c3 (d + 1) ns t g (hi - lo + 1) hl
  have m0 := dV_lo (ns := ns) (t := t) hl.1
  have m1 := dV_hi (ns := ns) (t := t) hl.1
  generalize dV ns (hi - lo + 1) t = m at *
  obtain ⟨g5, q5⟩ := c5 (d + 1) (shf lo hi).1 (shf lo hi).2 (dS ns (dT ns (hi - lo + 1) t) g)
  refine ⟨dT ns (hi - lo + 1) t, g ++ g5, some (.tup [.int (shf lo hi).1, .int (shf lo hi).2]), some (.tup [.int (shf lo hi).1, .int (shf lo hi).2]), lo + m, by omega, by omega, ?_⟩
  unfold w7_2
  by_cases c1 : hi < 65536
  · have es : shf lo hi = (lo, hi) := by unfold shf; rw [if_pos c1]
    rw [es] at q5 ⊢
    have x1 : (lo + m) % 65536 = lo + m := by omega
    simp (config := {decide := true}) (disch := omega) [tst_eq, es, c1, q, q5, mod_ii, eqO_t2, x1, show lo ≤ lo + m by omega, show lo + m ≤ hi by omega]
  · by_cases c2 : 65536 ≤ lo
    · have es : shf lo hi = (lo - 65536, hi - 65536) := by unfold shf; rw [if_neg c1, if_pos ⟨c2, h2⟩]
      rw [es] at q5 ⊢
      have x1 : (lo + m) % 65536 = lo + m - 65536 := by omega
      simp (config := {decide := true}) (disch := omega) [tst_eq, es, c1, c2, q, q5, mod_ii, eqO_t2, x1, m0, show lo - 65536 ≤ lo + m - 65536 by omega, show lo + m - 65536 ≤ hi - 65536 by omega]
    · have es : shf lo hi = (0, 65535) := by unfold shf; rw [if_neg c1, if_neg (fun z => c2 z.1)]
      rw [es] at q5 ⊢
      simp (config := {decide := true}) (disch := omega) [tst_eq, es, c1, c2, q, q5, mod_ii, eqO_t2, show 0 ≤ (lo + m) % 65536 by omega, show (lo + m) % 65536 ≤ 65535 by omega]
/-- the least mask -/
def msk : List Int := [0, 1, 3, 7, 15, 31, 63, 127, 255, 511, 1023, 2047, 4095, 8191, 16383, 32767, 65535]
def ms : Nat → Int → List Int
  | 0, r => [r]
  | n + 1, r => r :: ms n (2 * r + 1)
theorem ms_le : ∀ (n : Nat) (r : Int), 0 ≤ r → ∀ y ∈ ms n r, r ≤ y
  | 0, r, _, y, hy => by simp [ms] at hy; omega
  | n + 1, r, h, y, hy => by
    rw [ms] at hy
    rcases List.mem_cons.mp hy with rfl | hy
    · exact Int.le_refl _
    · have := ms_le n (2 * r + 1) (by omega) y hy
      omega
theorem minI_first (r : Int) : ∀ (ys : List Int), (∀ y ∈ ys, r ≤ y) → minI r ys = r
  | [], _ => rfl
  | y :: ys, h => by
    rw [minI, if_neg (by have := h y List.mem_cons_self; omega)]
    exact minI_first r ys fun z hz => h z (List.mem_cons_of_mem _ hz)
theorem ms_min (w : Int) : ∀ (n : Nat) (r : Int), 0 ≤ r → w < (r + 1) * 2 ^ n → ∃ m rest, (ms n r).filter (fun x => decide (w ≤ x)) = m :: rest ∧ minI m rest = mk n r w
  | 0, r, h0, h => by
    have : w ≤ r := by simp at h; omega
    exact ⟨r, [], by simp [ms, this], rfl⟩
  | n + 1, r, h0, h => by
    by_cases hr : r < w
    · have h4 : (2 * r + 1 + 1) * 2 ^ n = (r + 1) * 2 ^ (n + 1) := by
        rw [Int.pow_succ, Int.mul_comm (2 ^ n) 2, ← Int.mul_assoc]
        congr 1
        omega
      obtain ⟨m, rest, e1, e2⟩ := ms_min w n (2 * r + 1) (by omega) (by rw [h4]; exact h)
      refine ⟨m, rest, ?_, ?_⟩
      · have : ¬ w ≤ r := by omega
        rw [ms, List.filter_cons]
        simp [this, e1]
      · rw [e2, mk, if_pos hr]
    · have : w ≤ r := by omega
      refine ⟨r, (ms n (2 * r + 1)).filter (fun x => decide (w ≤ x)), ?_, ?_⟩
      · rw [ms, List.filter_cons]
        simp [this]
      · rw [mk, if_neg hr]
        refine minI_first r _ fun y hy => ?_
        have := ms_le n (2 * r + 1) (by omega) y ((List.mem_filter.mp hy).1)
        omega
theorem mk_min (w : Int) (hw : 0 ≤ w ∧ w < 65536) : ∃ n r, msk.filter (fun x => decide (w ≤ x)) = n :: r ∧ minI n r = mk 16 0 w :=
  ms_min w 16 0 (by decide) (by simp; omega)
theorem filt_map (w : Int) (xs : List Int) : (xs.map MV.int).filterMap (fun v => match v with
    | .int x => if w ≤ x then some (MV.int x) else none
    | _ => none) = (xs.filter (fun x => decide (w ≤ x))).map MV.int := by
  induction xs with
  | nil => rfl
  | cons x xs ih =>
    rw [List.map_cons, List.filterMap_cons, List.filter_cons]
    by_cases h : w ≤ x <;> simp [h, ih]
theorem ints_map : ∀ xs : List Int, intsO (xs.map .int) = some xs
  | [] => rfl
  | x :: xs => by rw [List.map_cons, intsO, ints_map xs]; rfl
theorem a3_ok (d : Nat) (ns : List Int) (t : Int × Nat × Int) (g : MH) (e0 k e3 e4 e5 e6 e7 e8 e9 e10 e11 e12 e13 e14 : Option MV) :
    ∃ t' g' w f11 f12, 0 ≤ w ∧ w < 65536 ∧ Ss.den (callD prg.T (d + 2)) ((w7_2.drop 9).take 4) [e0, some (.loc 1), k, e3, e4, e5, e6, e7, e8, e9, e10, e11, e12, e13, e14] (dS ns t g) =
      .nx [e0, some (.loc 1), k, e3, e4, e5, e6, e7, e8, e9, some (.int w), f11, f12, e13, e14] (dS ns t' g') := by
  obtain ⟨w, t1, g1, w0, w1, q⟩ := c4 d ns t g
  have q1 := fun h => c1 (d + 1) w ⟨w0, w1⟩ h
  obtain ⟨n, r, em, en⟩ := mk_min w ⟨w0, w1⟩
  generalize g ++ g1 = G at q
  refine ⟨t1, G ++ [.lst (msk.map .int)] ++ [.lst ((n :: r).map .int)], w, some (.loc (dS ns t1 G).length), some (.int (mk 16 0 w)), w0, w1, ?_⟩
  have qc : ∀ e : En, e = [e0, some (.loc 1), k, e3, e4, e5, e6, e7, e8, e9, some (.int w), some (.loc (dS ns t1 G).length), some (.int (mk 16 0 w)), e13, e14] →
      E.den (callD prg.T (d + 2)) (.compIf [3] (.nm 3) .val [.var 11] x7_0 x7_1) e (dS ns t1 (G ++ [.lst (msk.map .int)])) = .ok (.loc (dS ns t1 (G ++ [.lst (msk.map .int)])).length) (dS ns t1 (G ++ [.lst (msk.map .int)] ++ [.lst ((n :: r).map .int)])) := by
    intro e he
    subst he
    have hg : (dS ns t1 (G ++ [.lst (msk.map .int)]))[(dS ns t1 G).length]? = some (.lst (msk.map .int)) := by
      rw [← dS_app, get_last]
    generalize (dS ns t1 G).length = L at *
    have e0 : Es.den (callD prg.T (d + 2)) [.var 11] [e0, some (.loc 1), k, e3, e4, e5, e6, e7, e8, e9, some (.int w), some (.loc L), some (.int (mk 16 0 w)), e13, e14] (dS ns t1 (G ++ [.lst (msk.map .int)])) = .ok [.loc L] (dS ns t1 (G ++ [.lst (msk.map .int)])) := dens1 (by simp)
    rw [den_compIf, e0]
    simp only [Res.bind, src_l hg]
    rw [comp_items (tst := fun e h => E.tst (callD prg.T (d + 2)) x7_0 e h) (elt := fun e h => E.den (callD prg.T (d + 2)) x7_1 e h) (msk.map .int) (fun v => match v with
      | .int x => if w ≤ x then some (MV.int x) else none
      | _ => none) (fun i => by simp only [srcL, hg]) (by show 17 < 16777216; decide) fun x hx => ?_]
    · rw [filt_map, em]
      simp
    · obtain ⟨m, hm, rfl⟩ := List.mem_map.mp hx
      refine ⟨_, rfl, ?_⟩
      by_cases hwm : w ≤ m
      · refine .inl ⟨.int m, by simp [hwm], ?_, ?_⟩
        · unfold x7_0
          simp [wipeM, tst_eq, hwm]
        · unfold x7_1
          simp [wipeM]
      · refine .inr ⟨by simp [hwm], ?_⟩
        unfold x7_0
        simp [wipeM, tst_eq, hwm]
  have qc := qc _ rfl
  have hl : (dS ns t1 (G ++ [.lst (msk.map .int)] ++ [.lst ((n :: r).map .int)]))[(dS ns t1 (G ++ [.lst (msk.map .int)])).length]? = some (.lst ((n :: r).map .int)) := by
    rw [← dS_app (x := [.lst ((n :: r).map .int)]), get_last]
  have qm : ∀ {H : MH} {L : Nat}, H[L]? = some (.lst ((n :: r).map .int)) → biO .minL [.loc L] H = some (.int (mk 16 0 w), H) := by
    intro H L e
    simp only [biO, listO, e, Option.bind_some, ints_map, en]
  have qm := qm hl
  unfold w7_2
  simp only [msk, List.map_cons, List.map_nil, dS_len, dS_app, List.length_append, List.length_cons, List.length_nil, Nat.zero_add, Nat.add_assoc, Nat.reduceAdd, List.append_assoc, List.cons_append, List.nil_append] at qc qm ⊢
  simp (config := {decide := true}) [tst_eq, q, q1, qc, qm, -den_compIf, Nat.add_assoc]
end Law
end
section
set_option Elab.async false
set_option linter.all false
set_option maxRecDepth 100000
set_option maxHeartbeats 4000000
namespace Law
open PySem MP
/-- the last part, from the two spans -/
theorem a5_ok (d : Nat) (a b a' b' : Int) (h : MH) (e0 e1 k e3 e4 e5 e6 e7 e8 e9 e10 e11 e12 : Option MV) :
    ∃ f5 f6 f7, Ss.den (callD prg.T (d + 2)) (w7_2.drop 16) [e0, e1, k, e3, e4, e5, e6, e7, e8, e9, e10, e11, e12, some (.tup [.int a, .int b]), some (.tup [.int a', .int b'])] h =
      .nx [e0, e1, k, e3, e4, f5, f6, f7, e8, e9, e10, e11, e12, some (.tup [.int a, .int b]), some (.tup [.int a', .int b'])] h := by
  have q := c2 (d + 1) a b a' b' h
  obtain ⟨x, hx⟩ : ∃ x, (if b' < b then b' else b) = x := ⟨_, rfl⟩
  obtain ⟨y, hy⟩ : ∃ y, (if a < a' then a' else a) = y := ⟨_, rfl⟩
  have hy' : (if a' > a then a' else a) = y := hy
  rw [hx, hy'] at q
  by_cases hc : x < y
  · rw [if_pos hc] at q
    refine ⟨some (.int y), some (.int x), some .non, ?_⟩
    have hn : ¬ y ≤ x := by omega
    unfold w7_2
    simp (config := {decide := true}) [tst_eq, q, hx, hy, hc, hn, MV.isNon]
  · rw [if_neg hc] at q
    refine ⟨some (.int y), some (.int x), some (.tup [.int y, .int x]), ?_⟩
    have hn : y ≤ x := by omega
    unfold w7_2
    simp (config := {decide := true}) [tst_eq, q, hx, hy, hc, hn, eqO_t2, MV.isNon]
theorem a4_ok (d : Nat) (ns : List Int) (t : Int × Nat × Int) (g : MH) (lo hi mi w : Int) (e0 k e3 e4 e7 e8 e11 e12 e13 e14 : Option MV) :
    ∃ t' a b a' b', Ss.den (callD prg.T (d + 2)) ((w7_2.drop 13).take 3) [e0, some (.loc 1), k, e3, e4, some (.int lo), some (.int hi), e7, e8, some (.int mi), some (.int w), e11, e12, e13, e14] (dS ns t g) =
      .nx [e0, some (.loc 1), k, e3, e4, some (.int lo), some (.int hi), e7, e8, some (.int mi), some (.int w), e11, e12, some (.tup [.int a, .int b]), some (.tup [.int a', .int b'])] (dS ns t' g) := by
  have q := c3 (d + 1) ns t g 2 (by decide)
  by_cases hc : dV ns 2 t = 1
  · refine ⟨dT ns 2 t, (if mi / 2 < hi / 2 then mi / 2 else hi / 2), (if hi / 2 < mi / 2 then mi / 2 else hi / 2), (if lo / 2 < w then lo / 2 else w), (if w < lo / 2 then lo / 2 else w), ?_⟩
    unfold w7_2
    simp (config := {decide := true}) (disch := omega) [tst_eq, q, hc, fdiv_ii, tgSets]
  · refine ⟨dT ns 2 t, (if lo / 2 < w then lo / 2 else w), (if w < lo / 2 then lo / 2 else w), (if mi / 2 < hi / 2 then mi / 2 else hi / 2), (if hi / 2 < mi / 2 then mi / 2 else hi / 2), ?_⟩
    unfold w7_2
    simp (config := {decide := true}) (disch := omega) [tst_eq, q, hc, fdiv_ii, tgSets]
theorem turn_ok (d : Nat) (ns : List Int) (t : Int × Nat × Int) (g : MH) (e0 k e3 e4 e5 e6 e7 e8 e9 e10 e11 e12 e13 e14 : Option MV) :
    ∃ t' g' f3 f4 f5 f6 f7 f8 f9 f10 f11 f12 f13 f14, Ss.den (callD prg.T (d + 2)) w7_2 [e0, some (.loc 1), k, e3, e4, e5, e6, e7, e8, e9, e10, e11, e12, e13, e14] (dS ns t g) =
      .nx [e0, some (.loc 1), k, f3, f4, f5, f6, f7, f8, f9, f10, f11, f12, f13, f14] (dS ns t' g') := by
  have cut : w7_2 = w7_2.take 4 ++ ((w7_2.drop 4).take 5 ++ ((w7_2.drop 9).take 4 ++ ((w7_2.drop 13).take 3 ++ w7_2.drop 16))) := rfl
  obtain ⟨t1, g1, f3, f4, lo, hi, l0, l1, l2, q1⟩ := a1_ok d ns t g e0 k e3 e4 e5 e6 e7 e8 e9 e10 e11 e12 e13 e14
  obtain ⟨t2, g2, f7, f8, mi, m0, m1, q2⟩ := a2_ok d ns t1 g1 lo hi l0 l1 l2 e0 k f3 f4 e7 e8 e9 e10 e11 e12 e13 e14
  obtain ⟨t3, g3, w, f11, f12, w0, w1, q3⟩ := a3_ok d ns t2 g2 e0 k f3 f4 (some (.int lo)) (some (.int hi)) f7 f8 (some (.int mi)) e10 e11 e12 e13 e14
  obtain ⟨t4, a, b, a', b', q4⟩ := a4_ok d ns t3 g3 lo hi mi w e0 k f3 f4 f7 f8 f11 f12 e13 e14
  obtain ⟨f5, f6, f7', q5⟩ := a5_ok d a b a' b' (dS ns t4 g3) e0 (some (.loc 1)) k f3 f4 (some (.int lo)) (some (.int hi)) f7 f8 (some (.int mi)) (some (.int w)) f11 f12
  rw [cut, run_app, q1, seqNx, run_app, q2, seqNx, run_app, q3, seqNx, run_app, q4, seqNx, q5]
  exact ⟨_, _, _, _, _, _, _, _, _, _, _, _, _, _, rfl⟩
theorem c7 (d : Nat) (ns : List Int) : ∃ h', callD prg.T (d + 3) 7 [.rol (ns.map .int)] [] = .ok (.bl true) h' := by
  rw [call_eq T7 rfl]
  obtain ⟨e2, h2, q, t, g, f2, f3, f4, f5, f6, f7, f8, f9, f10, f11, f12, f13, f14, rfl, rfl⟩ := forL_inv (t := .nm 2) (b := fun e h => Ss.den (callD prg.T (d + 2)) w7_2 e h)
    (fun i e h => ∃ t g f2 f3 f4 f5 f6 f7 f8 f9 f10 f11 f12 f13 f14, e = [some (.rol (ns.map .int)), some (.loc 1), f2, f3, f4, f5, f6, f7, f8, f9, f10, f11, f12, f13, f14] ∧ h = dS ns t g) (rngL 0 5) 0 _ _ ⟨(0, 0, 1), [], none, none, none, none, none, none, none, none, none, none, none, none, none, rfl, rfl⟩ (by
      intro k v e h hk q
      obtain ⟨t, g, f2, f3, f4, f5, f6, f7, f8, f9, f10, f11, f12, f13, f14, rfl, rfl⟩ := q
      obtain ⟨t', g', p3, p4, p5, p6, p7, p8, p9, p10, p11, p12, p13, p14, q⟩ := turn_ok d ns t g (some (.rol (ns.map .int))) (some v) f3 f4 f5 f6 f7 f8 f9 f10 f11 f12 f13 f14
      exact ⟨_, _, _, rfl, .inl q, t', g', _, _, _, _, _, _, _, _, _, _, _, _, _, rfl, rfl⟩)
  refine ⟨dS ns t g, ?_⟩
  have e0 : Es.den (callD prg.T (d + 2)) [.lit (.int 5)] [some (.rol (ns.map .int)), some (.loc 1), none, none, none, none, none, none, none, none, none, none, none, none, none] (dS ns (0, 0, 1) []) = .ok [.int (5 : Nat)] (dS ns (0, 0, 1) []) := dens1 den_lit
  have e1 : S.den (callD prg.T (d + 2)) (.asg (.nm 1) (.lst [.lit (.int 0), .lit (.int 0), .bi .list [.var 0], .lit (.int 1)])) (Law.f7.start [.rol (ns.map .int)]) [] = .nx [some (.rol (ns.map .int)), some (.loc 1), none, none, none, none, none, none, none, none, none, none, none, none, none] (dS ns (0, 0, 1) []) := by
    simp (config := {decide := true}) [Fn.start, List.replicate, Law.f7, dS, show biO .list [.rol (ns.map .int)] [] = some (.loc 0, [.lst (ns.map .int)]) from rfl]
  show (Ss.den (callD prg.T (d + 2)) b7 (Law.f7.start [.rol (ns.map .int)]) []).res = _
  unfold b7
  rw [run_cons, e1, seqNx, for_rest _ (by decide) e0 q, run_cons, run_ret, den_lit]
  rfl
theorem main (ns : List Int) (hl : ns.length ≤ 63) : ∃ h', MP.callD Law.prg.T MP.DEEP 7 [.rol (ns.map .int)] [] = .ok (.bl true) h' := c7 227 ns
end Law
end
namespace Law
open PySem PySem.Spec PyProof.Rows MP
def loose : List Str := (["WORDS", "FULL", "shift", "mask", "cut", "_law_draw", "_law_word", "_law_is_span", "_law_wide"] : List Str)
abbrev RR : PySem.W.OpenRow := PySem.W.OpenLaw.row PySem.Challenge.rw_unweave_k51_shifts_masks_and_cuts
def seen (s : PySem.W.SharedT) : He.AlD × Bool := MP.obsMG 4 prg PW (HandSHeadRun.getT s)
theorem seen_eq (s : PySem.W.SharedT) : seen s = (MP.hookM 4 prg PW).obs s.abs := MP.obsMG_eq (HandSHeadRun.getT_eq s)
theorem top_run (w : World) : HandSHeadRun.RunEq RR (PySem.W.view RR.prog [11]) (MP.hookM 4 prg PW) seen 20000 loose w := by
  intro os
  kernel_rfl
end Law
open PySem PySem.W PySem.Calls PyProof.Rows
set_option maxHeartbeats 0 in
theorem PySem.Challenge.cw_unweave_k51_shifts_masks_and_cuts_holds : PySem.Challenge.rw_unweave_k51_shifts_masks_and_cuts.Holds := by
  w_on; o_law
  refine HandSHeadRun.head_any (r := Law.RR) (q := view Law.RR.prog [11]) (H := MP.hookM 4 Law.prg Law.PW) (ob := Law.seen) (M := 20000) (loose := Law.loose) (d := HandSHeadRun.topDef Law.RR.prog 11) (kwd := []) Law.seen_eq
    (by kernel_rfl) (fun s => by kernel_rfl) Law.top_run (by kernel_rfl) (by kernel_rfl) (by kernel_rfl) (by rfl) (by first | assumption | decide +kernel) (by decide +kernel) ⟨rfl, rfl, rfl, rfl, rfl, by decide +kernel⟩ ?hw ?hc
  case hw => w_witness2
  case hc => exact MP.law_ok (l := PySem.Challenge.rw_unweave_k51_shifts_masks_and_cuts) (p := Law.prg) (i := 7) (dd := (11, Law.f7)) (a := "_law_script") rfl (by kernel_rfl) Law.prg_is (by kernel_rfl) (by kernel_rfl) rfl Law.main
