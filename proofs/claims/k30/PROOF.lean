import PyProof.Rows.All
import PySem.Str
import PySem.PyData
import PyProof.P3Statements
import KE.SortData
import HandS.ForMost
import HandS.ForExc
import HandS.Flow
import KE.KDictKeyed
import HandS.TupAny
import HandS.TupMul
import HandS.Wide
import HandS.Style
import HandS.Deep
import HandS.Strs
import KE.DataFind
import HandS.Conv
import HandS.Zip
import HandS.Walk
import HandS.Rev
import KE.KDictDisplayH
import HandS.Iter
import KE.GoesEnum
import HandS.Comp
import HandS.IsInst
import HandS.TupLen
import HandS.WordsDict
import KE.DataMinMax
import PyProof.ReprRoads
import HandS.ExcValue
import HandS.HeadHook2
import HandS.Head2
import HandS.HeadEnd
import PyProof.ReprLen
import Wide.All
import OpenK.AllK
import Wide.FinOn
import PySem.Challenge.RW_callednames_k30_parted_late_and_great
set_option Elab.async false
set_option linter.all false
/-! DA: deep values, a store of lists, dicts and instances, the small language, its evaluator. -/
namespace DV
open PySem (Str PyData)
/-- a deep value. tl, td: a new list, dict that nothing else refers to; loc: an object of the store; fro: a list that is only read -/
inductive D where
  | non
  | bl (b : Bool)
  | int (i : Int)
  | str (s : Str)
  | exn (c : Nat)
  | tup (xs : List D)
  | tl (xs : List D)
  | td (ks vs : List D)
  | loc (n : Nat)
  | fro (xs : List D)
  deriving Inhabited
mutual
def D.beq : D → D → Bool
  | .non, .non => true
  | .bl a, .bl b => a == b
  | .int a, .int b => a == b
  | .str a, .str b => decide (a = b)
  | .exn a, .exn b => a == b
  | .tup xs, .tup ys => D.beqs xs ys
  | .tl xs, .tl ys => D.beqs xs ys
  | .td ks vs, .td ls ws => D.beqs ks ls && D.beqs vs ws
  | .loc a, .loc b => a == b
  | .fro xs, .fro ys => D.beqs xs ys
  | _, _ => false
def D.beqs : List D → List D → Bool
  | [], [] => true
  | x :: xs, y :: ys => D.beq x y && D.beqs xs ys
  | _, _ => false
end
mutual
theorem D.beq_eq : ∀ {a b : D}, D.beq a b = true → a = b
  | .non, b, h => by cases b <;> simp [D.beq] at h <;> rfl
  | .bl a, b, h => by cases b <;> simp [D.beq] at h; rw [h]
  | .int a, b, h => by cases b <;> simp [D.beq] at h; rw [h]
  | .str a, b, h => by cases b <;> simp [D.beq] at h; rw [h]
  | .exn a, b, h => by cases b <;> simp [D.beq] at h; rw [h]
  | .tup xs, b, h => by
    cases b <;> simp [D.beq] at h
    rw [D.beqs_eq h]
  | .tl xs, b, h => by
    cases b <;> simp [D.beq] at h
    rw [D.beqs_eq h]
  | .td ks vs, b, h => by
    cases b <;> simp [D.beq] at h
    rw [D.beqs_eq h.1, D.beqs_eq h.2]
  | .loc a, b, h => by cases b <;> simp [D.beq] at h; rw [h]
  | .fro xs, b, h => by
    cases b <;> simp [D.beq] at h
    rw [D.beqs_eq h]
theorem D.beqs_eq : ∀ {a b : List D}, D.beqs a b = true → a = b
  | [], b, h => by cases b <;> simp [D.beqs] at h; rfl
  | x :: xs, b, h => by
    cases b <;> simp [D.beqs] at h
    rw [D.beq_eq h.1, D.beqs_eq h.2]
end
mutual
theorem D.beq_refl : ∀ a : D, D.beq a a = true
  | .non => rfl
  | .bl a => by simp [D.beq]
  | .int a => by simp [D.beq]
  | .str a => by simp [D.beq]
  | .exn a => by simp [D.beq]
  | .tup xs => by simp [D.beq, D.beqs_refl xs]
  | .tl xs => by simp [D.beq, D.beqs_refl xs]
  | .td ks vs => by simp [D.beq, D.beqs_refl ks, D.beqs_refl vs]
  | .loc a => by simp [D.beq]
  | .fro xs => by simp [D.beq, D.beqs_refl xs]
theorem D.beqs_refl : ∀ a : List D, D.beqs a a = true
  | [] => rfl
  | x :: xs => by simp [D.beqs, D.beq_refl x, D.beqs_refl xs]
end
instance : DecidableEq D := fun a b => if h : D.beq a b = true then isTrue (D.beq_eq h) else isFalse fun e => h (by rw [e]; exact D.beq_refl b)
/-! ### kinds of values -/
mutual
/-- no new list or dict within -/
def D.noT : D → Bool
  | .tup xs => D.noTs xs
  | .tl _ => false
  | .td _ _ => false
  | _ => true
def D.noTs : List D → Bool
  | [] => true
  | x :: xs => D.noT x && D.noTs xs
end
mutual
/-- no object of the store within -/
def D.noL : D → Bool
  | .tup xs => D.noLs xs
  | .tl xs => D.noLs xs
  | .td ks vs => D.noLs ks && D.noLs vs
  | .fro xs => D.noLs xs
  | .loc _ => false
  | _ => true
def D.noLs : List D → Bool
  | [] => true
  | x :: xs => D.noL x && D.noLs xs
end
mutual
/-- all objects of the store within stand below n -/
def D.und (n : Nat) : D → Bool
  | .tup xs => D.unds n xs
  | .tl xs => D.unds n xs
  | .td ks vs => D.unds n ks && D.unds n vs
  | .fro xs => D.unds n xs
  | .loc l => decide (l < n)
  | _ => true
def D.unds (n : Nat) : List D → Bool
  | [] => true
  | x :: xs => D.und n x && D.unds n xs
end
/-! ### the store -/
inductive MO where
  | lst (xs : List D)
  | dic (ks vs : List D)
  | ins (c : Nat) (fs : List (Str × D))
  deriving DecidableEq
/-- the objects; esc: the least object since the call's start that was given another one of the store -/
structure Sto where
  objs : List MO
  esc : Option Nat
  deriving DecidableEq
def MO.und (n : Nat) : MO → Bool
  | .lst xs => D.unds n xs
  | .dic ks vs => D.unds n ks && D.unds n vs
  | .ins _ fs => D.unds n (fs.map (·.2))
def escMin : Option Nat → Option Nat → Option Nat
  | e, none => e
  | none, some k => some k
  | some j, some k => some (min j k)
def cleanAt : Option Nat → Nat → Bool
  | none, _ => true
  | some k, n => decide (n ≤ k)
def Sto.len (st : Sto) : Nat := st.objs.length
def Sto.get (st : Sto) (l : Nat) : Option MO := st.objs[l]?
def Sto.push (st : Sto) (o : MO) : Sto := ⟨st.objs ++ [o], st.esc⟩
def Sto.trunc (st : Sto) (n : Nat) (e : Option Nat) : Sto := ⟨st.objs.take n, e⟩
/-- an object changed; ok: nothing of the store was put into it -/
def Sto.put (st : Sto) (l : Nat) (o : MO) (ok : Bool) : Sto := ⟨st.objs.set l o, if ok then st.esc else escMin st.esc (some l)⟩
def Sto.bare (st : Sto) : Sto := ⟨st.objs, none⟩
def Sto.back (st : Sto) (e : Option Nat) : Sto := ⟨st.objs, escMin e st.esc⟩
/-- what a computation comes to: a value, an exception, or more than is told here -/
inductive Res (α : Type) where
  | ok (a : α) (st : Sto)
  | exc (c : Nat) (st : Sto)
  | bad
def Res.bind {α β : Type} (r : Res α) (f : α → Sto → Res β) : Res β :=
  match r with
  | .ok a st => f a st
  | .exc c st => .exc c st
  | .bad => .bad
mutual
/-- new lists and dicts are laid into the store -/
def settle : D → List MO → D × List MO
  | .tup xs, o => let p := settles xs o; (.tup p.1, p.2)
  | .tl xs, o => let p := settles xs o; (.loc p.2.length, p.2 ++ [.lst p.1])
  | .td ks vs, o => let p := settles vs o; (.loc p.2.length, p.2 ++ [.dic ks p.1])
  | d, o => (d, o)
def settles : List D → List MO → List D × List MO
  | [], o => ([], o)
  | x :: xs, o => let p := settle x o; let q := settles xs p.2; (p.1 :: q.1, q.2)
end
def stl (d : D) (st : Sto) : D × Sto :=
  if d.noT then (d, st) else let p := settle d st.objs; (p.1, ⟨p.2, st.esc⟩)
/-- a list or tuple whose items hold nothing new -/
def prep (d : D) (st : Sto) : D × Sto :=
  match d with
  | .tl xs => if D.noTs xs then (d, st) else stl d st
  | d => stl d st
def demL (f : D → Option (D × List Nat)) : List D → Option (List D × List Nat)
  | [] => some ([], [])
  | x :: xs => match f x with
    | none => none
    | some p => match demL f xs with
      | none => none
      | some q => some (p.1 :: q.1, p.2 ++ q.2)
/-- the objects of the store from n on as new ones again, with all that were met -/
def dem (o : List MO) (n : Nat) : Nat → D → Option (D × List Nat)
  | 0, _ => none
  | k + 1, d => if d.noL then some (d, []) else match d with
    | .tup xs => (demL (dem o n k) xs).map fun p => (.tup p.1, p.2)
    | .tl xs => (demL (dem o n k) xs).map fun p => (.tl p.1, p.2)
    | .td ks vs => if D.noLs ks then (demL (dem o n k) vs).map fun p => (.td ks p.1, p.2) else none
    | .loc l => if l < n then some (d, []) else match o[l]? with
      | some (.lst xs) => (demL (dem o n k) xs).map fun p => (.tl p.1, p.2 ++ [l])
      | some (.dic ks vs) => if D.noLs ks then (demL (dem o n k) vs).map fun p => (.td ks p.1, p.2 ++ [l]) else none
      | _ => none
    | _ => none
/-- the end of a call that began with n objects and e -/
def fin (n : Nat) (e : Option Nat) (d : D) (st : Sto) : Res D :=
  if cleanAt st.esc n then
    match dem st.objs n 40 d with
    | some (d', l) => if l.Nodup then .ok d' (st.trunc n e) else .ok d (st.back e)
    | none => .ok d (st.back e)
  else .ok d (st.back e)
def finX (n : Nat) (e : Option Nat) (st : Sto) : Sto := if cleanAt st.esc n then st.trunc n e else st.back e
def finC (n : Nat) (e : Option Nat) (r : Res D) : Res D :=
  match r with
  | .ok d st => if st.objs.length = n then .ok d (st.back e) else fin n e d st
  | .exc c st => .exc c (finX n e st)
  | .bad => .bad
/-! ### what values are as data -/
def mapO {α β : Type} (f : α → Option β) : List α → Option (List β)
  | [] => some []
  | x :: xs => match f x with
    | none => none
    | some y => (mapO f xs).map (y :: ·)
/-- none for what has dicts or instances, or is deeper than k -/
def toP (o : List MO) : Nat → D → Option PyData
  | 0, _ => none
  | k + 1, d => match d with
    | .non => some .none
    | .bl b => some (.bool b)
    | .int i => some (.int i)
    | .str s => if (PyData.str s).canLay0 then some (.str s) else none
    | .tup xs => (mapO (toP o k) xs).map .tuple
    | .tl xs => (mapO (toP o k) xs).map .list
    | .fro xs => (mapO (toP o k) xs).map .list
    | .loc l => match o[l]? with
      | some (.lst xs) => (mapO (toP o k) xs).map .list
      | _ => none
    | _ => none
abbrev tops : Nat := 16
def Sto.data (st : Sto) (d : D) : Option PyData := toP st.objs tops d
/-- the items of a list or a tuple -/
def Sto.seq (st : Sto) : D → Option (List D)
  | .tup xs => some xs
  | .tl xs => some xs
  | .fro xs => some xs
  | .loc l => match st.objs[l]? with
    | some (.lst xs) => some xs
    | _ => none
  | _ => none
def D.isTup : D → Bool
  | .tup _ => true
  | _ => false
/-- of a list alone -/
def Sto.list (st : Sto) (d : D) : Option (List D) := if d.isTup then none else st.seq d
/-- of a list that is not only read -/
def Sto.own (st : Sto) : D → Option (List D)
  | .tl xs => some xs
  | .loc l => match st.objs[l]? with
    | some (.lst xs) => some xs
    | _ => none
  | _ => none
/-! ### operations -/
abbrev line : Nat := 16777216
inductive Bop where
  | add | sub | mul | fdiv | mod | pow
  deriving DecidableEq
inductive Cop where
  | eq | ne | lt | le | gt | ge | isv | nis | inn | nin
  deriving DecidableEq
def mulOk (i j : Int) : Bool := (decide (-(2 ^ 64) < i) && decide (i < 2 ^ 64)) || (decide (-(2 ^ 64) < j) && decide (j < 2 ^ 64))
def okv {α : Type} (a : α) (st : Sto) : Res α := .ok a st
def opAdd (x y : D) (st : Sto) : Res D :=
  match x, y with
  | .int i, .int j => .ok (.int (i + j)) st
  | .str a, .str b => if a.length + b.length ≤ line then .ok (.str (a ++ b)) st else .bad
  | .tup xs, .tup ys => if xs.length + ys.length ≤ line then .ok (.tup (xs ++ ys)) st else .bad
  | x, y => match st.own x, st.own y with
    | some xs, some ys => if xs.length + ys.length ≤ line then .ok (.tl (xs ++ ys)) st else .bad
    | _, _ => .bad
def opSub (x y : D) (st : Sto) : Res D :=
  match x, y with
  | .int i, .int j => .ok (.int (i - j)) st
  | _, _ => .bad
def opMul (x y : D) (st : Sto) : Res D :=
  match x, y with
  | .int i, .int j => if mulOk i j then .ok (.int (i * j)) st else .bad
  | .tup xs, .int j => if decide (2 ≤ j) && decide (j ≤ 1000) && decide (1 ≤ xs.length) && decide (xs.length ≤ 1000) && D.noTs xs then .ok (.tup (List.replicate j.toNat xs).flatten) st else .bad
  | x, .int j => match st.own x with
    | some xs => if decide (-(2 ^ 62) < j) && decide (j < 2 ^ 62) && decide (xs.length * j.toNat ≤ line) && D.noTs xs then .ok (.tl (List.replicate j.toNat xs).flatten) st else .bad
    | none => .bad
  | _, _ => .bad
def opFdiv (x y : D) (st : Sto) : Res D :=
  match x, y with
  | .int i, .int j => if 0 < j ∧ j < 2 ^ 64 then .ok (.int (i / j)) st else .bad
  | _, _ => .bad
def opMod (x y : D) (st : Sto) : Res D :=
  match x, y with
  | .int i, .int j => if 0 < j then .ok (.int (i % j)) st else .bad
  | _, _ => .bad
def opPow (x y : D) (st : Sto) : Res D :=
  match x, y with
  | .int i, .int j => if 0 ≤ j ∧ j ≤ 1000 ∧ i.natAbs < 2 ^ 64 then .ok (.int (i ^ j.toNat)) st else .bad
  | _, _ => .bad
def binop : Bop → D → D → Sto → Res D
  | .add => opAdd
  | .sub => opSub
  | .mul => opMul
  | .fdiv => opFdiv
  | .mod => opMod
  | .pow => opPow
def eqD (st : Sto) (x y : D) : Option Bool :=
  match st.data x, st.data y with
  | some a, some b => some (PyData.eqv a b)
  | _, _ => none
/-- where x stands among the items, by == -/
def dataFind (st : Sto) (xs : List D) (x : D) : Option (Option Nat) :=
  match mapO st.data xs, st.data x with
  | some ps, some p => some (ps.findIdx? fun z => PyData.eqv z p)
  | _, _ => none
def dataIn (st : Sto) (xs : List D) (x : D) : Option Bool :=
  match mapO st.data xs, st.data x with
  | some ps, some p => some (ps.any fun z => PyData.eqv z p)
  | _, _ => none
def dataCount (st : Sto) (xs : List D) (x : D) : Option Nat :=
  match mapO st.data xs, st.data x with
  | some ps, some p => some (ps.countP fun z => PyData.eqv z p)
  | _, _ => none
def blO (o : Option Bool) (st : Sto) : Res D :=
  match o with
  | some b => .ok (.bl b) st
  | none => .bad
def intC (f : Int → Int → Bool) (x y : D) (st : Sto) : Res D :=
  match x, y with
  | .int i, .int j => .ok (.bl (f i j)) st
  | _, _ => .bad
def opIs (x y : D) (st : Sto) : Res D :=
  match x, y with
  | x, .non => .ok (.bl (decide (x = .non))) st
  | .bl a, .bl b => .ok (.bl (decide (a = b))) st
  | _, _ => .bad
def notB (r : Res D) : Res D :=
  match r with
  | .ok (.bl b) st => .ok (.bl (!b)) st
  | .exc c st => .exc c st
  | _ => .bad
/-- keys of a dict: whole numbers and texts -/
def D.leaf : D → Bool
  | .int _ => true
  | .str _ => true
  | _ => false
mutual
/-- .. and tuples -/
def D.nk : D → Bool
  | .non => true
  | .int _ => true
  | .str _ => true
  | .tup xs => D.nks xs
  | _ => false
def D.nks : List D → Bool
  | [] => true
  | x :: xs => D.nk x && D.nks xs
end
mutual
def D.dep : D → Nat
  | .tup xs => D.deps xs + 1
  | _ => 0
def D.deps : List D → Nat
  | [] => 0
  | x :: xs => max (D.dep x) (D.deps xs)
end
/-- a key that goes with the keys ks -/
def keyOk (ks : List D) (k : D) : Bool :=
  if k.leaf then ks.all D.leaf else k.isTup && k.nk && decide (k.dep ≤ 8) && ks.all D.isTup
def dictFind (ks : List D) (k : D) : Option (Option Nat) := if keyOk ks k then some (ks.findIdx? fun z => decide (z = k)) else none
def Sto.dict (st : Sto) : D → Option (List D × List D)
  | .td ks vs => some (ks, vs)
  | .loc l => match st.objs[l]? with
    | some (.dic ks vs) => some (ks, vs)
    | _ => none
  | _ => none
def opIn (x y : D) (st : Sto) : Res D :=
  match st.seq y with
  | some ys => blO (dataIn st ys x) st
  | none => match st.dict y with
    | some (ks, _) => match dictFind ks x with
      | some o => .ok (.bl o.isSome) st
      | none => .bad
    | none => .bad
def opEq (x y : D) (st : Sto) : Res D := blO (eqD st x y) st
def opNe (x y : D) (st : Sto) : Res D :=
  match eqD st x y with
  | some b => .ok (.bl (!b)) st
  | none => .bad
def opNis (x y : D) (st : Sto) : Res D := notB (opIs x y st)
def opNin (x y : D) (st : Sto) : Res D := notB (opIn x y st)
def cmpop : Cop → D → D → Sto → Res D
  | .eq => opEq
  | .ne => opNe
  | .lt => intC fun i j => decide (i < j)
  | .le => intC fun i j => decide (i ≤ j)
  | .gt => intC fun i j => decide (j < i)
  | .ge => intC fun i j => decide (j ≤ i)
  | .isv => opIs
  | .nis => opNis
  | .inn => opIn
  | .nin => opNin
/-- the place that an index means -/
def ixOf (n : Nat) (i : Int) : Option Nat :=
  if 0 ≤ i then (if i < n then some i.toNat else none) else if -(n : Int) ≤ i then some (i + n).toNat else none
def atIx {α : Type} (xs : List α) (i : Int) : Option α := (ixOf xs.length i).bind fun j => xs[j]?
def cutIx (n d : Nat) : Option Int → Nat
  | none => d
  | some v => if v < 0 then (v + n).toNat else min v.toNat n
def cutD {α : Type} (xs : List α) (lo hi : Option Int) : List α := (xs.drop (cutIx xs.length 0 lo)).take (cutIx xs.length xs.length hi - cutIx xs.length 0 lo)
/-- what a dict holds -/
def dictLook (ks vs : List D) (k : D) : Option (Option D) :=
  match dictFind ks k with
  | some (some j) => (vs[j]?).map some
  | some none => some none
  | none => none
def opIdx (x y : D) (st : Sto) : Res D :=
  match st.seq x with
  | some xs => match y with
    | .int i => match atIx xs i with
      | some d => .ok d st
      | none => .bad
    | _ => .bad
  | none => match st.dict x with
    | some (ks, vs) => match dictLook ks vs y with
      | some (some d) => .ok d st
      | _ => .bad
    | none => .bad
def opSlc (x : D) (lo hi : Option Int) (st : Sto) : Res D :=
  match x with
  | .tup xs => if D.noTs xs then .ok (.tup (cutD xs lo hi)) st else .bad
  | x => match st.list x with
    | some xs => if D.noTs xs then .ok (.tl (cutD xs lo hi)) st else .bad
    | none => .bad
def opRev (x : D) (st : Sto) : Res D :=
  match x with
  | .tup xs => .ok (.tup xs.reverse) st
  | x => match st.list x with
    | some xs => if D.noTs xs then .ok (.tl xs.reverse) st else .bad
    | none => .bad
/-! ### built-in functions and methods -/
inductive Blt where
  | len | tuple | list | tupR1 | tupR2 | listR1 | listR2 | sorted | all | max1 | min1 | max2 | min2 | sum
  | toInt | isInt | isBool | isStr | isTup | repr
  deriving DecidableEq
inductive Mth where
  | append | extend | pop0 | pop1 | remove | index | count | get2
  deriving DecidableEq
def intO : D → Option Int
  | .int i => some i
  | _ => none
def blOf : D → Option Bool
  | .bl b => some b
  | _ => none
def rangeD (a b : Int) : List D := (List.range (b - a).toNat).map fun (j : Nat) => .int (a + j)
def rangeOk (a b : Int) : Bool := decide (-(2 ^ 61) ≤ a) && decide (a < 2 ^ 61) && decide (-(2 ^ 61) ≤ b) && decide (b < 2 ^ 61)
def alikeB (ps : List PyData) : Bool := ps.all fun x => ps.all fun y => PySem.W.alike x y
def tupleB : PyData → Bool
  | .tuple (_ :: _) => true
  | _ => false
def otherB : PyData → Bool
  | .none => false
  | .tuple _ => false
  | _ => true
/-- sorted: the items with their data -/
def sortD (st : Sto) (xs : List D) : Option (List D) :=
  match mapO st.data xs with
  | some ps => if alikeB ps && (ps.all tupleB || ps.all otherB) && decide (xs.length ≤ line) && D.noTs xs then some (((xs.zip ps).mergeSort (PySem.W.dataLe false Prod.snd)).map Prod.fst) else none
  | none => none
mutual
/-- a value from its data -/
def fromP : PyData → D
  | .none => .non
  | .bool b => .bl b
  | .int i => .int i
  | .str s => .str s
  | .list xs => .tl (fromPs xs)
  | .tuple xs => .tup (fromPs xs)
  | .dict _ => .non
def fromPs : List PyData → List D
  | [] => []
  | x :: xs => fromP x :: fromPs xs
end
mutual
/-- numbers, truths, texts, None and tuples of such -/
def D.pure : D → Bool
  | .non => true
  | .bl _ => true
  | .int _ => true
  | .str _ => true
  | .tup xs => D.pures xs
  | _ => false
def D.pures : List D → Bool
  | [] => true
  | x :: xs => D.pure x && D.pures xs
end
/-- the first least one -/
def minD (st : Sto) (xs : List D) : Option D :=
  match mapO st.data xs with
  | some (p :: ps) => if alikeB (p :: ps) && ((p :: ps).all tupleB || (p :: ps).all otherB) && D.pures xs then some (fromP (ps.foldl (fun a y => if PySem.W.dataLt y a then y else a) p)) else none
  | _ => none
/-- what isinstance is told of: no dict of tuples -/
def isOk (st : Sto) (d : D) : Bool :=
  match st.dict d with
  | some (ks, _) => ks.all D.leaf
  | none => true
def lenD (ds : List D) (st : Sto) : Res D :=
  match ds with
  | [d] => match d with
    | .str x => if x.length ≤ line then .ok (.int x.length) st else .bad
    | d => match st.seq d with
      | some xs => .ok (.int xs.length) st
      | none => match st.dict d with
        | some (ks, _) => if ks.all D.leaf then .ok (.int ks.length) st else .bad
        | none => .bad
  | _ => .bad
def tupleD (ds : List D) (st : Sto) : Res D :=
  match ds with
  | [d] => match st.seq d with
    | some xs => .ok (.tup xs) st
    | none => .bad
  | _ => .bad
def listD (ds : List D) (st : Sto) : Res D :=
  match ds with
  | [d] => match st.seq d with
    | some xs => .ok (.tl xs) st
    | none => .bad
  | _ => .bad
def int1 (ds : List D) (f : Int → Res D) : Res D :=
  match ds with
  | [d] => match intO d with
    | some i => f i
    | none => .bad
  | _ => .bad
def int2 (ds : List D) (f : Int → Int → Res D) : Res D :=
  match ds with
  | [d, e] => match intO d, intO e with
    | some i, some j => f i j
    | _, _ => .bad
  | _ => .bad
def tupR1 (ds : List D) (st : Sto) : Res D := int1 ds fun n => if rangeOk 0 n && decide (n ≤ line) then .ok (.tup (rangeD 0 n)) st else .bad
def tupR2 (ds : List D) (st : Sto) : Res D := int2 ds fun a b => if rangeOk a b && decide (b - a ≤ line) then .ok (.tup (rangeD a b)) st else .bad
def listR1 (ds : List D) (st : Sto) : Res D := int1 ds fun n => if rangeOk 0 n && decide (n ≤ line) then .ok (.tl (rangeD 0 n)) st else .bad
def listR2 (ds : List D) (st : Sto) : Res D := int2 ds fun a b => if rangeOk a b && decide (b - a ≤ line) then .ok (.tl (rangeD a b)) st else .bad
def sortedD (ds : List D) (st : Sto) : Res D :=
  match ds with
  | [d] => match st.seq d with
    | some xs => match sortD st xs with
      | some ys => .ok (.tl ys) st
      | none => .bad
    | none => .bad
  | _ => .bad
def allD (ds : List D) (st : Sto) : Res D :=
  match ds with
  | [d] => match st.list d with
    | some xs => match mapO blOf xs with
      | some bs => .ok (.bl (bs.all id)) st
      | none => .bad
    | none => .bad
  | _ => .bad
def min1D (ds : List D) (st : Sto) : Res D :=
  match ds with
  | [d] => match st.list d with
    | some xs => match minD st xs with
      | some m => .ok m st
      | none => .bad
    | none => .bad
  | _ => .bad
def max1D (ds : List D) (st : Sto) : Res D :=
  match ds with
  | [d] => match st.list d with
    | some xs => match mapO intO xs with
      | some (n :: ns) => .ok (.int (ns.foldl max n)) st
      | _ => .bad
    | none => .bad
  | _ => .bad
def max2D (ds : List D) (st : Sto) : Res D := int2 ds fun i j => .ok (.int (if j > i then j else i)) st
def min2D (ds : List D) (st : Sto) : Res D := int2 ds fun i j => .ok (.int (if j < i then j else i)) st
def sumD (ds : List D) (st : Sto) : Res D :=
  match ds with
  | [d] => match st.list d with
    | some xs => match mapO intO xs with
      | some ns => .ok (.int ns.sum) st
      | none => .bad
    | none => .bad
  | _ => .bad
def toIntD (ds : List D) (st : Sto) : Res D :=
  match ds with
  | [d] => match intO d, blOf d with
    | some i, _ => .ok (.int i) st
    | none, some b => .ok (.int (if b then 1 else 0)) st
    | none, none => .bad
  | _ => .bad
/-- the types of isinstance -/
inductive IsT where
  | int | bool | str | tuple
  deriving DecidableEq
def isT (t : IsT) (d : D) : Bool :=
  match t with
  | .int => (intO d).isSome || (blOf d).isSome
  | .bool => (blOf d).isSome
  | .str => match d with
    | .str _ => true
    | _ => false
  | .tuple => d.isTup
def isD (t : IsT) (ds : List D) (st : Sto) : Res D :=
  match ds with
  | [d] => if isOk st d then .ok (.bl (isT t d)) st else .bad
  | _ => .bad
def reprD (ds : List D) (st : Sto) : Res D :=
  match ds with
  | [d] => match st.seq d, st.data d with
    | some _, some p => if p.showable && decide (p.shown.length ≤ line) then .ok (.str p.shown) st else .bad
    | none, _ => match d with
      | .int i => if i.natAbs.log2 < 1920 then .ok (.str (PyData.int i).shown) st else .bad
      | .bl b => .ok (.str (PyData.bool b).shown) st
      | .non => .ok (.str PyData.none.shown) st
      | _ => .bad
    | _, _ => .bad
  | _ => .bad
def bltRun (b : Blt) (ds : List D) (st : Sto) : Res D :=
  match b with
  | .len => lenD ds st
  | .tuple => tupleD ds st
  | .list => listD ds st
  | .tupR1 => tupR1 ds st
  | .tupR2 => tupR2 ds st
  | .listR1 => listR1 ds st
  | .listR2 => listR2 ds st
  | .sorted => sortedD ds st
  | .all => allD ds st
  | .min1 => min1D ds st
  | .max1 => max1D ds st
  | .max2 => max2D ds st
  | .min2 => min2D ds st
  | .sum => sumD ds st
  | .toInt => toIntD ds st
  | .isInt => isD .int ds st
  | .isBool => isD .bool ds st
  | .isStr => isD .str ds st
  | .isTup => isD .tuple ds st
  | .repr => reprD ds st
def onList (st : Sto) (d : D) (k : Nat → List D → Res D) : Res D :=
  match d with
  | .loc l => match st.objs[l]? with
    | some (.lst xs) => k l xs
    | _ => .bad
  | _ => .bad
def appendD (r : D) (ds : List D) (st : Sto) : Res D :=
  match ds with
  | [x] => onList st r fun l xs => if xs.length < line then (let p := stl x st; .ok .non (p.2.put l (.lst (xs ++ [p.1])) p.1.noL)) else .bad
  | _ => .bad
def extendD (r : D) (ds : List D) (st : Sto) : Res D :=
  match ds with
  | [x] => onList st r fun l xs => let p := prep x st
    if p.1 = r then .bad else match p.2.own p.1 with
    | some ys => if xs.length + ys.length ≤ line then .ok .non (p.2.put l (.lst (xs ++ ys)) (D.noLs ys)) else .bad
    | none => .bad
  | _ => .bad
def pop0D (r : D) (ds : List D) (st : Sto) : Res D :=
  match ds with
  | [] => onList st r fun l xs => match xs[xs.length - 1]? with
    | some y => .ok y (st.put l (.lst xs.dropLast) true)
    | none => .bad
  | _ => .bad
def pop1D (r : D) (ds : List D) (st : Sto) : Res D := int1 ds fun i => onList st r fun l xs => if decide (-(2 ^ 62) < i) && decide (i < 2 ^ 62) then match ixOf xs.length i with
    | some j => match xs[j]? with
      | some y => .ok y (st.put l (.lst (xs.eraseIdx j)) true)
      | none => .bad
    | none => .bad else .bad
def removeD (r : D) (ds : List D) (st : Sto) : Res D :=
  match ds with
  | [x] => onList st r fun l xs => match dataFind st xs x with
    | some (some j) => .ok .non (st.put l (.lst (xs.eraseIdx j)) true)
    | _ => .bad
  | _ => .bad
def indexD (r : D) (ds : List D) (st : Sto) : Res D :=
  match ds with
  | [x] => match st.seq r with
    | some xs => match dataFind st xs x with
      | some (some j) => .ok (.int j) st
      | _ => .bad
    | none => .bad
  | _ => .bad
def countD (r : D) (ds : List D) (st : Sto) : Res D :=
  match ds with
  | [x] => match st.seq r with
    | some xs => match dataCount st xs x with
      | some n => .ok (.int n) st
      | none => .bad
    | none => .bad
  | _ => .bad
def get2D (r : D) (ds : List D) (st : Sto) : Res D :=
  match ds with
  | [k, d] => match st.dict r with
    | some (ks, vs) => match dictLook ks vs k with
      | some (some v) => .ok v st
      | some none => .ok d st
      | none => .bad
    | none => .bad
  | _ => .bad
def mthRun (m : Mth) (r : D) (ds : List D) (st : Sto) : Res D :=
  match m with
  | .append => appendD r ds st
  | .extend => extendD r ds st
  | .pop0 => pop0D r ds st
  | .pop1 => pop1D r ds st
  | .remove => removeD r ds st
  | .index => indexD r ds st
  | .count => countD r ds st
  | .get2 => get2D r ds st
/-- what has the method -/
def isLst (x : D) (st : Sto) : Bool :=
  match x with
  | .loc l => match st.objs[l]? with
    | some (.lst _) => true
    | _ => false
  | _ => false
def mthOk (m : Mth) (x : D) (st : Sto) : Bool :=
  match m with
  | .append => isLst x st
  | .extend => isLst x st
  | .pop0 => isLst x st
  | .pop1 => isLst x st
  | .remove => isLst x st
  | .index => (st.seq x).isSome
  | .count => (st.seq x).isSome
  | .get2 => (st.dict x).isSome
/-! ### what a loop walks -/
inductive SrcK where
  | seq | range1 | range2 | enum | zip | items
  deriving DecidableEq
def seqL (st : Sto) (d : D) : Option (List D × List Nat) :=
  match st.seq d with
  | some xs => some (xs, match d with | .loc l => [l] | _ => [])
  | none => none
def enumD (xs : List D) : List D := xs.mapIdx fun j x => .tup [.int j, x]
def zipD (xs ys : List D) : List D := (xs.zip ys).map fun p => .tup [p.1, p.2]
/-- the items, and the store's lists that must stay as they are -/
def srcItems (k : SrcK) (ds : List D) (st : Sto) : Option (List D × List Nat) :=
  match k, ds with
  | .seq, [d] => seqL st d
  | .range1, [.int n] => if rangeOk 0 n then some (rangeD 0 n, []) else none
  | .range2, [.int a, .int b] => if rangeOk a b then some (rangeD a b, []) else none
  | .enum, [d] => (seqL st d).map fun p => (enumD p.1, p.2)
  | .zip, [a, b] => match seqL st a, seqL st b with
    | some p, some q => if a.isTup = b.isTup then some (zipD p.1 q.1, p.2 ++ q.2) else none
    | _, _ => none
  | .items, [d] => match st.dict d with
    | some (ks, vs) => some (zipD ks vs, match d with | .loc l => [l] | _ => [])
    | none => none
  | _, _ => none
def stays (ls : List Nat) (st st' : Sto) : Bool := ls.all fun l => decide (st'.objs[l]? = st.objs[l]?)
/-! ### the language -/
mutual
inductive Ex where
  | var (i : Nat)
  | gc (k : Nat)
  | int (i : Int)
  | str (s : Str)
  | bl (b : Bool)
  | non
  | tup (es : List Ex)
  | lst (es : List Ex)
  | dic (ks vs : List Ex)
  | bin (o : Bop) (a b : Ex)
  | neg (a : Ex)
  | not (a : Ex)
  | and (a b : Ex)
  | or (a b : Ex)
  | cmp (o : Cop) (a b : Ex)
  | chain (o p : Cop) (a b c : Ex)
  | ife (c a b : Ex)
  | idx (a b : Ex)
  | slc (a : Ex) (lo hi : List Ex)
  | rev (a : Ex)
  | call (f : Nat) (es : List Ex)
  | blt (b : Blt) (es : List Ex)
  | mth (m : Mth) (r : Ex) (es : List Ex)
  | comp (elt : Ex) (own : List Nat) (t : Tg) (k : SrcK) (es : List Ex) (cs : List Ex)
  | comp2 (elt : Ex) (own own1 : List Nat) (t : Tg) (k : SrcK) (es : List Ex) (cs : List Ex) (t1 : Tg) (k1 : SrcK) (es1 : List Ex) (cs1 : List Ex)
/-- where a value goes: a name, several names, a place -/
inductive Tg where
  | nm (i : Nat)
  | tup (ts : List Tg)
  | sub (o i : Ex)
  | att (o : Ex) (f : Str)
end
inductive St where
  | asg (t : Tg) (e : Ex)
  | ex (e : Ex)
  | ite (c : Ex) (a b : List St)
  | whl (c : Ex) (b : List St)
  | fr (t : Tg) (k : SrcK) (es : List Ex) (b : List St)
  | ret (e : Ex)
  | retN
  | raise (c : Nat)
  | pass
abbrev Slots := List (Option D)
structure Env where
  call : Nat → List D → Sto → Res D
  consts : List D
/-! ### expressions -/
def noX {α : Type} (r : Res α) : Res α :=
  match r with
  | .exc _ _ => .bad
  | r => r
def asB (d : D) (st : Sto) : Res Bool :=
  match d with
  | .bl b => .ok b st
  | _ => .bad
mutual
/-- names get the parts of a value -/
def setTo : Tg → D → Slots → Option Slots
  | .nm i, d, s => some (s.set i (some d))
  | .tup ts, d, s => match d with
    | .tup xs => setTos ts xs s
    | _ => none
  | _, _, _ => none
def setTos : List Tg → List D → Slots → Option Slots
  | [], [], s => some s
  | t :: ts, x :: xs, s => match setTo t x s with
    | some s' => setTos ts xs s'
    | none => none
  | _, _, _ => none
end
def wipeD (s : Slots) : List Nat → Slots
  | [] => s
  | v :: vs => (wipeD s vs).set v none
def prepS : List D → Sto → Res (List D)
  | [], st => .ok [] st
  | d :: ds, st => let p := prep d st; (prepS ds p.2).bind fun ds st => .ok (p.1 :: ds) st
/-- a comprehension's clause: b tells what an item gives -/
def compB (t : Tg) (b : Slots → Sto → Res (List D)) (ls : List Nat) (s : Slots) : List D → Sto → Res (List D)
  | [], st => .ok [] st
  | x :: xs, st => match setTo t x s with
    | none => .bad
    | some s' => (b s' st).bind fun ys st1 => if stays ls st st1 then (compB t b ls s xs st1).bind fun zs st2 => .ok (ys ++ zs) st2 else .bad
def oneB (c : Slots → Sto → Res Bool) (e : Slots → Sto → Res D) (s : Slots) (st : Sto) : Res (List D) :=
  (c s st).bind fun k st => if k then (e s st).bind fun y st => .ok [y] st else .ok [] st
def twoB (c : Slots → Sto → Res Bool) (src : Slots → Sto → Res (List D)) (k : SrcK) (t : Tg) (own : List Nat) (b : Slots → Sto → Res (List D)) (s : Slots) (st : Sto) : Res (List D) :=
  (c s st).bind fun g st => if g then (src s st).bind fun ds st => match srcItems k ds st with
    | some (xs, ls) => compB t b ls (wipeD s own) xs st
    | none => .bad else .ok [] st
def lstD (ys : List D) (st : Sto) : Res D := if ys.length ≤ line then .ok (.tl ys) st else .bad
def compR (k : SrcK) (t : Tg) (b : Slots → Sto → Res (List D)) (s : Slots) (ds : List D) (st : Sto) : Res D :=
  match srcItems k ds st with
  | some (xs, ls) => (noX (compB t b ls s xs st)).bind lstD
  | none => .bad
def oneOr {α : Type} (z : α) : List α → Option α
  | [] => some z
  | [x] => some x
  | _ => none
def iOpt (ds : List D) : Option (Option Int) :=
  match ds with
  | [] => some none
  | [.int i] => some (some i)
  | _ => none
def iO (ds : List D) (st : Sto) : Res (Option Int) :=
  match iOpt ds with
  | some o => .ok o st
  | none => .bad
/-- a dict of one pair -/
def dic1 (d : D) (n : Int) (st : Sto) : Res D := if keyOk [] d then .ok (.td [d] [.int n]) st else .bad
mutual
def evE (R : Env) : Ex → Slots → Sto → Res D
  | .var i, s, st => match s[i]? with
    | some (some d) => .ok d st
    | _ => .bad
  | .gc k, _, st => match R.consts[k]? with
    | some d => .ok d st
    | none => .bad
  | .int i, _, st => .ok (.int i) st
  | .str x, _, st => .ok (.str x) st
  | .bl b, _, st => .ok (.bl b) st
  | .non, _, st => .ok .non st
  | .tup es, s, st => (evEs R es s st).bind fun ds st => if ds.length ≤ line then .ok (.tup ds) st else .bad
  | .lst es, s, st => (evEs R es s st).bind fun ds st => if ds.length ≤ line then .ok (.tl ds) st else .bad
  | .dic [] [], _, st => .ok (.td [] []) st
  | .dic [.var i] [.int n], s, st => match s[i]? with
    | some (some d) => dic1 d n st
    | _ => .bad
  | .dic _ _, _, _ => .bad
  | .bin o a b, s, st => (evE R a s st).bind fun x st => (evE R b s st).bind fun y st => binop o x y st
  | .neg a, s, st => (evE R a s st).bind fun x st => match x with
    | .int i => .ok (.int (-i)) st
    | _ => .bad
  | .not a, s, st => (evE R a s st).bind fun x st => (asB x st).bind fun b st => .ok (.bl (!b)) st
  | .and a b, s, st => (evE R a s st).bind fun x st => (asB x st).bind fun k st => if k then (evE R b s st).bind fun y st => (asB y st).bind fun k st => .ok (.bl k) st else .ok (.bl false) st
  | .or a b, s, st => (evE R a s st).bind fun x st => (asB x st).bind fun k st => if k then .ok (.bl true) st else (evE R b s st).bind fun y st => (asB y st).bind fun k st => .ok (.bl k) st
  | .cmp o a b, s, st => (evE R a s st).bind fun x st => (evE R b s st).bind fun y st => cmpop o x y st
  | .chain o p a b c, s, st => (evE R a s st).bind fun x st => (evE R b s st).bind fun y st => (cmpop o x y st).bind fun k st => (asB k st).bind fun k st =>
      if k then (evE R c s st).bind fun z st => cmpop p y z st else .ok (.bl false) st
  | .ife c a b, s, st => (evE R c s st).bind fun x st => (asB x st).bind fun k st => if k then evE R a s st else evE R b s st
  | .idx a b, s, st => (evE R a s st).bind fun x st => (evE R b s st).bind fun y st => opIdx x y st
  | .slc a lo hi, s, st => (evE R a s st).bind fun x st => ((evEs R lo s st).bind iO).bind fun l st => ((evEs R hi s st).bind iO).bind fun h st => opSlc x l h st
  | .rev a, s, st => (evE R a s st).bind fun x st => opRev x st
  | .call f es, s, st => finC st.objs.length st.esc ((evAs R es s st.bare).bind fun ds st => R.call f ds st)
  | .blt b es, s, st => (evEs R es s st).bind fun ds st => bltRun b ds st
  | .mth m r es, s, st => (evE R r s st).bind fun x st => if mthOk m x st then (evEs R es s st).bind fun ds st => mthRun m x ds st else .bad
  | .comp e own t k es cs, s, st => ((evEs R es s st).bind prepS).bind (compR k t (oneB (fun s st => evC R cs s st) (fun s st => evE R e s st)) (wipeD s own))
  | .comp2 e own own1 t k es cs t1 k1 es1 cs1, s, st => ((evEs R es s st).bind prepS).bind (compR k t (twoB (fun s st => evC R cs s st) (fun s st => (evEs R es1 s st).bind prepS) k1 t1 own1 (oneB (fun s st => evC R cs1 s st) (fun s st => evE R e s st))) (wipeD s own))
/-- one after another, as they come -/
def evEs (R : Env) : List Ex → Slots → Sto → Res (List D)
  | [], _, st => .ok [] st
  | e :: es, s, st => (evE R e s st).bind fun d st => (evEs R es s st).bind fun ds st => .ok (d :: ds) st
/-- .. each laid into the store -/
def evAs (R : Env) : List Ex → Slots → Sto → Res (List D)
  | [], _, st => .ok [] st
  | e :: es, s, st => (evE R e s st).bind fun d st => let p := stl d st; (evAs R es s p.2).bind fun ds st => .ok (p.1 :: ds) st
/-- no test, or one -/
def evC (R : Env) : List Ex → Slots → Sto → Res Bool
  | [], _, st => .ok true st
  | e :: es, s, st => (evE R e s st).bind fun d st => (asB d st).bind fun b st => match es with
    | [] => .ok b st
    | _ :: _ => .bad
end
/-! ### statements -/
inductive SRes where
  | nxt (s : Slots) (st : Sto)
  | brk (s : Slots) (st : Sto)
  | cnt (s : Slots) (st : Sto)
  | ret (d : D) (st : Sto)
  | exc (c : Nat) (s : Slots) (st : Sto)
  | bad
/-- a value, and what follows; an exception leaves -/
def Res.stm {α : Type} (r : Res α) (s : Slots) (f : α → Sto → SRes) : SRes :=
  match r with
  | .ok a st => f a st
  | .exc c st => .exc c s st
  | .bad => .bad
/-- o[i] = d -/
def setIx (o i d : D) (st : Sto) : Option Sto :=
  match o with
  | .loc l => match st.objs[l]? with
    | some (.lst xs) => match i with
      | .int k => match ixOf xs.length k with
        | some j => some (st.put l (.lst (xs.set j d)) d.noL)
        | none => none
      | _ => none
    | some (.dic ks vs) => match dictFind ks i with
      | some (some j) => some (st.put l (.dic ks (vs.set j d)) d.noL)
      | some none => if ks.length < line then some (st.put l (.dic (ks ++ [i]) (vs ++ [d])) d.noL) else none
      | none => none
    | _ => none
  | _ => none
def optS (o : Option Sto) (f : Sto → SRes) : SRes :=
  match o with
  | some st => f st
  | none => .bad
/-- a settled value goes to its target -/
def assignTo (R : Env) : Tg → D → Slots → Sto → (Slots → Sto → SRes) → SRes
  | .sub o i, d, s, st, f => (evE R o s st).stm s fun ov st => (evE R i s st).stm s fun iv st => optS (setIx ov iv d st) fun st => f s st
  | t, d, s, st, f => match setTo t d s with
    | some s' => f s' st
    | none => .bad
def forL (t : Tg) (b : Slots → Sto → SRes) (ls : List Nat) : List D → Slots → Sto → SRes
  | [], s, st => .nxt s st
  | x :: xs, s, st => match setTo t x s with
    | none => .bad
    | some s1 => match b s1 st with
      | .nxt s2 st2 => if stays ls st st2 then forL t b ls xs s2 st2 else .bad
      | .cnt s2 st2 => if stays ls st st2 then forL t b ls xs s2 st2 else .bad
      | .brk s2 st2 => .nxt s2 st2
      | r => r
def whlL (c : Slots → Sto → Res Bool) (b : Slots → Sto → SRes) : Nat → Slots → Sto → SRes
  | 0, _, _ => .bad
  | n + 1, s, st => (c s st).stm s fun k st1 => if k then (match b s st1 with
      | .nxt s2 st2 => whlL c b n s2 st2
      | .cnt s2 st2 => whlL c b n s2 st2
      | .brk s2 st2 => .nxt s2 st2
      | r => r) else .nxt s st1
/-- turns of a while at the most -/
def turns : Nat := 1000000000
mutual
def evS (R : Env) : St → Slots → Sto → SRes
  | .asg t e, s, st => (evE R e s st).stm s fun d st => let p := stl d st; assignTo R t p.1 s p.2 .nxt
  | .ex e, s, st => (evE R e s st).stm s fun _ st => .nxt s st
  | .ite c a b, s, st => ((evE R c s st).bind asB).stm s fun k st => if k then evSs R a s st else evSs R b s st
  | .whl c b, s, st => whlL (fun s st => (evE R c s st).bind asB) (fun s st => evSs R b s st) turns s st
  | .fr t k es b, s, st => ((evEs R es s st).bind prepS).stm s fun ds st => match srcItems k ds st with
    | some (xs, ls) => forL t (fun s st => evSs R b s st) ls xs s st
    | none => .bad
  | .ret e, s, st => (evE R e s st).stm s fun d st => .ret d st
  | .retN, _, st => .ret .non st
  | .raise c, s, st => .exc c s st
  | .pass, s, st => .nxt s st
def evSs (R : Env) : List St → Slots → Sto → SRes
  | [], s, st => .nxt s st
  | x :: xs, s, st => match evS R x s st with
    | .nxt s' st' => evSs R xs s' st'
    | r => r
end
/-! ### the text -/
structure Fn where
  np : Nat
  slots : Nat
  body : List St
structure Tab where
  fns : List Fn
  consts : List D
def runFn (R : Env) (F : Fn) (ds : List D) (st : Sto) : Res D :=
  if ds.length = F.np then
    match evSs R F.body (ds.map some ++ List.replicate (F.slots - F.np) none) st.bare with
    | .nxt _ st' => fin st.objs.length st.esc .non st'
    | .ret d st' => fin st.objs.length st.esc d st'
    | .exc c _ st' => .exc c (finX st.objs.length st.esc st')
    | _ => .bad
  else .bad
def callN (T : Tab) : Nat → Nat → List D → Sto → Res D
  | 0, _, _, _ => .bad
  | n + 1, f, ds, st => match T.fns[f]? with
    | some F => runFn ⟨callN T n, T.consts⟩ F ds st
    | none => .bad
end DV
set_option Elab.async false
set_option linter.all false
set_option maxRecDepth 100000
set_option maxHeartbeats 4000000
/-! DB: how deep values and the store stand in the abstract heap; the rules for deep values. -/
namespace DV
open PySem PySem.Spec PyProof.Rows L2
/-- what stays fixed: the text, the world, the written part, the exceptions' classes -/
structure Wd where
  P : Program
  w : World
  K : PySem.W.Frag
  exc : Nat → Value
def keyD : Key → D
  | .inl i => .int i
  | .inr x => .str x
mutual
def nkD : NestedKey → D
  | .none => .non
  | .num i => .int i
  | .text x => .str x
  | .tup ks => .tup (nkDs ks)
def nkDs : List NestedKey → List D
  | [] => []
  | k :: ks => nkD k :: nkDs ks
end
/-- a dict whose keys are tuples, at d -/
def NstO (W : Wd) (d : Addr) (kvs : List (NestedKey × Addr × V)) : HO := .ext fun h => ∃ xs : List (NestedKey × Addr × Value),
  Paired (fun (p : NestedKey × Addr × V) (q : NestedKey × Addr × Value) => p.1 = q.1 ∧ p.2.1 = q.2.1 ∧ RelV p.2.2 q.2.2) kvs xs ∧
  ∃ o es ep, h.get? d = some o ∧ o.ExactDict ∧ o.data = .dict es ep ∧ es.toList = xs.map (entryOfKey (nestedKind W.P W.w)) ∧ (xs.map (·.1)).Nodup
/-- the dict o at a has the keys ks (kks as values), the values ws -/
def DicH (W : Wd) (o : HO) (a : Addr) (ks : List D) (kks ws : List V) : Prop :=
  (∃ kvs : List (Key × V), o = .dK kvs ∧ ks = kvs.map (fun p => keyD p.1) ∧ kks = kvs.map (fun p => kV p.1) ∧ ws = kvs.map (·.2)) ∨
  ∃ kvs : List (NestedKey × Addr × V), o = NstO W a kvs ∧ ks = kvs.map (fun p => nkD p.1) ∧ kks = kvs.map (fun p => .ref p.2.1) ∧ ws = kvs.map (·.2.2) ∧
    kvs.length ≤ sizeLine ∧ (a == sysModules) = false ∧ kvs ≠ [] ∧ ∀ p ∈ kvs, (∃ l, p.1 = .tup l) ∧ p.1.depth ≤ 8
def Fro (K : PySem.W.Frag) (H : Hp) (a : Addr) (vs : List V) : Prop :=
  (∃ o, H a = some (.frz o (.lst vs))) ∨ SqL K (fun _ => none) a vs
/-- a tuple, of which it is known that it has no dict -/
def TupR (K : PySem.W.Frag) (H : Hp) (a : Addr) (vs : List V) : Prop :=
  (∃ o, H a = some (.frz o (.tup vs)) ∧ o.dict = none) ∨
    ∃ (o : Obj) (its : Array Value) (n : Nat), K.lookup a = some o ∧ o.dict = none ∧ o.cls = .type "tuple" ∧ o.data = .seq its n ∧ its.size ≤ sizeLine ∧ Vals vs its.toList
theorem TupR.sq {K : PySem.W.Frag} {H : Hp} {a : Addr} {vs : List V} (h : TupR K H a vs) : SqT K H a vs := by
  rcases h with ⟨o, h, _⟩ | ⟨o, its, n, h1, _, h2⟩
  · exact .inl (.inr ⟨o, h⟩)
  · exact .inr ⟨o, its, n, h1, h2⟩
mutual
/-- the value v stands for the deep value d; F: the new lists and dicts within, in the order in which they are laid -/
def RepV (W : Wd) (m : List Addr) (H : Hp) : D → V → List Addr → Prop
  | .non, v, F => v = .non ∧ F = []
  | .bl b, v, F => v = .bl b ∧ F = []
  | .int i, v, F => v = .int i ∧ F = []
  | .str s, v, F => v = .str s ∧ F = []
  | .exn _, _, _ => False
  | .tup xs, v, F => ∃ a vs, v = .ref a ∧ TupR W.K H a vs ∧ RepVs W m H xs vs F
  | .tl xs, v, F => ∃ a vs G, v = .ref a ∧ F = G ++ [a] ∧ H a = some (.lst vs) ∧ RepVs W m H xs vs G
  | .td ks xs, v, F => ∃ a o kks vs G, v = .ref a ∧ F = G ++ [a] ∧ H a = some o ∧ DicH W o a ks kks vs ∧ RepVs W m H ks kks [] ∧ RepVs W m H xs vs G
  | .loc l, v, F => ∃ a, v = .ref a ∧ m[l]? = some a ∧ F = []
  | .fro xs, v, F => ∃ a vs, v = .ref a ∧ F = [] ∧ Fro W.K H a vs ∧ RepVs W m H xs vs []
def RepVs (W : Wd) (m : List Addr) (H : Hp) : List D → List V → List Addr → Prop
  | [], vs, F => vs = [] ∧ F = []
  | x :: xs, vs, F => ∃ v ws F1 F2, vs = v :: ws ∧ F = F1 ++ F2 ∧ RepV W m H x v F1 ∧ RepVs W m H xs ws F2
end
def RepO (W : Wd) (m : List Addr) (H : Hp) (a : Addr) : MO → Prop
  | .lst xs => ∃ vs, H a = some (.lst vs) ∧ RepVs W m H xs vs []
  | .dic ks xs => ∃ o kks vs, H a = some o ∧ DicH W o a ks kks vs ∧ RepVs W m H ks kks [] ∧ RepVs W m H xs vs []
  | .ins _ _ => False
/-- the store stands in the heap -/
structure Sat (W : Wd) (m : List Addr) (cs : List Nat) (st : Sto) (H : Hp) : Prop where
  len : m.length = st.objs.length
  nd : m.Nodup
  obj : ∀ (l : Nat) (a : Addr) (o : MO), m[l]? = some a → st.objs[l]? = some o → RepO W m H a o
  cut : ∀ n ∈ cs, n ≤ st.objs.length ∧ (cleanAt st.esc n = true → ∀ (l : Nat) (o : MO), l < n → st.objs[l]? = some o → o.und n = true)
/-- new objects of the store; all else is as it was -/
structure Grow (m : List Addr) (H : Hp) (m' : List Addr) (H' : Hp) : Prop where
  ext : ∃ n, m' = m ++ n ∧ ∀ a ∈ n, H a = none
  keep : ∀ a o, H a = some o → a ∉ m → H' a = some o
/-- every object of the store may change -/
def MutM (m : List Addr) (H : Hp) : Prop := ∀ a ∈ m, ∃ o, H a = some o ∧ Mut (some o)
theorem DicH.mut {W : Wd} {o : HO} {a : Addr} {ks : List D} {kks ws : List V} (h : DicH W o a ks kks ws) : Mut (some o) := by
  rcases h with ⟨kvs, rfl, _⟩ | ⟨kvs, rfl, _⟩
  · exact trivial
  · exact trivial
theorem RepO.mut {W : Wd} {m : List Addr} {H : Hp} {a : Addr} {o : MO} (h : RepO W m H a o) : ∃ u, H a = some u ∧ Mut (some u) := by
  cases o with
  | lst xs => obtain ⟨vs, e, _⟩ := h; exact ⟨_, e, trivial⟩
  | dic ks xs => obtain ⟨o, kks, vs, e, d, _⟩ := h; exact ⟨_, e, d.mut⟩
  | ins c fs => exact False.elim h
theorem Sat.mut {W : Wd} {m : List Addr} {cs : List Nat} {st : Sto} {H : Hp} (S : Sat W m cs st H) : MutM m H := fun a ha => by
  obtain ⟨l, hl, e⟩ := List.getElem_of_mem ha
  have h1 : m[l]? = some a := by rw [List.getElem?_eq_getElem hl, e]
  have h2 : l < st.objs.length := by rw [← S.len]; exact hl
  exact (S.obj l a _ h1 (List.getElem?_eq_getElem h2)).mut
theorem Grow.refl {m : List Addr} {H : Hp} : Grow m H m H := ⟨⟨[], by simp, by simp⟩, fun _ _ e _ => e⟩
theorem Grow.trans {m m1 m2 : List Addr} {H H1 H2 : Hp} (M1 : MutM m1 H1) (g : Grow m H m1 H1) (k : Grow m1 H1 m2 H2) : Grow m H m2 H2 := by
  obtain ⟨n, rfl, hn⟩ := g.ext
  obtain ⟨n', rfl, hn'⟩ := k.ext
  have nin : ∀ a o, H a = some o → a ∉ m → a ∉ m ++ n := fun a o e h z => by
    rcases List.mem_append.mp z with z | z
    · exact h z
    · rw [hn a z] at e; cases e
  refine ⟨⟨n ++ n', by rw [List.append_assoc], fun a ha => ?_⟩, fun a o e h => k.keep a o (g.keep a o e h) (nin a o e h)⟩
  rcases List.mem_append.mp ha with z | z
  · exact hn a z
  · cases q : H a with
    | none => rfl
    | some o =>
      by_cases ham : a ∈ m
      · obtain ⟨u, e, _⟩ := M1 a (List.mem_append_left _ ham)
        rw [hn' a z] at e; cases e
      · have e := g.keep a o q ham
        rw [hn' a z] at e; cases e
theorem Grow.free {m m1 : List Addr} {H H1 : Hp} (M1 : MutM m1 H1) (g : Grow m H m1 H1) {a : Addr} (h : H1 a = none) : H a = none := by
  obtain ⟨n, rfl, hn⟩ := g.ext
  cases q : H a with
  | none => rfl
  | some o =>
    by_cases ham : a ∈ m
    · obtain ⟨u, e, _⟩ := M1 a (List.mem_append_left _ ham)
      rw [h] at e; cases e
    · have e := g.keep a o q ham
      rw [h] at e; cases e
theorem Grow.new {m : List Addr} {H : Hp} {p : Addr} {o : HO} (h : H p = none) : Grow m H m (upd H p o) :=
  ⟨⟨[], by simp, by simp⟩, fun a u e _ => by rw [upd_ne (ne_of_none e h)]; exact e⟩
theorem Grow.sub {m m' : List Addr} {H H' : Hp} (g : Grow m H m' H') {l : Nat} {a : Addr} (h : m[l]? = some a) : m'[l]? = some a := by
  obtain ⟨n, rfl, _⟩ := g.ext
  obtain ⟨hl, e⟩ := List.getElem?_eq_some_iff.mp h
  rw [List.getElem?_append_left hl]; exact h
section
variable {W : Wd} {m m' : List Addr} {H H' : Hp}
theorem sqT_grow {K : PySem.W.Frag} {a : Addr} {vs : List V} (M : MutM m H) (g : Grow m H m' H') (h : TupR K H a vs) : TupR K H' a vs := by
  have no : ∀ u, H a = some u → ¬ Mut (some u) → a ∉ m := fun u e n z => by
    obtain ⟨o, e', mu⟩ := M a z
    rw [e] at e'; cases e'
    exact n mu
  rcases h with ⟨o, h, d⟩ | h
  · exact .inl ⟨o, g.keep a _ h (no _ h fun z => z), d⟩
  · exact .inr h
theorem fro_grow {K : PySem.W.Frag} {a : Addr} {vs : List V} (M : MutM m H) (g : Grow m H m' H') (h : Fro K H a vs) : Fro K H' a vs := by
  rcases h with ⟨o, h⟩ | h
  · refine .inl ⟨o, g.keep a _ h fun z => ?_⟩
    obtain ⟨u, e, mu⟩ := M a z
    rw [h] at e; cases e
    exact mu
  · exact .inr h
theorem Fro.seq {K : PySem.W.Frag} {a : Addr} {vs : List V} (h : Fro K H a vs) : SqL K H a vs := by
  rcases h with ⟨o, h⟩ | h
  · exact .inl (.inr ⟨o, h⟩)
  · rcases h with (h | ⟨o, h⟩) | h
    · cases h
    · cases h
    · exact .inr h
mutual
/-- more objects of the store -/
theorem RepV.app (n : List Addr) : ∀ {d : D} {v : V} {F : List Addr}, RepV W m H d v F → RepV W (m ++ n) H d v F
  | .non, _, _, h => h
  | .bl _, _, _, h => h
  | .int _, _, _, h => h
  | .str _, _, _, h => h
  | .exn _, _, _, h => h
  | .tup xs, v, F, h => by
    obtain ⟨a, vs, e, s, r⟩ := h
    exact ⟨a, vs, e, s, RepVs.app n r⟩
  | .tl xs, v, F, h => by
    obtain ⟨a, vs, G, e, eF, s, r⟩ := h
    exact ⟨a, vs, G, e, eF, s, RepVs.app n r⟩
  | .td ks xs, v, F, h => by
    obtain ⟨a, o, kks, vs, G, e, eF, s, dh, rk, r⟩ := h
    exact ⟨a, o, kks, vs, G, e, eF, s, dh, RepVs.app n rk, RepVs.app n r⟩
  | .loc l, v, F, h => by
    obtain ⟨a, e, s, eF⟩ := h
    obtain ⟨hl, e2⟩ := List.getElem?_eq_some_iff.mp s
    exact ⟨a, e, by rw [List.getElem?_append_left hl]; exact s, eF⟩
  | .fro xs, v, F, h => by
    obtain ⟨a, vs, e, eF, s, r⟩ := h
    exact ⟨a, vs, e, eF, s, RepVs.app n r⟩
theorem RepVs.app (n : List Addr) : ∀ {ds : List D} {vs : List V} {F : List Addr}, RepVs W m H ds vs F → RepVs W (m ++ n) H ds vs F
  | [], _, _, h => h
  | x :: xs, vs, F, h => by
    obtain ⟨v, ws, F1, F2, e1, e2, r, rs⟩ := h
    exact ⟨v, ws, F1, F2, e1, e2, RepV.app n r, RepVs.app n rs⟩
end
theorem RepO.app (n : List Addr) {a : Addr} {o : MO} (h : RepO W m H a o) : RepO W (m ++ n) H a o := by
  cases o with
  | lst xs =>
    obtain ⟨vs, h1, r⟩ := h
    exact ⟨vs, h1, r.app n⟩
  | dic ks xs =>
    obtain ⟨o, kks, vs, h1, dh, rk, r⟩ := h
    exact ⟨o, kks, vs, h1, dh, rk.app n, r.app n⟩
  | ins c fs => exact False.elim h
mutual
theorem RepV.grow (M : MutM m H) (g : Grow m H m' H') : ∀ {d : D} {v : V} {F : List Addr}, RepV W m H d v F → (∀ a ∈ F, a ∉ m) → RepV W m' H' d v F
  | .non, _, _, h, _ => h
  | .bl _, _, _, h, _ => h
  | .int _, _, _, h, _ => h
  | .str _, _, _, h, _ => h
  | .exn _, _, _, h, _ => h
  | .tup xs, v, F, h, n => by
    obtain ⟨a, vs, e, s, r⟩ := h
    exact ⟨a, vs, e, sqT_grow M g s, RepVs.grow M g r n⟩
  | .tl xs, v, F, h, n => by
    obtain ⟨a, vs, G, e, eF, s, r⟩ := h
    subst eF
    exact ⟨a, vs, G, e, rfl, g.keep a _ s (n a (by simp)), RepVs.grow M g r fun b hb => n b (List.mem_append_left _ hb)⟩
  | .td ks xs, v, F, h, n => by
    obtain ⟨a, o, kks, vs, G, e, eF, s, dh, rk, r⟩ := h
    subst eF
    exact ⟨a, o, kks, vs, G, e, rfl, g.keep a _ s (n a (by simp)), dh, RepVs.grow M g rk (by simp), RepVs.grow M g r fun b hb => n b (List.mem_append_left _ hb)⟩
  | .loc l, v, F, h, _ => by
    obtain ⟨a, e, s, eF⟩ := h
    exact ⟨a, e, g.sub s, eF⟩
  | .fro xs, v, F, h, n => by
    obtain ⟨a, vs, e, eF, s, r⟩ := h
    exact ⟨a, vs, e, eF, fro_grow M g s, RepVs.grow M g r (by simp)⟩
theorem RepVs.grow (M : MutM m H) (g : Grow m H m' H') : ∀ {ds : List D} {vs : List V} {F : List Addr}, RepVs W m H ds vs F → (∀ a ∈ F, a ∉ m) → RepVs W m' H' ds vs F
  | [], _, _, h, _ => h
  | x :: xs, vs, F, h, n => by
    obtain ⟨v, ws, F1, F2, e1, e2, r, rs⟩ := h
    subst e2
    exact ⟨v, ws, F1, F2, e1, rfl, RepV.grow M g r fun a ha => n a (List.mem_append_left _ ha), RepVs.grow M g rs fun a ha => n a (List.mem_append_right _ ha)⟩
end
theorem RepO.grow (M : MutM m H) (g : Grow m H m' H') {a : Addr} (e : H' a = H a) {o : MO} (h : RepO W m H a o) : RepO W m' H' a o := by
  cases o with
  | lst xs =>
    obtain ⟨vs, h1, r⟩ := h
    exact ⟨vs, e.trans h1, r.grow M g (by simp)⟩
  | dic ks xs =>
    obtain ⟨o, kks, vs, h1, dh, rk, r⟩ := h
    exact ⟨o, kks, vs, e.trans h1, dh, rk.grow M g (by simp), r.grow M g (by simp)⟩
  | ins c fs => exact False.elim h
/-- something new that is none of the store's -/
theorem Sat.new {cs : List Nat} {st : Sto} {p : Addr} {o : HO} (S : Sat W m cs st H) (h : H p = none) : Sat W m cs st (upd H p o) := by
  refine ⟨S.len, S.nd, fun l a o' h1 h2 => ?_, S.cut⟩
  have r := S.obj l a o' h1 h2
  obtain ⟨u, e, _⟩ := r.mut
  exact r.grow S.mut (.new h) (upd_ne (ne_of_none e h))
/-! lengths, lists -/
theorem RepVs.length : ∀ {ds : List D} {vs : List V} {F : List Addr}, RepVs W m H ds vs F → vs.length = ds.length
  | [], vs, F, h => by rw [h.1]; rfl
  | x :: xs, vs, F, h => by
    obtain ⟨v, ws, F1, F2, rfl, _, _, rs⟩ := h
    simp [rs.length]
theorem RepVs.append : ∀ {ds es : List D} {vs ws : List V} {F G : List Addr}, RepVs W m H ds vs F → RepVs W m H es ws G → RepVs W m H (ds ++ es) (vs ++ ws) (F ++ G)
  | [], es, vs, ws, F, G, h, k => by
    obtain ⟨rfl, rfl⟩ := h
    simpa using k
  | x :: xs, es, vs, ws, F, G, h, k => by
    obtain ⟨v, us, F1, F2, rfl, rfl, r, rs⟩ := h
    exact ⟨v, us ++ ws, F1, F2 ++ G, rfl, by rw [List.append_assoc], r, rs.append k⟩
/-- what holds nothing new -/
def Plain (W : Wd) (m : List Addr) (H : Hp) (d : D) (v : V) : Prop := RepV W m H d v []
mutual
theorem RepV.noT : ∀ {d : D} {v : V} {F : List Addr}, RepV W m H d v F → d.noT = true → F = []
  | .non, _, _, h, _ => h.2
  | .bl _, _, _, h, _ => h.2
  | .int _, _, _, h, _ => h.2
  | .str _, _, _, h, _ => h.2
  | .exn _, _, _, h, _ => False.elim h
  | .tup xs, v, F, h, n => by
    obtain ⟨a, vs, e, s, r⟩ := h
    exact r.noT (by simpa [D.noT] using n)
  | .tl xs, v, F, h, n => by simp [D.noT] at n
  | .td ks xs, v, F, h, n => by simp [D.noT] at n
  | .loc l, v, F, h, _ => by
    obtain ⟨a, e, s, eF⟩ := h
    exact eF
  | .fro xs, v, F, h, n => by
    obtain ⟨a, vs, e, eF, s, r⟩ := h
    exact eF
theorem RepVs.noT : ∀ {ds : List D} {vs : List V} {F : List Addr}, RepVs W m H ds vs F → D.noTs ds = true → F = []
  | [], _, _, h, _ => h.2
  | x :: xs, vs, F, h, n => by
    obtain ⟨v, ws, F1, F2, e1, e2, r, rs⟩ := h
    simp only [D.noTs, Bool.and_eq_true] at n
    rw [e2, r.noT n.1, rs.noT n.2]; rfl
end
theorem RepVs.get : ∀ {ds : List D} {vs : List V} {i : Nat} {d : D}, RepVs W m H ds vs [] → ds[i]? = some d → ∃ v, vs[i]? = some v ∧ RepV W m H d v []
  | [], vs, i, d, h, e => by simp at e
  | x :: xs, vs, 0, d, h, e => by
    obtain ⟨v, ws, F1, F2, rfl, e2, r, rs⟩ := h
    obtain ⟨rfl, rfl⟩ := List.append_eq_nil_iff.mp e2.symm
    simp at e; subst e
    exact ⟨v, rfl, r⟩
  | x :: xs, vs, i + 1, d, h, e => by
    obtain ⟨v, ws, F1, F2, rfl, e2, r, rs⟩ := h
    obtain ⟨rfl, rfl⟩ := List.append_eq_nil_iff.mp e2.symm
    obtain ⟨u, h1, h2⟩ := RepVs.get (i := i) rs (by simpa using e)
    exact ⟨u, by simpa using h1, h2⟩
/-- an item, with its own part of what is new -/
theorem RepVs.getF : ∀ {ds : List D} {vs : List V} {F : List Addr} {i : Nat} {d : D}, RepVs W m H ds vs F → ds[i]? = some d → ∃ v G, vs[i]? = some v ∧ RepV W m H d v G ∧ G.Sublist F
  | [], vs, F, i, d, h, e => by simp at e
  | x :: xs, vs, F, 0, d, h, e => by
    obtain ⟨v, ws, F1, F2, rfl, rfl, r, rs⟩ := h
    simp at e; subst e
    exact ⟨v, F1, rfl, r, List.sublist_append_left _ _⟩
  | x :: xs, vs, F, i + 1, d, h, e => by
    obtain ⟨v, ws, F1, F2, rfl, rfl, r, rs⟩ := h
    obtain ⟨u, G, h1, h2, h3⟩ := RepVs.getF (i := i) rs (by simpa using e)
    exact ⟨u, G, by simpa using h1, h2, h3.trans (List.sublist_append_right _ _)⟩
end
/-! ### what is wanted behind a computation -/
/-- new things: none of the store's, all of G or new behind H -/
structure Tmp (m' : List Addr) (H : Hp) (G F : List Addr) : Prop where
  nd : F.Nodup
  out : ∀ a ∈ F, a ∉ m' ∧ (a ∈ G ∨ H a = none)
/-- pending new things -/
structure Pend (m : List Addr) (H : Hp) (G : List Addr) : Prop where
  nd : G.Nodup
  out : ∀ a ∈ G, a ∉ m ∧ ∃ o, H a = some o
theorem Pend.nil {m : List Addr} {H : Hp} : Pend m H [] := ⟨List.nodup_nil, fun _ h => nomatch h⟩
mutual
theorem RepV.there {W : Wd} {m : List Addr} {H : Hp} : ∀ {d : D} {v : V} {F : List Addr}, RepV W m H d v F → ∀ a ∈ F, ∃ o, H a = some o
  | .non, _, _, h => by rw [h.2]; intro a ha; cases ha
  | .bl _, _, _, h => by rw [h.2]; intro a ha; cases ha
  | .int _, _, _, h => by rw [h.2]; intro a ha; cases ha
  | .str _, _, _, h => by rw [h.2]; intro a ha; cases ha
  | .exn _, _, _, h => False.elim h
  | .tup xs, v, F, h => by
    obtain ⟨a, vs, e, s, r⟩ := h
    exact r.there
  | .tl xs, v, F, h => by
    obtain ⟨a, vs, G, e, eF, s, r⟩ := h
    subst eF
    intro b hb
    rcases List.mem_append.mp hb with z | z
    · exact r.there b z
    · rw [List.mem_singleton.mp z]; exact ⟨_, s⟩
  | .td ks xs, v, F, h => by
    obtain ⟨a, o, kks, vs, G, e, eF, s, dh, rk, r⟩ := h
    subst eF
    intro b hb
    rcases List.mem_append.mp hb with z | z
    · exact r.there b z
    · rw [List.mem_singleton.mp z]; exact ⟨_, s⟩
  | .loc l, v, F, h => by
    obtain ⟨a, e, s, eF⟩ := h
    rw [eF]; intro a ha; cases ha
  | .fro xs, v, F, h => by
    obtain ⟨a, vs, e, eF, s, r⟩ := h
    rw [eF]; intro a ha; cases ha
theorem RepVs.there {W : Wd} {m : List Addr} {H : Hp} : ∀ {ds : List D} {vs : List V} {F : List Addr}, RepVs W m H ds vs F → ∀ a ∈ F, ∃ o, H a = some o
  | [], _, _, h => by rw [h.2]; intro a ha; cases ha
  | x :: xs, vs, F, h => by
    obtain ⟨v, ws, F1, F2, e1, e2, r, rs⟩ := h
    subst e2
    intro b hb
    rcases List.mem_append.mp hb with z | z
    · exact r.there b z
    · exact rs.there b z
end
theorem Grow.out {m m1 : List Addr} {H H1 : Hp} (g : Grow m H m1 H1) {a : Addr} (h : a ∉ m) {o : HO} (e : H a = some o) : a ∉ m1 := by
  obtain ⟨n, rfl, hn⟩ := g.ext
  intro z
  rcases List.mem_append.mp z with z | z
  · exact h z
  · rw [hn a z] at e; cases e
theorem Pend.grow {m m1 : List Addr} {H H1 : Hp} {G : List Addr} (p : Pend m H G) (g : Grow m H m1 H1) : Pend m1 H1 G :=
  ⟨p.nd, fun a ha => let ⟨n, o, e⟩ := p.out a ha; ⟨g.out n e, o, g.keep a o e n⟩⟩
theorem Pend.add {W : Wd} {m m1 : List Addr} {H H1 : Hp} {G F : List Addr} (p : Pend m H G) (g : Grow m H m1 H1) (t : Tmp m1 H [] F) (th : ∀ a ∈ F, ∃ o, H1 a = some o) : Pend m1 H1 (G ++ F) := by
  have q := p.grow g
  refine ⟨List.nodup_append.mpr ⟨p.nd, t.nd, fun a ha b hb e => ?_⟩, fun a ha => ?_⟩
  · subst e
    obtain ⟨_, o, e⟩ := p.out a ha
    rcases (t.out a hb).2 with z | z
    · cases z
    · rw [z] at e; cases e
  · rcases List.mem_append.mp ha with z | z
    · exact q.out a z
    · exact ⟨(t.out a z).1, th a z⟩
/-- what follows a computation's own end; it may use up what is pending -/
structure Post (W : Wd) (β : Type) where
  ok : List Addr → Hp → List Addr → β → Sto → Prop
  mono : ∀ {m m1 : List Addr} {H H1 : Hp} {G F : List Addr} {b : β} {st : Sto}, MutM m1 H1 → Grow m H m1 H1 → (∀ a ∈ F, H a = none) → ok m H G b st → ok m1 H1 (G ++ F) b st
def RP {W : Wd} {β : Type} (Z : Post W β) (cs : List Nat) (E : XK) (m : List Addr) (H : Hp) (G : List Addr) (r : Res β) : Prop :=
  match r with
  | .ok b st' => Z.ok m H G b st'
  | .exc c st' => ∀ H' m', Grow m H m' H' → Sat W m' cs st' H' → E (W.exc c) none H'
  | .bad => False
theorem Tmp.from {m' m m1 : List Addr} {H H1 : Hp} {G F F' : List Addr} (M : MutM m1 H1) (g : Grow m H m1 H1) (hF : ∀ a ∈ F, H a = none) (t : Tmp m' H1 (G ++ F) F') : Tmp m' H G F' :=
  ⟨t.nd, fun a ha => ⟨(t.out a ha).1, by
    rcases (t.out a ha).2 with z | z
    · rcases List.mem_append.mp z with z | z
      · exact .inl z
      · exact .inr (hF a z)
    · exact .inr (g.free M z)⟩⟩
/-- a value is handed on -/
def VP (W : Wd) (cs : List Nat) (Q : VK) : Post W D where
  ok m H G d st' := ∀ v H' m' F, Grow m H m' H' → Sat W m' cs st' H' → RepV W m' H' d v F → Tmp m' H G F → Q v H'
  mono := fun M g hF h v H' m' F g' S R T => h v H' m' F (g.trans M g') S R (T.from M g hF)
def VsP (W : Wd) (cs : List Nat) (Q : List V → Hp → Prop) : Post W (List D) where
  ok m H G ds st' := ∀ vs H' m' F, Grow m H m' H' → Sat W m' cs st' H' → RepVs W m' H' ds vs F → Tmp m' H G F → Q vs H'
  mono := fun M g hF h v H' m' F g' S R T => h v H' m' F (g.trans M g') S R (T.from M g hF)
def BP (W : Wd) (cs : List Nat) (Q : Bool → Hp → Prop) : Post W Bool where
  ok m H G b st' := ∀ H' m', Grow m H m' H' → Sat W m' cs st' H' → Q b H'
  mono := fun M g hF h H' m' g' S => h H' m' (g.trans M g') S
theorem RP.mono {W : Wd} {β : Type} {Z : Post W β} {cs : List Nat} {E : XK} {m m1 : List Addr} {H H1 : Hp} {G F : List Addr} {r : Res β} (M : MutM m1 H1) (g : Grow m H m1 H1) (hF : ∀ a ∈ F, H a = none) (h : RP Z cs E m H G r) : RP Z cs E m1 H1 (G ++ F) r := by
  cases r with
  | ok b st => exact Z.mono M g hF h
  | exc c st => exact fun H' m' g' S => h H' m' (g.trans M g') S
  | bad => exact h
abbrev EB (B : WX) (σ : L2.St) : XK := fun c d H' => B c d σ H'
def RepS (W : Wd) (m : List Addr) (H : Hp) (s : Slots) (σ : L2.St) : Prop :=
  s.length = σ.length ∧ ∀ (i : Nat) (d : D), s[i]? = some (some d) → ∃ v, σ[i]? = some (some v) ∧ RepV W m H d v []
theorem RepS.grow {W : Wd} {m m' : List Addr} {H H' : Hp} {s : Slots} {σ : L2.St} (M : MutM m H) (g : Grow m H m' H') (h : RepS W m H s σ) : RepS W m' H' s σ :=
  ⟨h.1, fun i d e => let ⟨v, h1, h2⟩ := h.2 i d e; ⟨v, h1, h2.grow M g (by simp)⟩⟩
/-- an expression's reading: what it is in the small language -/
def tD (W : Wd) (B : WX) (r : Slots → Sto → Res D) : TE := fun σ H Q =>
  ∃ s st m cs, RepS W m H s σ ∧ Sat W m cs st H ∧ RP (VP W cs Q) cs (EB B σ) m H [] (r s st)
def tDs (W : Wd) (B : WX) (r : Slots → Sto → Res (List D)) : TA := fun σ H Q =>
  ∃ s st m cs, RepS W m H s σ ∧ Sat W m cs st H ∧ RP (VsP W cs Q) cs (EB B σ) m H [] (r s st)
def tDt (W : Wd) (B : WX) (r : Slots → Sto → Res Bool) : TT := fun σ H Q =>
  ∃ s st m cs, RepS W m H s σ ∧ Sat W m cs st H ∧ RP (BP W cs Q) cs (EB B σ) m H [] (r s st)
section
variable {W : Wd} {B : WX} {β : Type} {Z : Post W β} {m : List Addr} {cs : List Nat} {st : Sto} {H : Hp} {s : Slots} {σ : L2.St} {G : List Addr}
/-- one expression ahead of the rest -/
theorem stepD {ra : Slots → Sto → Res D} {f : D → Sto → Res β} {Q' : VK} (S : Sat W m cs st H) (RS : RepS W m H s σ) (PG : Pend m H G) (h : RP Z cs (EB B σ) m H G ((ra s st).bind f))
    (k : ∀ d st1 v H1 m1 F1, Grow m H m1 H1 → Sat W m1 cs st1 H1 → RepS W m1 H1 s σ → RepV W m1 H1 d v F1 → Pend m1 H1 (G ++ F1) → RP Z cs (EB B σ) m1 H1 (G ++ F1) (f d st1) → Q' v H1) : tD W B ra σ H Q' := by
  refine ⟨s, st, m, cs, RS, S, ?_⟩
  cases e : ra s st with
  | ok d st1 =>
    rw [e] at h
    intro v H1 m1 F1 g1 S1 R1 T1
    exact k d st1 v H1 m1 F1 g1 S1 (RS.grow S.mut g1) R1 (PG.add (W := W) g1 T1 R1.there) (RP.mono S1.mut g1 (fun a ha => by
      rcases (T1.out a ha).2 with z | z
      · cases z
      · exact z) h)
  | exc c st1 =>
    rw [e] at h
    exact h
  | bad =>
    rw [e] at h
    exact h
theorem stepDs {ra : Slots → Sto → Res (List D)} {f : List D → Sto → Res β} {Q' : List V → Hp → Prop} (S : Sat W m cs st H) (RS : RepS W m H s σ) (PG : Pend m H G) (h : RP Z cs (EB B σ) m H G ((ra s st).bind f))
    (k : ∀ d st1 v H1 m1 F1, Grow m H m1 H1 → Sat W m1 cs st1 H1 → RepS W m1 H1 s σ → RepVs W m1 H1 d v F1 → Pend m1 H1 (G ++ F1) → RP Z cs (EB B σ) m1 H1 (G ++ F1) (f d st1) → Q' v H1) : tDs W B ra σ H Q' := by
  refine ⟨s, st, m, cs, RS, S, ?_⟩
  cases e : ra s st with
  | ok d st1 =>
    rw [e] at h
    intro v H1 m1 F1 g1 S1 R1 T1
    exact k d st1 v H1 m1 F1 g1 S1 (RS.grow S.mut g1) R1 (PG.add (W := W) g1 T1 R1.there) (RP.mono S1.mut g1 (fun a ha => by
      rcases (T1.out a ha).2 with z | z
      · cases z
      · exact z) h)
  | exc c st1 =>
    rw [e] at h
    exact h
  | bad =>
    rw [e] at h
    exact h
theorem stepDt {ra : Slots → Sto → Res Bool} {f : Bool → Sto → Res β} {Q' : Bool → Hp → Prop} (S : Sat W m cs st H) (RS : RepS W m H s σ) (PG : Pend m H G) (h : RP Z cs (EB B σ) m H G ((ra s st).bind f))
    (k : ∀ d st1 H1 m1, Grow m H m1 H1 → Sat W m1 cs st1 H1 → RepS W m1 H1 s σ → Pend m1 H1 G → RP Z cs (EB B σ) m1 H1 G (f d st1) → Q' d H1) : tDt W B ra σ H Q' := by
  refine ⟨s, st, m, cs, RS, S, ?_⟩
  cases e : ra s st with
  | ok d st1 =>
    rw [e] at h
    intro H1 m1 g1 S1
    have h1 := RP.mono (F := []) S1.mut g1 (fun a ha => nomatch ha) h
    rw [List.append_nil] at h1
    exact k d st1 H1 m1 g1 S1 (RS.grow S.mut g1) (PG.grow g1) h1
  | exc c st1 =>
    rw [e] at h
    exact h
  | bad =>
    rw [e] at h
    exact h
/-- the last step of all -/
theorem VP.put {Q : VK} {v : V} {d : D} {F : List Addr} (S : Sat W m cs st H) (R : RepV W m H d v F) (PG : Pend m H G) (hF : F.Sublist G) (h : (VP W cs Q).ok m H G d st) : Q v H :=
  h v H m F .refl S R ⟨PG.nd.sublist hF, fun a ha => ⟨(PG.out a (hF.subset ha)).1, .inl (hF.subset ha)⟩⟩
end
/-- another reading of the same -/
theorem peD {X : Cx} {e : Expr} {t t' : TE} (h : PE X e t) (k : ∀ σ H Q, t' σ H Q → t σ H Q) : PE X e t' := ⟨fun pins s σ H Q I q => h.run pins s σ H Q I (k σ H Q q)⟩
theorem ptD {X : Cx} {e : Expr} {t t' : TT} (h : PT X e t) (k : ∀ σ H Q, t' σ H Q → t σ H Q) : PT X e t' := ⟨fun pins s σ H Q I q => h.run pins s σ H Q I (k σ H Q q)⟩
theorem paD {X : Cx} {e : List Expr} {t t' : TA} (h : PA X e t) (k : ∀ σ H Q, t' σ H Q → t σ H Q) : PA X e t' := ⟨fun p pins s σ H Q I q => h.run p pins s σ H Q I (k σ H Q q)⟩
/-! ### names, constants, displays -/
section
variable {W : Wd} {B : WX} {X : Cx} {pos : Pos}
theorem xd_var {i : Nat} {e : Expr} (h : PE X e (tVar i)) : PE X e (tD W B fun s st => match s[i]? with | some (some d) => .ok d st | _ => .bad) := by
  refine peD h fun σ H Q ⟨s, st, m, cs, RS, S, q⟩ => ?_
  dsimp only at q
  cases e : s[i]? with
  | none => rw [e] at q; exact False.elim q
  | some o =>
    cases o with
    | none => rw [e] at q; exact False.elim q
    | some d =>
      rw [e] at q
      obtain ⟨v, h1, h2⟩ := RS.2 i d e
      exact ⟨v, h1, VP.put S h2 .nil (List.Sublist.refl _) q⟩
theorem xd_const {e : Expr} {d : D} {v : V} (h : PE X e (tC v)) (hr : ∀ m H, RepV W m H d v []) : PE X e (tD W B fun _ st => .ok d st) := by
  refine peD h fun σ H Q ⟨s, st, m, cs, RS, S, q⟩ => ?_
  exact VP.put S (hr m H) .nil (List.Sublist.refl _) q
theorem xs_nil : PA X [] (tDs W B fun _ st => .ok [] st) := by
  refine paD pa_nil fun σ H Q ⟨s, st, m, cs, RS, S, q⟩ => ?_
  exact q [] H m [] .refl S ⟨rfl, rfl⟩ ⟨List.nodup_nil, fun _ h => nomatch h⟩
theorem xs_cons {e : Expr} {es : List Expr} {ra : Slots → Sto → Res D} {rs : Slots → Sto → Res (List D)} (ha : PE X e (tD W B ra)) (hr : PA X es (tDs W B rs)) (hs : starEach (e :: es) X.env = (false, eval e X.env) :: starEach es X.env) :
    PA X (e :: es) (tDs W B fun s st => (ra s st).bind fun d st => (rs s st).bind fun ds st => .ok (d :: ds) st) := by
  refine paD (pa_cons ha hr hs) fun σ H Q ⟨s, st, m, cs, RS, S, q⟩ => ?_
  refine stepD S RS .nil q fun d st1 v H1 m1 F1 g1 S1 RS1 R1 P1 q1 => ?_
  refine stepDs S1 RS1 P1 q1 fun ds st2 vs H2 m2 F2 g2 S2 RS2 R2 P2 q2 => ?_
  refine q2 (v :: vs) H2 m2 (F1 ++ F2) .refl S2 ⟨v, vs, F1, F2, rfl, rfl, R1.grow S1.mut g2 fun a ha => (P1.out a (by simpa using ha)).1, R2⟩ ⟨by simpa using P2.nd, fun a ha => ?_⟩
  exact ⟨(P2.out a (by simpa using ha)).1, .inl (by simpa using ha)⟩
end
end DV
set_option Elab.async false
set_option linter.all false
set_option maxRecDepth 100000
set_option maxHeartbeats 4000000
/-! DC: operators on deep values. -/
namespace DV
open PySem PySem.Spec PyProof.Rows L2
/-- the context is of the same text -/
structure Fits (X : Cx) (W : Wd) : Prop where
  P : X.prog = W.P
  w : X.w = W.w
  K : X.K = W.K
theorem line_eq : line = sizeLine := by rw [sizeLine_eq]
/-! ### tuples whose object is known -/
section
variable {X : Cx} {pins : List (Addr × Obj)} {σ : L2.St} {H : Hp} {s : Shared}
theorem tup_new (I : Inv X pins σ H s) {xs : List V} {its : List Value} (r : Vals xs its) (hz : xs.length ≤ sizeLine) (t : Nat) :
    ∃ o : Obj, o.dict = none ∧ Inv X pins σ (upd H s.heap.objs.size (.frz o (.tup xs))) { s with heap := s.heap.push { cls := .type "tuple", data := .seq its.toArray }, toks := t } :=
  ⟨{ cls := .type "tuple", data := .seq its.toArray }, rfl, I.laid (fun _ _ q => Heap.get?_push_of_some _ q) (Nat.le_refl _) ⟨Heap.get?_push_size _ rfl, hz, its, r, IsTup.new _ _⟩⟩
/-- a new tuple: what is wanted of it -/
abbrev NewT (H : Hp) (xs : List V) (Q : VK) : Prop := ∀ p (o : Obj), H p = none → o.dict = none → Q (.ref p) (upd H p (.frz o (.tup xs)))
theorem tup_end (I : Inv X pins σ H s) {xs : List V} {its : List Value} {Q : VK} (r : Vals xs its) (hz : xs.length ≤ sizeLine) (h : NewT H xs Q) : EP X pins σ Q (.ref s.heap.objs.size) { s with heap := s.heap.push { cls := .type "tuple", data := .seq its.toArray } } := by
  obtain ⟨o, d, J⟩ := tup_new I r hz s.toks
  exact ⟨.ref s.heap.objs.size, _, J, rfl, h _ o (I.hok.fresh (Nat.le_refl _)) d⟩
theorem xe_tup {es : List Expr} {k : Nat} {pos : Pos} {t : TA} (h : PA X es t) : PE X (.Tuple es k pos) (fun σ H Q => t σ H fun xs H1 => xs.length ≤ sizeLine ∧ NewT H1 xs Q) := by
  refine ⟨fun pins s σ H Q I hq => ?_⟩
  refine wpAny_Tuple_spliced (thn (h.run pos pins s σ H _ I hq) fun us s1 ⟨xs, H1, I1, r, z, q⟩ => ?_)
  exact ⟨by rw [← r.length]; exact z, tup_end I1 r z q⟩
def rCatF (K : PySem.W.Frag) : R2 := fun x y H Q => ∃ a b xs ys, x = .ref a ∧ y = .ref b ∧ SqT K H a xs ∧ SqT K H b ys ∧ xs.length + ys.length ≤ sizeLine ∧ (xs = [] → Q (.ref b) H) ∧ (xs ≠ [] → ys = [] → Q (.ref a) H) ∧ NewT H (xs ++ ys) Q
theorem op_catF : OpR X (binaryOp .Add) (rCatF X.K) := by
  intro pins s σ H x y v u Q I rx ry ⟨a, b, xs, ys, ex, ey, ha, hb, hz, q0, q1, q2⟩
  subst ex ey
  cases rx
  cases ry
  obtain ⟨its, r1, p1, _⟩ := I.tuple ha
  obtain ⟨jts, r2, p2, _⟩ := I.tuple hb
  by_cases hx : xs = []
  · subst hx
    cases r1
    exact cat_tup0 p1 p2 ⟨.ref b, H, I, rfl, q0 rfl⟩
  · refine HT.cat_tup p1 p2 (fun z => hx (r1.nil_iff.mp z)) (fun z => ⟨.ref a, H, I, rfl, q1 hx (r2.nil_iff.mp z)⟩) (fun z => ?_) (by rw [← r1.length, ← r2.length]; exact hz)
    exact tup_end I (r1.append r2) (by rw [List.length_append]; exact hz) q2
def rSlF (K : PySem.W.Frag) : V → Option Int → Option Int → Hp → VK → Prop := fun x lo hi H Q => ∃ a xs, x = .ref a ∧ SqT K H a xs ∧
  (HT.sIx xs.length 0 lo = 0 ∧ HT.sIx xs.length xs.length hi = xs.length → Q (.ref a) H) ∧ NewT H (cutV xs lo hi) Q
theorem sl_tupF : SlR X (rSlF X.K) := by
  intro pins s σ H x v vl vu lo hi sl Q I rx hs pl pu ⟨a, xs, ex, hx, q1, q2⟩
  subst ex
  cases rx
  obtain ⟨its, r, ht, hz⟩ := I.tuple hx
  have hlen : its.toArray.size = xs.length := by rw [List.size_toArray, r.length]
  refine ⟨"tuple", _, PyProof.Rows.slot_tuple_getitem.lookup, ht.typeIs, ?_⟩
  by_cases hw : HT.sIx xs.length 0 lo = 0 ∧ HT.sIx xs.length xs.length hi = xs.length
  · exact getItem_tuple_whole ht hs pl pu (by rw [hlen]; exact hw) ⟨.ref a, H, I, rfl, q1 hw⟩
  · refine HT.getItem_tuple_cut ht hs pl pu (by rw [hlen]; exact hw) ?_ (by rw [hlen]; exact hz)
    rw [hlen]
    exact tup_end I ((r.drop _).take _) (Nat.le_trans (cutV_length xs lo hi) hz) q2
def rRepF (K : PySem.W.Frag) : R2 := fun x y H Q => ∃ l k xs, x = .ref l ∧ y = .int k ∧ SqT K H l xs ∧ xs ≠ [] ∧ 2 ≤ k ∧ k ≤ 1000 ∧ xs.length ≤ 1000 ∧ NewT H (List.replicate k.toNat xs).flatten Q
theorem op_repF : OpR X (binaryOp .Mult) (rRepF X.K) := by
  intro pins s σ H x y v u Q I rx ry ⟨l, k, xs, ex, ey, hT, hne, h1, h2, hz, q⟩
  subst ex ey
  cases rx
  obtain ⟨t, rfl⟩ := ry
  obtain ⟨its, r, ⟨⟨cls, dd, data, sl⟩, ho, hc, n, hd⟩, hs⟩ := I.tuple hT
  have hc' : cls = .type "tuple" := hc
  have hd' : data = .seq its.toArray n := hd
  subst hc' hd'
  have hle : its.length = xs.length := r.length.symm
  have hpos : 0 < xs.length := List.length_pos_iff.mpr hne
  have hi : its.toArray.isEmpty = false := by
    cases its with
    | nil => rw [← hle] at hpos; cases hpos
    | cons a b => rfl
  have big : k.toNat * xs.length ≤ 1000 * 1000 := Nat.mul_le_mul (by omega) hz
  have hprod : ((its.toArray.size : Nat) : Int) * k ≤ 1000000 := by
    rw [List.size_toArray, hle]
    have := Int.mul_le_mul_of_nonneg_right (c := k) (show ((xs.length : Nat) : Int) ≤ 1000 by omega) (by omega)
    omega
  have flen : (List.replicate k.toNat its).flatten.length ≤ sizeLine := by
    rw [PyProof.Rows.lm_len_rep_flat, hle, sizeLine_eq]
    omega
  have c0 : (decide (k < -(2 ^ 63)) || decide (k ≥ 2 ^ 63)) = false := by simp only [Bool.or_eq_false_iff, decide_eq_false_iff_not]; omega
  have c1 : (its.toArray.isEmpty || k == 1) = false := by rw [hi]; simp; omega
  have c2 : (decide (k ≤ 0) || its.toArray.isEmpty) = false := by rw [hi]; simp; omega
  have c4 : Builtin.Tuple.tupleTooMany (((its.toArray.size : Nat) : Int) * k) = false := by
    unfold Builtin.Tuple.tupleTooMany
    exact decide_eq_false (by rw [sizeLine_eq]; omega)
  refine wpAny_binaryOp_repeat_ref (T := "tuple") (U := "int") (by decide) ⟨_, ho, rfl⟩ (fun s' => typeIs_int s' k t) noFill_tuple_mul PySem.F.fills_int_mul PySem.F.slot_int_rmul repeat_tuple PySem.F.slot_int_index.lookup ?_
  refine call_meets PySem.F.slot_int_rmul (typeIs_int s k t) PySem.F.entry_int_rmul (PySem.F.args_int_rmul_2 _ _) (int_rmul_tuple k t l its.toArray n dd sl) ⟨ho, rfl, ⟨_, ho, rfl⟩, ?_⟩
  refine call_meets PySem.F.slot_tuple_mul ⟨_, ho, rfl⟩ PySem.F.entry_tuple_mul (PySem.F.args_tuple_mul_2 _ _) (tuple_mulW l its.toArray n dd sl k t c0 c1 c2 (by omega) c4 (by rw [size_rep, List.size_toArray]; exact flen)) ⟨ho, ?_⟩
  rw [size_rep]
  exact tup_end I (r.rep k.toNat) (by rw [PyProof.Rows.lm_len_rep_flat, sizeLine_eq]; omega) q
def rTupleF (K : PySem.W.Frag) : List V → Hp → VK → Prop := fun xs H Q => ∃ p ys, xs = [.ref p] ∧ ((SqL K H p ys ∧ NewT H ys Q) ∨ (SqT K H p ys ∧ Q (.ref p) H))
theorem call_tupleF : CallR X (.type "tuple") (rTupleF X.K) := by
  intro pins s σ H xs us Q I r ⟨p, ys, ex, h⟩
  subst ex
  obtain ⟨u, rfl, rx⟩ := vals1 r
  cases rx
  rcases h with ⟨hq, q⟩ | ⟨hq, q⟩
  · obtain ⟨its, r', pl, hz⟩ := I.list hq
    have hlen := r'.length
    refine call_tuple_list pl.isList (fun h' kp => ?_) (by simp only [List.size_toArray]; omega)
    exact tup_end (I.kept (t' := s.toks) kp) r' hz q
  · obtain ⟨its, r', pl, hz⟩ := I.tuple hq
    exact call_tuple_same pl ⟨.ref p, H, I, rfl, q⟩
end
/-- a two-place operation on deep values -/
def OpD (X : Cx) (W : Wd) (g : Value → Value → Sem Value) (f : D → D → Sto → Res D) : Prop :=
  ∃ r : R2, OpR X g r ∧ ∀ {m : List Addr} {cs : List Nat} {st : Sto} {H : Hp} {x y : D} {v u : V} {F1 F2 : List Addr} {Q : VK} {E : XK},
    Sat W m cs st H → RepV W m H x v F1 → RepV W m H y u F2 → Pend m H (F1 ++ F2) → RP (VP W cs Q) cs E m H (F1 ++ F2) (f x y st) → r v u H Q
section
variable {W : Wd} {B : WX} {X : Cx} {pos : Pos} {a b c : Expr} {ra rb rc : Slots → Sto → Res D}
/-! ### the rules -/
theorem two {σ : L2.St} {H : Hp} {Q : VK} {r : R2} {f : D → D → Sto → Res D} (q : tD W B (fun s st => (ra s st).bind fun x st => (rb s st).bind fun y st => f x y st) σ H Q)
    (h : ∀ {m : List Addr} {cs : List Nat} {st : Sto} {H : Hp} {x y : D} {v u : V} {F1 F2 : List Addr} {Q : VK} {E : XK},
      Sat W m cs st H → RepV W m H x v F1 → RepV W m H y u F2 → Pend m H (F1 ++ F2) → RP (VP W cs Q) cs E m H (F1 ++ F2) (f x y st) → r v u H Q) :
    tD W B ra σ H fun x H1 => tD W B rb σ H1 fun y H2 => r x y H2 Q := by
  obtain ⟨s, st, m, cs, RS, S, q⟩ := q
  refine stepD S RS .nil q fun d st1 v H1 m1 F1 g1 S1 RS1 R1 P1 q1 => ?_
  refine stepD S1 RS1 P1 q1 fun e st2 u H2 m2 F2 g2 S2 RS2 R2 P2 q2 => ?_
  exact h S2 (R1.grow S1.mut g2 fun a ha => (P1.out a (by simpa using ha)).1) R2 (by simpa using P2) (by simpa using q2)
theorem xd_bin {op : Operator} {f : D → D → Sto → Res D} (ho : OpD X W (binaryOp op) f) (ha : PE X a (tD W B ra)) (hb : PE X b (tD W B rb)) :
    PE X (.BinOp a op b pos) (tD W B fun s st => (ra s st).bind fun x st => (rb s st).bind fun y st => f x y st) := by
  obtain ⟨r, h1, h2⟩ := ho
  exact peD (pe_op h1 ha hb) fun σ H Q q => two q h2
theorem xd_cmp {op : CmpOp} {f : D → D → Sto → Res D} (ho : OpD X W (compareOp op) f) (ha : PE X a (tD W B ra)) (hb : PE X b (tD W B rb)) (hm : behindInMarks op b = false) :
    PE X (.Compare a [op] [b] pos) (tD W B fun s st => (ra s st).bind fun x st => (rb s st).bind fun y st => f x y st) := by
  obtain ⟨r, h1, h2⟩ := ho
  exact peD (pe_cmpR h1 ha hb hm) fun σ H Q q => two q h2
/-- a value that is a truth value, as a test -/
theorem toTest {σ : L2.St} {H : Hp} {Q : Bool → Hp → Prop} {r : Slots → Sto → Res D} (q : tDt W B (fun s st => (r s st).bind asB) σ H Q) :
    tD W B r σ H fun x H1 => ∃ k, x = .bl k ∧ Q k H1 := by
  obtain ⟨s, st, m, cs, RS, S, q⟩ := q
  refine stepD S RS .nil q fun d st1 v H1 m1 F1 g1 S1 RS1 R1 P1 q1 => ?_
  cases d with
  | bl k =>
    obtain ⟨rfl, _⟩ := R1
    exact ⟨k, rfl, q1 H1 m1 .refl S1⟩
  | _ => exact False.elim q1
theorem xt_cmp {op : CmpOp} {f : D → D → Sto → Res D} (ho : OpD X W (compareOp op) f) (ha : PE X a (tD W B ra)) (hb : PE X b (tD W B rb)) (hm : behindInMarks op b = false) :
    PT X (.Compare a [op] [b] pos) (tDt W B fun s st => ((ra s st).bind fun x st => (rb s st).bind fun y st => f x y st).bind asB) := by
  obtain ⟨r, h1, h2⟩ := ho
  refine ptD (pt_cmpR h1 ha hb hm) fun σ H Q q => ?_
  exact two (toTest (r := fun s st => (ra s st).bind fun x st => (rb s st).bind fun y st => f x y st) q) h2
theorem xt_val {e : Expr} {r : Slots → Sto → Res D} (h : PE X e (tD W B r)) (he : ∀ whole, isTrue e X.env whole = (do let v ← whole; standAt e.pos; holding [v] (truthy v))) : PT X e (tDt W B fun s st => (r s st).bind asB) := by
  refine ptD (pt_val h he) fun σ H Q q => ?_
  exact toTest q
theorem bind_ok {α β : Type} {r : α} {st : Sto} {f : α → Sto → Res β} : (Res.ok r st).bind f = f r st := rfl
theorem bind_assoc {α β γ : Type} {r : Res α} {f : α → Sto → Res β} {g : β → Sto → Res γ} : (r.bind f).bind g = r.bind fun x st => (f x st).bind g := by
  cases r <;> rfl
/-- a value's computation, then the rest -/
theorem stepO {β : Type} {Z : Post W β} {m : List Addr} {cs : List Nat} {H : Hp} {G : List Addr} {E : XK} {r : Res D} {f : D → Sto → Res β} {Q' : VK} (PG : Pend m H G) (h : RP Z cs E m H G (r.bind f))
    (k : ∀ d st1 v H1 m1 F1, Grow m H m1 H1 → Sat W m1 cs st1 H1 → RepV W m1 H1 d v F1 → Pend m1 H1 G → RP Z cs E m1 H1 G (f d st1) → Q' v H1) : RP (VP W cs Q') cs E m H G r := by
  cases r with
  | ok d st1 =>
    intro v H1 m1 F1 g1 S1 R1 T1
    have h1 := RP.mono (F := []) S1.mut g1 (fun a ha => nomatch ha) h
    rw [List.append_nil] at h1
    exact k d st1 v H1 m1 F1 g1 S1 R1 (PG.grow g1) h1
  | exc c st1 => exact h
  | bad => exact h
theorem asB_ok {β : Type} {Z : Post W β} {m : List Addr} {cs : List Nat} {st : Sto} {H : Hp} {G F : List Addr} {E : XK} {d : D} {v : V} {f : Bool → Sto → Res β} (R : RepV W m H d v F) (h : RP Z cs E m H G ((asB d st).bind f)) : ∃ k, d = .bl k ∧ v = .bl k ∧ RP Z cs E m H G (f k st) := by
  cases d with
  | bl k => exact ⟨k, rfl, R.1, h⟩
  | _ => exact False.elim h
/-- chains -/
theorem chain_rd {f g : D → D → Sto → Res D} {r r' : R2}
    (h2 : ∀ {m : List Addr} {cs : List Nat} {st : Sto} {H : Hp} {x y : D} {v u : V} {F1 F2 : List Addr} {Q : VK} {E : XK}, Sat W m cs st H → RepV W m H x v F1 → RepV W m H y u F2 → Pend m H (F1 ++ F2) → RP (VP W cs Q) cs E m H (F1 ++ F2) (f x y st) → r v u H Q)
    (h2' : ∀ {m : List Addr} {cs : List Nat} {st : Sto} {H : Hp} {x y : D} {v u : V} {F1 F2 : List Addr} {Q : VK} {E : XK}, Sat W m cs st H → RepV W m H x v F1 → RepV W m H y u F2 → Pend m H (F1 ++ F2) → RP (VP W cs Q) cs E m H (F1 ++ F2) (g x y st) → r' v u H Q)
    {σ : L2.St} {H : Hp} {Q : VK} (q : tD W B (fun s st => (ra s st).bind fun x st => (rb s st).bind fun y st => (f x y st).bind fun k st => (asB k st).bind fun k st =>
      if k then (rc s st).bind fun z st => g y z st else .ok (.bl false) st) σ H Q) : tChain r r' (tD W B ra) (tD W B rb) (tD W B rc) σ H Q := by
  obtain ⟨s, st, m, cs, RS, S, q⟩ := q
  refine stepD S RS .nil q fun d st1 v H1 m1 F1 g1 S1 RS1 R1 P1 q1 => ?_
  refine stepD S1 RS1 P1 q1 fun e st2 u H2 m2 F2 g2 S2 RS2 R2 P2 q2 => ?_
  refine h2 S2 (R1.grow S1.mut g2 fun a ha => (P1.out a (by simpa using ha)).1) R2 (by simpa using P2) (E := EB B σ) (stepO (by simpa using P2) (by simpa using q2) fun d3 st3 v3 H3 m3 F3 g3 S3 R3 P3 q3 => ?_)
  obtain ⟨k, rfl, rfl, q3⟩ := asB_ok R3 q3
  refine ⟨k, rfl, ?_⟩
  cases k with
  | false =>
    rw [if_neg Bool.false_ne_true]
    rw [if_neg Bool.false_ne_true] at q3
    exact q3 _ H3 m3 [] .refl S3 ⟨rfl, rfl⟩ ⟨List.nodup_nil, fun _ h => nomatch h⟩
  | true =>
    rw [if_pos rfl]
    rw [if_pos rfl] at q3
    refine stepD S3 (RS2.grow S2.mut g3) P3 q3 fun d4 st4 v4 H4 m4 F4 g4 S4 RS4 R4 P4 q4 => ?_
    have out2 : ∀ a ∈ F2, a ∉ m2 := fun a ha => (P2.out a (by simp [ha])).1
    have R2' := (R2.grow S2.mut g3 out2).grow S3.mut g4 fun a ha => (P3.out a (by simp [ha])).1
    have sub : (F2 ++ F4).Sublist ((F1 ++ F2) ++ F4) := List.Sublist.append (List.sublist_append_right _ _) (List.Sublist.refl _)
    refine h2' S4 R2' R4 (E := EB B σ) ⟨P4.nd.sublist sub, fun a ha => P4.out a (sub.subset ha)⟩ ?_
    cases e4 : g e d4 st4 with
    | ok d5 st5 =>
      rw [e4] at q4
      exact fun v H' m' F g' S' R' T' => q4 v H' m' F g' S' R' ⟨T'.nd, fun a ha => ⟨(T'.out a ha).1, (T'.out a ha).2.imp (fun z => sub.subset z) id⟩⟩
    | exc c st5 => rw [e4] at q4; exact q4
    | bad => rw [e4] at q4; exact q4
theorem xd_chain {op op' : CmpOp} {f g : D → D → Sto → Res D} (ho : OpD X W (compareOp op) f) (ho' : OpD X W (compareOp op') g) (ha : PE X a (tD W B ra)) (hb : PE X b (tD W B rb)) (hc : PE X c (tD W B rc)) (hm : lastMarks [op, op'] [b, c] = false) :
    PE X (.Compare a [op, op'] [b, c] pos) (tD W B fun s st => (ra s st).bind fun x st => (rb s st).bind fun y st => (f x y st).bind fun k st => (asB k st).bind fun k st =>
      if k then (rc s st).bind fun z st => g y z st else .ok (.bl false) st) := by
  obtain ⟨r, h1, h2⟩ := ho
  obtain ⟨r', h1', h2'⟩ := ho'
  exact peD (pe_chain h1 h1' ha hb hc hm) fun σ H Q q => chain_rd h2 h2' q
theorem xt_chain {op op' : CmpOp} {f g : D → D → Sto → Res D} (ho : OpD X W (compareOp op) f) (ho' : OpD X W (compareOp op') g) (ha : PE X a (tD W B ra)) (hb : PE X b (tD W B rb)) (hc : PE X c (tD W B rc)) (hm : lastMarks [op, op'] [b, c] = false) :
    PT X (.Compare a [op, op'] [b, c] pos) (tDt W B fun s st => ((fun s st => (ra s st).bind fun x st => (rb s st).bind fun y st => (f x y st).bind fun k st => (asB k st).bind fun k st =>
      if k then (rc s st).bind fun z st => g y z st else .ok (.bl false) st) s st).bind asB) := by
  obtain ⟨r, h1, h2⟩ := ho
  obtain ⟨r', h1', h2'⟩ := ho'
  exact ptD (pt_chain h1 h1' ha hb hc hm) fun σ H Q q => chain_rd h2 h2' (toTest q)
/-! ### and, or, not, if -/
theorem xd_not (ha : PE X a (tD W B ra)) : PE X (.UnaryOp .Not a pos) (tD W B fun s st => (ra s st).bind fun x st => (asB x st).bind fun b st => .ok (.bl (!b)) st) := by
  refine peD (pe_not ha) fun σ H Q ⟨s, st, m, cs, RS, S, q⟩ => ?_
  refine stepD S RS .nil q fun d st1 v H1 m1 F1 g1 S1 RS1 R1 P1 q1 => ?_
  obtain ⟨k, rfl, rfl, q1⟩ := asB_ok R1 q1
  exact ⟨k, rfl, q1 _ H1 m1 [] .refl S1 ⟨rfl, rfl⟩ ⟨List.nodup_nil, fun _ h => nomatch h⟩⟩
theorem xt_not {ta : Slots → Sto → Res Bool} (ha : PT X a (tDt W B ta)) : PT X (.UnaryOp .Not a pos) (tDt W B fun s st => (ta s st).bind fun b st => .ok (!b) st) := by
  refine ptD (pt_not ha) fun σ H Q ⟨s, st, m, cs, RS, S, q⟩ => ?_
  refine stepDt S RS .nil q fun d st1 H1 m1 g1 S1 RS1 P1 q1 => ?_
  exact q1 H1 m1 .refl S1
theorem xd_and {e : Expr} {rest : List Expr} (ha : PE X a (tD W B ra)) (hb : PE X (.BoolOp .And (e :: rest) pos) (tD W B rb)) : PE X (.BoolOp .And (a :: e :: rest) pos) (tD W B fun s st =>
    (ra s st).bind fun x st => (asB x st).bind fun k st => if k then (rb s st).bind fun y st => (asB y st).bind fun k st => .ok (.bl k) st else .ok (.bl false) st) := by
  refine peD (pe_and ha hb) fun σ H Q ⟨s, st, m, cs, RS, S, q⟩ => ?_
  refine stepD S RS .nil q fun d st1 v H1 m1 F1 g1 S1 RS1 R1 P1 q1 => ?_
  obtain ⟨k, rfl, rfl, q1⟩ := asB_ok R1 q1
  refine ⟨k, rfl, ?_⟩
  cases k with
  | false =>
    rw [if_neg Bool.false_ne_true]
    rw [if_neg Bool.false_ne_true] at q1
    exact q1 _ H1 m1 [] .refl S1 ⟨rfl, rfl⟩ ⟨List.nodup_nil, fun _ h => nomatch h⟩
  | true =>
    rw [if_pos rfl]
    rw [if_pos rfl] at q1
    refine stepD S1 RS1 P1 q1 fun e2 st2 u H2 m2 F2 g2 S2 RS2 R2 P2 q2 => ?_
    obtain ⟨k, rfl, rfl, q2⟩ := asB_ok R2 q2
    exact q2 _ H2 m2 [] .refl S2 ⟨rfl, rfl⟩ ⟨List.nodup_nil, fun _ h => nomatch h⟩
theorem xd_or {e : Expr} {rest : List Expr} (ha : PE X a (tD W B ra)) (hb : PE X (.BoolOp .Or (e :: rest) pos) (tD W B rb)) : PE X (.BoolOp .Or (a :: e :: rest) pos) (tD W B fun s st =>
    (ra s st).bind fun x st => (asB x st).bind fun k st => if k then .ok (.bl true) st else (rb s st).bind fun y st => (asB y st).bind fun k st => .ok (.bl k) st) := by
  refine peD (pe_or ha hb) fun σ H Q ⟨s, st, m, cs, RS, S, q⟩ => ?_
  refine stepD S RS .nil q fun d st1 v H1 m1 F1 g1 S1 RS1 R1 P1 q1 => ?_
  obtain ⟨k, rfl, rfl, q1⟩ := asB_ok R1 q1
  refine ⟨k, rfl, ?_⟩
  cases k with
  | true =>
    rw [if_pos rfl]
    rw [if_pos rfl] at q1
    exact q1 _ H1 m1 [] .refl S1 ⟨rfl, rfl⟩ ⟨List.nodup_nil, fun _ h => nomatch h⟩
  | false =>
    rw [if_neg Bool.false_ne_true]
    rw [if_neg Bool.false_ne_true] at q1
    refine stepD S1 RS1 P1 q1 fun e2 st2 u H2 m2 F2 g2 S2 RS2 R2 P2 q2 => ?_
    obtain ⟨k, rfl, rfl, q2⟩ := asB_ok R2 q2
    exact q2 _ H2 m2 [] .refl S2 ⟨rfl, rfl⟩ ⟨List.nodup_nil, fun _ h => nomatch h⟩
/-- a truth value as a test, the one as the other -/
theorem pwD {e : Expr} {t t' : TT} (h : PW X e t) (k : ∀ σ H Q, t' σ H Q → t σ H Q) : PW X e t' := ⟨fun w pins s σ H Q I q => h.run w pins s σ H Q I (k σ H Q q)⟩
theorem xw_one {op : BoolOp} {ta : Slots → Sto → Res Bool} (ha : PT X a (tDt W B ta)) : PW X (.BoolOp op [a] pos) (tDt W B ta) := by
  cases op with
  | And => exact pw_and1 ha
  | Or => exact pw_or1 ha
theorem xw_and {e : Expr} {rest : List Expr} {ta tb : Slots → Sto → Res Bool} (ha : PT X a (tDt W B ta)) (hb : PW X (.BoolOp .And (e :: rest) pos) (tDt W B tb)) : PW X (.BoolOp .And (a :: e :: rest) pos) (tDt W B fun s st =>
    (ta s st).bind fun k st => if k then tb s st else .ok false st) := by
  refine pwD (pw_and ha hb) fun σ H Q ⟨s, st, m, cs, RS, S, q⟩ => ?_
  refine stepDt S RS .nil q fun d st1 H1 m1 g1 S1 RS1 P1 q1 => ?_
  cases d with
  | false =>
    rw [if_neg Bool.false_ne_true]
    rw [if_neg Bool.false_ne_true] at q1
    exact q1 H1 m1 .refl S1
  | true =>
    rw [if_pos rfl]
    rw [if_pos rfl] at q1
    exact ⟨s, st1, m1, cs, RS1, S1, q1⟩
theorem xw_or {e : Expr} {rest : List Expr} {ta tb : Slots → Sto → Res Bool} (ha : PT X a (tDt W B ta)) (hb : PW X (.BoolOp .Or (e :: rest) pos) (tDt W B tb)) : PW X (.BoolOp .Or (a :: e :: rest) pos) (tDt W B fun s st =>
    (ta s st).bind fun k st => if k then .ok true st else tb s st) := by
  refine pwD (pw_or ha hb) fun σ H Q ⟨s, st, m, cs, RS, S, q⟩ => ?_
  refine stepDt S RS .nil q fun d st1 H1 m1 g1 S1 RS1 P1 q1 => ?_
  cases d with
  | true =>
    rw [if_pos rfl]
    rw [if_pos rfl] at q1
    exact q1 H1 m1 .refl S1
  | false =>
    rw [if_neg Bool.false_ne_true]
    rw [if_neg Bool.false_ne_true] at q1
    exact ⟨s, st1, m1, cs, RS1, S1, q1⟩
theorem xd_ife {tc : Slots → Sto → Res Bool} (hc : PT X c (tDt W B tc)) (ha : PE X a (tD W B ra)) (hb : PE X b (tD W B rb)) : PE X (.IfExp c a b pos) (tD W B fun s st => (tc s st).bind fun k st => if k then ra s st else rb s st) := by
  refine peD (pe_ifExp hc ha hb) fun σ H Q ⟨s, st, m, cs, RS, S, q⟩ => ?_
  refine stepDt S RS .nil q fun d st1 H1 m1 g1 S1 RS1 P1 q1 => ?_
  cases d with
  | true =>
    rw [if_pos rfl]
    rw [if_pos rfl] at q1
    exact ⟨s, st1, m1, cs, RS1, S1, q1⟩
  | false =>
    rw [if_neg Bool.false_ne_true]
    rw [if_neg Bool.false_ne_true] at q1
    exact ⟨s, st1, m1, cs, RS1, S1, q1⟩
theorem xd_neg (ha : PE X a (tD W B ra)) : PE X (.UnaryOp .USub a pos) (tD W B fun s st => (ra s st).bind fun x st => match x with
    | .int i => .ok (.int (-i)) st
    | _ => .bad) := by
  refine peD (pe_un un_neg ha) fun σ H Q ⟨s, st, m, cs, RS, S, q⟩ => ?_
  refine stepD S RS .nil q fun d st1 v H1 m1 F1 g1 S1 RS1 R1 P1 q1 => ?_
  cases d with
  | int i =>
    obtain ⟨rfl, _⟩ := R1
    exact ⟨i, rfl, q1 _ H1 m1 [] .refl S1 ⟨rfl, rfl⟩ ⟨List.nodup_nil, fun _ h => nomatch h⟩⟩
  | _ => exact False.elim q1
end
/-! ### ints, texts -/
section
variable {W : Wd} {X : Cx}
theorem own_rep {m : List Addr} {cs : List Nat} {st : Sto} {H : Hp} {d : D} {v : V} {F : List Addr} {xs : List D} (S : Sat W m cs st H) (R : RepV W m H d v F) (h : st.own d = some xs) :
    ∃ a vs G, v = .ref a ∧ H a = some (.lst vs) ∧ RepVs W m H xs vs G ∧ G.Sublist F := by
  cases d with
  | tl ys =>
    cases h
    obtain ⟨a, vs, G, e, eF, s, r⟩ := R
    exact ⟨a, vs, G, e, s, r, by rw [eF]; exact List.sublist_append_left _ _⟩
  | loc l =>
    obtain ⟨a, e, s, eF⟩ := R
    unfold Sto.own at h
    dsimp only at h
    split at h
    · rename_i ys q
      cases h
      obtain ⟨vs, h1, r⟩ := S.obj l a _ s q
      exact ⟨a, vs, [], e, h1, r, List.nil_sublist _⟩
    · cases h
  | _ => cases h
theorem seq_rep {m : List Addr} {cs : List Nat} {st : Sto} {H : Hp} {d : D} {v : V} {F : List Addr} {xs : List D} (S : Sat W m cs st H) (R : RepV W m H d v F) (h : st.seq d = some xs) :
    ∃ a vs G, v = .ref a ∧ RepVs W m H xs vs G ∧ G.Sublist F ∧ ((d.isTup = true ∧ SqT W.K H a vs) ∨ (d.isTup = false ∧ SqL W.K H a vs)) := by
  cases d with
  | tup ys =>
    cases h
    obtain ⟨a, vs, e, s, r⟩ := R
    exact ⟨a, vs, F, e, r, List.Sublist.refl _, .inl ⟨rfl, s.sq⟩⟩
  | fro ys =>
    cases h
    obtain ⟨a, vs, e, eF, s, r⟩ := R
    exact ⟨a, vs, [], e, r, List.nil_sublist _, .inr ⟨rfl, s.seq⟩⟩
  | tl ys =>
    obtain ⟨a, vs, G, e, s, r, sub⟩ := own_rep S R (show st.own (.tl ys) = some xs from h)
    exact ⟨a, vs, G, e, r, sub, .inr ⟨rfl, SqL.of s⟩⟩
  | loc l =>
    obtain ⟨a, vs, G, e, s, r, sub⟩ := own_rep S R (show st.own (.loc l) = some xs from h)
    exact ⟨a, vs, G, e, r, sub, .inr ⟨rfl, SqL.of s⟩⟩
  | _ => cases h
theorem list_rep {m : List Addr} {cs : List Nat} {st : Sto} {H : Hp} {d : D} {v : V} {F : List Addr} {xs : List D} (S : Sat W m cs st H) (R : RepV W m H d v F) (h : st.list d = some xs) :
    ∃ a vs G, v = .ref a ∧ RepVs W m H xs vs G ∧ G.Sublist F ∧ SqL W.K H a vs := by
  unfold Sto.list at h
  split at h
  · cases h
  · rename_i hn
    obtain ⟨a, vs, G, e, r, sub, q⟩ := seq_rep S R h
    rcases q with ⟨z, _⟩ | ⟨_, z⟩
    · exact absurd z hn
    · exact ⟨a, vs, G, e, r, sub, z⟩
/-- a new object that is none of the store's holds the value -/
theorem VP.fresh {m : List Addr} {cs : List Nat} {st : Sto} {H : Hp} {G F : List Addr} {Q : VK} {d : D} {p : Addr} {o : HO} (S : Sat W m cs st H) (hp : H p = none) (h : (VP W cs Q).ok m H G d st)
    (R : RepV W m (upd H p o) d (.ref p) F) (t : Tmp m H G F) : Q (.ref p) (upd H p o) := h _ _ m F (.new hp) (S.new hp) R t
theorem fresh_out {m : List Addr} {cs : List Nat} {st : Sto} {H : Hp} {p : Addr} (S : Sat W m cs st H) (hp : H p = none) : p ∉ m := fun z => by
  obtain ⟨o, e, _⟩ := S.mut p z
  rw [hp] at e; cases e
/-- a new list of what is given -/
theorem VP.list {m : List Addr} {cs : List Nat} {st : Sto} {H : Hp} {G F : List Addr} {Q : VK} {xs : List D} {vs : List V} {p : Addr} (S : Sat W m cs st H) (hp : H p = none) (R : RepVs W m H xs vs F) (P : Pend m H G) (sub : F.Sublist G)
    (h : (VP W cs Q).ok m H G (.tl xs) st) : Q (.ref p) (upd H p (.lst vs)) := by
  have out : ∀ a ∈ F, a ∉ m := fun a ha => (P.out a (sub.subset ha)).1
  refine VP.fresh S hp h (F := F ++ [p]) ⟨p, vs, F, rfl, rfl, upd_same, R.grow S.mut (.new hp) out⟩ ⟨?_, fun a ha => ?_⟩
  · refine List.nodup_append.mpr ⟨P.nd.sublist sub, List.nodup_cons.mpr ⟨by simp, List.nodup_nil⟩, fun a ha b hb e => ?_⟩
    rw [List.mem_singleton.mp hb] at e
    subst e
    obtain ⟨o, q⟩ := R.there a ha
    rw [hp] at q; cases q
  · rcases List.mem_append.mp ha with z | z
    · exact ⟨out a z, .inl (sub.subset z)⟩
    · rw [List.mem_singleton.mp z]
      exact ⟨fresh_out S hp, .inr hp⟩
/-- a new tuple of what is given -/
theorem VP.tuple {m : List Addr} {cs : List Nat} {st : Sto} {H : Hp} {G F : List Addr} {Q : VK} {xs : List D} {vs : List V} (S : Sat W m cs st H) (R : RepVs W m H xs vs F) (P : Pend m H G) (sub : F.Sublist G)
    (h : (VP W cs Q).ok m H G (.tup xs) st) : NewT H vs Q := by
  intro p o hp hd
  have out : ∀ a ∈ F, a ∉ m := fun a ha => (P.out a (sub.subset ha)).1
  exact VP.fresh S hp h (F := F) ⟨p, vs, rfl, .inl ⟨o, upd_same, hd⟩, R.grow S.mut (.new hp) out⟩ ⟨P.nd.sublist sub, fun a ha => ⟨out a ha, .inl (sub.subset ha)⟩⟩
/-- a plain value -/
theorem VP.flat {m : List Addr} {cs : List Nat} {st : Sto} {H : Hp} {G : List Addr} {Q : VK} {d : D} {v : V} (S : Sat W m cs st H) (R : RepV W m H d v []) (h : (VP W cs Q).ok m H G d st) : Q v H :=
  h v H m [] .refl S R ⟨List.nodup_nil, fun _ h => nomatch h⟩
theorem od_add (hX : Fits X W) : OpD X W (binaryOp .Add) opAdd := by
  refine ⟨_, (op_add.or (op_add_str.or (op_catF.or op_cat))), fun {m cs st H x y v u F1 F2 Q E} S R1 R2 P q => ?_⟩
  unfold opAdd at q
  split at q
  · obtain ⟨rfl, _⟩ := R1
    obtain ⟨rfl, _⟩ := R2
    exact .inl ⟨_, _, rfl, rfl, VP.flat (d := .int _) S ⟨rfl, rfl⟩ q⟩
  · obtain ⟨rfl, _⟩ := R1
    obtain ⟨rfl, _⟩ := R2
    split at q
    · rename_i hl
      exact .inr (.inl ⟨_, _, rfl, rfl, by rw [← line_eq]; exact hl, VP.flat (d := .str _) S ⟨rfl, rfl⟩ q⟩)
    · exact False.elim q
  · obtain ⟨a, vs, rfl, sa, ra⟩ := R1
    obtain ⟨b, ws, rfl, sb, rb⟩ := R2
    split at q
    · rename_i xs ys hl
      refine .inr (.inr (.inl ⟨a, b, vs, ws, rfl, rfl, by rw [hX.K]; exact sa.sq, by rw [hX.K]; exact sb.sq, by rw [← line_eq, ra.length, rb.length]; exact hl, fun e => ?_, fun _ e => ?_, ?_⟩))
      · subst e
        have e2 : xs = [] := by
          have := ra.length
          cases xs with
          | nil => rfl
          | cons _ _ => simp at this
        subst e2
        obtain ⟨_, rfl⟩ := ra
        exact VP.put S (d := .tup ys) (F := F2) ⟨b, ws, rfl, sb, rb⟩ P (by simp) q
      · subst e
        have e2 : ys = [] := by
          have := rb.length
          cases ys with
          | nil => rfl
          | cons _ _ => simp at this
        subst e2
        obtain ⟨_, rfl⟩ := rb
        exact VP.put S (d := .tup (xs ++ [])) (F := F1) ⟨a, vs, rfl, sa, by simpa using ra⟩ P (by simp) q
      · exact VP.tuple S (ra.append rb) P (List.Sublist.refl _) q
    · exact False.elim q
  · split at q
    · rename_i xs ys h1 h2
      split at q
      · rename_i hl
        obtain ⟨a, vs, G1, rfl, e1, r1, s1⟩ := own_rep S R1 h1
        obtain ⟨b, ws, G2, rfl, e2, r2, s2⟩ := own_rep S R2 h2
        refine .inr (.inr (.inr ⟨a, b, vs, ws, rfl, rfl, e1, e2, by rw [← line_eq, r1.length, r2.length]; exact hl, fun p hp => ?_⟩))
        exact VP.list S hp (r1.append r2) P (s1.append s2) q
      · exact False.elim q
    · exact False.elim q
theorem flatI {m : List Addr} {H : Hp} {x : D} {v : V} {F : List Addr} {i : Int} (h : RepV W m H (.int i) v F) : v = .int i := h.1
theorem od_sub : OpD X W (binaryOp .Sub) opSub := by
  refine ⟨_, op_sub, fun {m cs st H x y v u F1 F2 Q E} S R1 R2 P q => ?_⟩
  unfold opSub at q
  split at q
  · obtain ⟨rfl, _⟩ := R1
    obtain ⟨rfl, _⟩ := R2
    exact ⟨_, _, rfl, rfl, VP.flat (d := .int _) S ⟨rfl, rfl⟩ q⟩
  · exact False.elim q
theorem od_mod : OpD X W (binaryOp .Mod) opMod := by
  refine ⟨_, op_mod, fun {m cs st H x y v u F1 F2 Q E} S R1 R2 P q => ?_⟩
  unfold opMod at q
  split at q
  · obtain ⟨rfl, _⟩ := R1
    obtain ⟨rfl, _⟩ := R2
    split at q
    · rename_i h
      exact ⟨_, _, rfl, rfl, h, VP.flat (d := .int _) S ⟨rfl, rfl⟩ q⟩
    · exact False.elim q
  · exact False.elim q
theorem od_fdiv : OpD X W (binaryOp .FloorDiv) opFdiv := by
  refine ⟨_, op_fdivW, fun {m cs st H x y v u F1 F2 Q E} S R1 R2 P q => ?_⟩
  unfold opFdiv at q
  split at q
  · obtain ⟨rfl, _⟩ := R1
    obtain ⟨rfl, _⟩ := R2
    split at q
    · rename_i h
      exact ⟨_, _, rfl, rfl, wide_div (b := 64) h.1 (by omega) (by omega) (by omega), VP.flat (d := .int _) S ⟨rfl, rfl⟩ q⟩
    · exact False.elim q
  · exact False.elim q
theorem od_pow : OpD X W (binaryOp .Pow) opPow := by
  refine ⟨_, op_pow, fun {m cs st H x y v u F1 F2 Q E} S R1 R2 P q => ?_⟩
  unfold opPow at q
  split at q
  · obtain ⟨rfl, _⟩ := R1
    obtain ⟨rfl, _⟩ := R2
    split at q
    · rename_i h
      exact ⟨_, _, rfl, rfl, ⟨h.1, by omega, h.2.2⟩, VP.flat (d := .int _) S ⟨rfl, rfl⟩ q⟩
    · exact False.elim q
  · exact False.elim q
theorem mem_flat {m : List Addr} {H : Hp} : ∀ (k : Nat) {xs : List D} {vs : List V}, RepVs W m H xs vs [] → RepVs W m H (List.replicate k xs).flatten (List.replicate k vs).flatten []
  | 0, _, _, _ => ⟨rfl, rfl⟩
  | k + 1, xs, vs, h => by
    rw [List.replicate_succ, List.replicate_succ, List.flatten_cons, List.flatten_cons]
    exact h.append (mem_flat k h)
theorem od_mul (hX : Fits X W) : OpD X W (binaryOp .Mult) opMul := by
  refine ⟨_, (op_mul.or (op_repF.or op_rep)), fun {m cs st H x y v u F1 F2 Q E} S R1 R2 P q => ?_⟩
  unfold opMul at q
  split at q
  · obtain ⟨rfl, _⟩ := R1
    obtain ⟨rfl, _⟩ := R2
    split at q
    · rename_i h
      refine .inl ⟨_, _, rfl, rfl, ?_, VP.flat (d := .int _) S ⟨rfl, rfl⟩ q⟩
      unfold mulOk at h
      simp only [Bool.or_eq_true, Bool.and_eq_true, decide_eq_true_eq] at h
      exact h
    · exact False.elim q
  · obtain ⟨a, vs, rfl, sa, ra⟩ := R1
    obtain ⟨rfl, _⟩ := R2
    split at q
    · rename_i h
      simp only [Bool.and_eq_true, decide_eq_true_eq] at h
      obtain ⟨⟨⟨⟨h1, h2⟩, h3⟩, h4⟩, h5⟩ := h
      have hl := ra.length
      obtain rfl := ra.noT h5
      refine .inr (.inl ⟨a, _, vs, rfl, rfl, by rw [hX.K]; exact sa.sq, ?_, h1, h2, by omega, ?_⟩)
      · intro e
        rw [e] at hl
        simp at hl
        omega
      · exact VP.tuple S (mem_flat _ ra) P (List.nil_sublist _) q
    · exact False.elim q
  · obtain ⟨rfl, _⟩ := R2
    split at q
    · rename_i xs h0
      split at q
      · rename_i h
        simp only [Bool.and_eq_true, decide_eq_true_eq] at h
        obtain ⟨⟨⟨h1, h2⟩, h3⟩, h5⟩ := h
        obtain ⟨a, vs, G, rfl, e1, r1, s1⟩ := own_rep S R1 h0
        have hl := r1.length
        obtain rfl := r1.noT h5
        refine .inr (.inr ⟨a, _, vs, rfl, rfl, e1, by omega, by omega, by rw [← line_eq, hl]; exact h3, fun p hp => ?_⟩)
        exact VP.list S hp (mem_flat _ r1) P (List.nil_sublist _) q
      · exact False.elim q
    · exact False.elim q
  · exact False.elim q
/-! ### ==, != -/
theorem dpAll_of {m : List Addr} {cs : List Nat} {st : Sto} {H : Hp} {k : Nat} (ih : ∀ {d : D} {v : V} {F : List Addr} {p : PyData}, toP st.objs k d = some p → RepV W m H d v F → Dp W.K H v p ∧ p.canLay0 = true ∧ p.depth ≤ k) :
    ∀ {ds : List D} {vs : List V} {F : List Addr} {ps : List PyData}, mapO (toP st.objs k) ds = some ps → RepVs W m H ds vs F → DpAll W.K H vs ps ∧ PyData.canLayAll0 ps = true ∧ PyData.depthAll ps ≤ k
  | [], vs, F, ps, h, R => by
    cases h
    obtain ⟨rfl, _⟩ := R
    exact ⟨.nil, rfl, Nat.zero_le _⟩
  | x :: xs, vs, F, ps, h, R => by
    obtain ⟨v, ws, F1, F2, rfl, rfl, r, rs⟩ := R
    unfold mapO at h
    cases e : toP st.objs k x with
    | none => rw [e] at h; cases h
    | some p =>
      rw [e] at h
      dsimp only at h
      cases e2 : mapO (toP st.objs k) xs with
      | none => rw [e2] at h; cases h
      | some qs =>
        rw [e2] at h
        cases h
        obtain ⟨h1, h2, h3⟩ := ih e r
        obtain ⟨k1, k2, k3⟩ := dpAll_of (cs := cs) ih e2 rs
        refine ⟨.cons h1 k1, ?_, ?_⟩
        · simp [PyData.canLayAll0, h2, k2]
        · simp only [PyData.depthAll]
          omega
theorem dp_of {m : List Addr} {cs : List Nat} {st : Sto} {H : Hp} (S : Sat W m cs st H) : ∀ (k : Nat) {d : D} {v : V} {F : List Addr} {p : PyData}, toP st.objs k d = some p → RepV W m H d v F → Dp W.K H v p ∧ p.canLay0 = true ∧ p.depth ≤ k
  | 0, _, _, _, _, h, _ => by cases h
  | k + 1, d, v, F, p, h, R => by
    have all := fun {ds : List D} {vs : List V} {F : List Addr} {ps : List PyData} => dpAll_of (cs := cs) (st := st) (ds := ds) (vs := vs) (F := F) (ps := ps) (fun {d v F p} => dp_of S k (d := d) (v := v) (F := F) (p := p))
    cases d with
    | non => cases h; obtain ⟨rfl, _⟩ := R; exact ⟨.non, rfl, Nat.zero_le _⟩
    | bl b => cases h; obtain ⟨rfl, _⟩ := R; exact ⟨.bl b, rfl, Nat.zero_le _⟩
    | int i => cases h; obtain ⟨rfl, _⟩ := R; exact ⟨.int i, rfl, Nat.zero_le _⟩
    | str s =>
      unfold toP at h
      dsimp only at h
      split at h
      · rename_i hs
        cases h
        obtain ⟨rfl, _⟩ := R
        exact ⟨.str s, hs, Nat.zero_le _⟩
      · cases h
    | exn c => cases h
    | td ks vs => cases h
    | tup xs =>
      unfold toP at h
      dsimp only at h
      cases e : mapO (toP st.objs k) xs with
      | none => rw [e] at h; cases h
      | some ps =>
        rw [e] at h
        cases h
        obtain ⟨a, vs, rfl, s, r⟩ := R
        obtain ⟨h1, h2, h3⟩ := all e r
        exact ⟨.tup s.sq h1, by simpa [PyData.canLay0] using h2, by simp only [PyData.depth]; omega⟩
    | tl xs =>
      unfold toP at h
      dsimp only at h
      cases e : mapO (toP st.objs k) xs with
      | none => rw [e] at h; cases h
      | some ps =>
        rw [e] at h
        cases h
        obtain ⟨a, vs, G, rfl, _, s, r⟩ := R
        obtain ⟨h1, h2, h3⟩ := all e r
        exact ⟨.lst (SqL.of s) h1, by simpa [PyData.canLay0] using h2, by simp only [PyData.depth]; omega⟩
    | fro xs =>
      unfold toP at h
      dsimp only at h
      cases e : mapO (toP st.objs k) xs with
      | none => rw [e] at h; cases h
      | some ps =>
        rw [e] at h
        cases h
        obtain ⟨a, vs, rfl, _, s, r⟩ := R
        obtain ⟨h1, h2, h3⟩ := all e r
        exact ⟨.lst s.seq h1, by simpa [PyData.canLay0] using h2, by simp only [PyData.depth]; omega⟩
    | loc l =>
      unfold toP at h
      dsimp only at h
      cases e0 : st.objs[l]? with
      | none => rw [e0] at h; cases h
      | some o =>
        rw [e0] at h
        cases o with
        | lst xs =>
          dsimp only at h
          cases e : mapO (toP st.objs k) xs with
          | none => rw [e] at h; cases h
          | some ps =>
            rw [e] at h
            cases h
            obtain ⟨a, rfl, s, _⟩ := R
            obtain ⟨vs, e1, r⟩ := S.obj l a _ s e0
            obtain ⟨h1, h2, h3⟩ := all e r
            exact ⟨.lst (SqL.of e1) h1, by simpa [PyData.canLay0] using h2, by simp only [PyData.depth]; omega⟩
        | dic ks vs => cases h
        | ins c fs => cases h
theorem data_of {m : List Addr} {cs : List Nat} {st : Sto} {H : Hp} {d : D} {v : V} {F : List Addr} {p : PyData} (S : Sat W m cs st H) (h : st.data d = some p) (R : RepV W m H d v F) : Dp W.K H v p ∧ SeqAt.shaped p = true := by
  obtain ⟨h1, h2, h3⟩ := dp_of S _ h R
  refine ⟨h1, ?_⟩
  show (p.canLay0 && decide (p.depth ≤ 64)) = true
  rw [h2, decide_eq_true (by unfold tops at h3; omega)]
  rfl
theorem datas_of {m : List Addr} {cs : List Nat} {st : Sto} {H : Hp} {ds : List D} {vs : List V} {F : List Addr} {ps : List PyData} (S : Sat W m cs st H) (h : mapO st.data ds = some ps) (R : RepVs W m H ds vs F) : DpAll W.K H vs ps ∧ (∀ p ∈ ps, SeqAt.shaped p = true) ∧ PyData.canLayAll0 ps = true ∧ PyData.depthAll ps ≤ tops := by
  have k := dpAll_of (cs := cs) (st := st) (fun {d v F p} => dp_of S tops (d := d) (v := v) (F := F) (p := p)) h R
  refine ⟨k.1, ?_, k.2.1, k.2.2⟩
  have k2 := k.2.1
  have k3 := k.2.2
  clear h k R
  induction ps with
  | nil => intro p hp; cases hp
  | cons q qs ih =>
    simp only [PyData.canLayAll0, Bool.and_eq_true] at k2
    simp only [PyData.depthAll] at k3
    intro p hp
    rcases List.mem_cons.mp hp with rfl | hp
    · show (p.canLay0 && decide (p.depth ≤ 64)) = true
      rw [k2.1, decide_eq_true (by unfold tops at k3; omega)]
      rfl
    · exact ih k2.2 (by omega) p hp
theorem od_eq (hX : Fits X W) (hu : X.A.units + 65 < cLine) : OpD X W (compareOp .Eq) opEq := by
  refine ⟨_, op_eqD (by omega), fun {m cs st H x y v u F1 F2 Q E} S R1 R2 P q => ?_⟩
  unfold opEq eqD blO at q
  cases e1 : st.data x with
  | none => rw [e1] at q; exact False.elim q
  | some p =>
    cases e2 : st.data y with
    | none => rw [e1, e2] at q; exact False.elim q
    | some p2 =>
      rw [e1, e2] at q
      obtain ⟨a1, b1⟩ := data_of S e1 R1
      obtain ⟨a2, b2⟩ := data_of S e2 R2
      exact ⟨p, p2, by rw [hX.K]; exact a1, by rw [hX.K]; exact a2, b1, b2, VP.flat (d := .bl _) S ⟨rfl, rfl⟩ q⟩
theorem od_ne (hX : Fits X W) (hu : X.A.units + 65 < cLine) : OpD X W (compareOp .NotEq) opNe := by
  refine ⟨_, op_neD (by omega), fun {m cs st H x y v u F1 F2 Q E} S R1 R2 P q => ?_⟩
  unfold opNe eqD at q
  cases e1 : st.data x with
  | none => rw [e1] at q; exact False.elim q
  | some p =>
    cases e2 : st.data y with
    | none => rw [e1, e2] at q; exact False.elim q
    | some p2 =>
      rw [e1, e2] at q
      obtain ⟨a1, b1⟩ := data_of S e1 R1
      obtain ⟨a2, b2⟩ := data_of S e2 R2
      exact ⟨p, p2, by rw [hX.K]; exact a1, by rw [hX.K]; exact a2, b1, b2, VP.flat (d := .bl _) S ⟨rfl, rfl⟩ q⟩
theorem od_intC {op : CmpOp} {f : Int → Int → Bool} (h : OpR X (compareOp op) (rI0 fun i j => .bl (f i j))) : OpD X W (compareOp op) (intC f) := by
  refine ⟨_, h, fun {m cs st H x y v u F1 F2 Q E} S R1 R2 P q => ?_⟩
  unfold intC at q
  split at q
  · obtain ⟨rfl, _⟩ := R1
    obtain ⟨rfl, _⟩ := R2
    exact ⟨_, _, rfl, rfl, VP.flat (d := .bl _) S ⟨rfl, rfl⟩ q⟩
  · exact False.elim q
end
end DV
set_option Elab.async false
set_option linter.all false
set_option maxRecDepth 100000
set_option maxHeartbeats 4000000
/-! DD: dicts, in, places, slices. -/
namespace DV
open PySem PySem.Spec PyProof.Rows L2
/-! ### keys -/
theorem keyD_inj {a b : Key} (h : keyD a = keyD b) : a = b := by
  cases a <;> cases b <;> simp [keyD] at h <;> rw [h]
mutual
theorem nkD_inj : ∀ {a b : NestedKey}, nkD a = nkD b → a = b
  | .none, b, h => by cases b <;> simp [nkD] at h <;> rfl
  | .num i, b, h => by cases b <;> simp [nkD] at h <;> rw [h]
  | .text i, b, h => by cases b <;> simp [nkD] at h <;> rw [h]
  | .tup ks, b, h => by
    cases b <;> simp [nkD] at h
    rw [nkDs_inj h]
theorem nkDs_inj : ∀ {a b : List NestedKey}, nkDs a = nkDs b → a = b
  | [], b, h => by cases b <;> simp [nkDs] at h <;> rfl
  | k :: ks, b, h => by
    cases b <;> simp [nkDs] at h
    rw [nkD_inj h.1, nkDs_inj h.2]
end
mutual
theorem nk_of : ∀ {d : D}, d.nk = true → ∃ k, nkD k = d ∧ k.depth = d.dep
  | .non, _ => ⟨.none, rfl, rfl⟩
  | .int i, _ => ⟨.num i, rfl, rfl⟩
  | .str s, _ => ⟨.text s, rfl, rfl⟩
  | .tup xs, h => by
    obtain ⟨ks, e, l⟩ := nks_of (ds := xs) (by simpa [D.nk] using h)
    exact ⟨.tup ks, by simp [nkD, e], by simp [NestedKey.depth, D.dep, l]⟩
  | .bl _, h => by simp [D.nk] at h
  | .exn _, h => by simp [D.nk] at h
  | .tl _, h => by simp [D.nk] at h
  | .td _ _, h => by simp [D.nk] at h
  | .loc _, h => by simp [D.nk] at h
  | .fro _, h => by simp [D.nk] at h
theorem nks_of : ∀ {ds : List D}, D.nks ds = true → ∃ ks, nkDs ks = ds ∧ NestedKey.depthAll ks = D.deps ds
  | [], _ => ⟨[], rfl, rfl⟩
  | x :: xs, h => by
    simp only [D.nks, Bool.and_eq_true] at h
    obtain ⟨k, e, l⟩ := nk_of h.1
    obtain ⟨ks, e2, l2⟩ := nks_of h.2
    exact ⟨k :: ks, by simp [nkDs, e, e2], by simp [NestedKey.depthAll, D.deps, l, l2]⟩
end
theorem leaf_of {d : D} (h : d.leaf = true) : ∃ k, keyD k = d := by
  cases d <;> simp [D.leaf] at h
  · exact ⟨.inl _, rfl⟩
  · exact ⟨.inr _, rfl⟩
theorem keyD_leaf (k : Key) : (keyD k).leaf = true := by cases k <;> rfl
theorem keyD_notTup (k : Key) : (keyD k).isTup = false := by cases k <;> rfl
theorem kV_rep {W : Wd} {m : List Addr} {H : Hp} {k : Key} {v : V} {F : List Addr} (h : RepV W m H (keyD k) v F) : v = kV k := by
  cases k with
  | inl i => exact h.1
  | inr x => exact h.1
/-- where a key stands -/
theorem find_map {κ β : Type} [DecidableEq κ] (f : κ → D) (hf : ∀ a b, f a = f b → a = b) (k : κ) : ∀ l : List (κ × β),
    (l.find? fun x => decide (x.1 = k)).map (·.2) = ((l.map fun p => f p.1).findIdx? fun z => decide (z = f k)).bind fun j => (l.map (·.2))[j]?
  | [] => rfl
  | p :: l => by
    by_cases e : p.1 = k
    · simp [List.find?_cons, List.findIdx?_cons, e]
    · have e2 : ¬ f p.1 = f k := fun z => e (hf _ _ z)
      have ih := find_map f hf k l
      simp only [List.find?_cons, List.map_cons, List.findIdx?_cons, decide_eq_false e, decide_eq_false e2]
      rw [ih]
      cases ((l.map fun p => f p.1).findIdx? fun z => decide (z = f k)) <;> simp
section
variable {X : Cx} {W : Wd}
mutual
theorem nested_is {m : List Addr} {H : Hp} {pins : List (Addr × Obj)} {σ : L2.St} {s : Shared} (hX : Fits X W) (I : Inv X pins σ H s) : ∀ {k : NestedKey} {v : V} {u : Value}, RepV W m H (nkD k) v [] → RelV v u → NestedIs s.heap k u
  | .none, v, u, h, r => by
    obtain ⟨rfl, _⟩ := h
    cases r
    exact .none
  | .num i, v, u, h, r => by
    obtain ⟨rfl, _⟩ := h
    obtain ⟨t, rfl⟩ := r
    exact .int i t
  | .text i, v, u, h, r => by
    obtain ⟨rfl, _⟩ := h
    obtain ⟨t, rfl⟩ := r
    exact .text i t
  | .tup ks, v, u, h, r => by
    obtain ⟨a, vs, rfl, sq, rs⟩ := h
    cases r
    obtain ⟨its, rv, ⟨o, ho, hc, n, hd⟩, hz⟩ := I.tuple (by rw [hX.K]; exact sq.sq)
    exact .tup ho hc hd (nesteds_is hX I rs rv)
theorem nesteds_is {m : List Addr} {H : Hp} {pins : List (Addr × Obj)} {σ : L2.St} {s : Shared} (hX : Fits X W) (I : Inv X pins σ H s) : ∀ {ks : List NestedKey} {vs : List V} {us : List Value}, RepVs W m H (nkDs ks) vs [] → Vals vs us → NestedAll s.heap ks us
  | [], vs, us, h, r => by
    obtain ⟨rfl, _⟩ := h
    cases r
    exact .nil
  | k :: ks, vs, us, h, r => by
    obtain ⟨v, ws, F1, F2, rfl, e2, h1, h2⟩ := h
    obtain ⟨rfl, rfl⟩ := List.append_eq_nil_iff.mp e2.symm
    cases r with
    | cons a b => exact .cons (nested_is hX I h1 a) (nesteds_is hX I h2 b)
end
/-- a dict as deep values: its keys, its values -/
def DictAt (W : Wd) (m : List Addr) (H : Hp) (a : Addr) (ks : List D) (ws : List V) : Prop := ∃ o kks, H a = some o ∧ DicH W o a ks kks ws ∧ RepVs W m H ks kks []
theorem dict_rep {m : List Addr} {cs : List Nat} {st : Sto} {H : Hp} {d : D} {v : V} {F : List Addr} {ks vs : List D} (S : Sat W m cs st H) (R : RepV W m H d v F) (h : st.dict d = some (ks, vs)) :
    ∃ a ws G, v = .ref a ∧ DictAt W m H a ks ws ∧ RepVs W m H vs ws G ∧ G.Sublist F := by
  cases d with
  | td ks' vs' =>
    cases h
    obtain ⟨a, o, kks, ws, G, e, eF, s, dh, rk, r⟩ := R
    exact ⟨a, ws, G, e, ⟨o, kks, s, dh, rk⟩, r, by rw [eF]; exact List.sublist_append_left _ _⟩
  | loc l =>
    obtain ⟨a, e, s, eF⟩ := R
    unfold Sto.dict at h
    dsimp only at h
    split at h
    · rename_i q
      cases h
      obtain ⟨o, kks, ws, h1, dh, rk, r⟩ := S.obj l a _ s q
      exact ⟨a, ws, [], e, ⟨o, kks, h1, dh, rk⟩, r, List.nil_sublist _⟩
    · cases h
  | _ => cases h
/-- a dict of tuples at the level of the heap -/
structure NestAt (P : Program) (w : World) (h : Heap) (a b : Addr) (k : NestedKey) (xs : List (NestedKey × Addr × Value)) (ks : List D) (ws : List V) : Prop where
  dict : h.DictOfH (nestedKind P w) a xs
  key : (nestedKind P w).is h k b
  len : xs.length ≤ sizeLine
  sys : (a == sysModules) = false
  keys : ks = xs.map fun p => nkD p.1
  vals : Vals ws (xs.map (·.2.2))
/-- the two kinds of dicts -/
theorem dict_kinds {m : List Addr} {H : Hp} {pins : List (Addr × Obj)} {σ : L2.St} {s : Shared} {a : Addr} {ks : List D} {ws : List V} {k : D} {x : V} {u : Value} (hX : Fits X W) (I : Inv X pins σ H s) (D : DictAt W m H a ks ws) (ok : keyOk ks k = true)
    (R : RepV W m H k x []) (r : RelV x u) :
    (∃ (kvs : List (Key × V)) (kk : Key), H a = some (.dK kvs) ∧ x = kV kk ∧ keyD kk = k ∧ ks = kvs.map (fun p => keyD p.1) ∧ ws = kvs.map (·.2)) ∨
    ∃ b nk xs, x = .ref b ∧ nkD nk = k ∧ NestAt X.prog X.w s.heap a b nk xs ks ws ∧ RepVs W m H ks (xs.map fun p => V.ref p.2.1) [] ∧ ((∃ l, nk = .tup l) ∧ nk.depth ≤ 8) ∧ ∀ p ∈ xs, (∃ l, p.1 = .tup l) ∧ p.1.depth ≤ 8 := by
  obtain ⟨o, kks, e, dh, rk⟩ := D
  unfold keyOk at ok
  by_cases hl : k.leaf = true
  · rw [if_pos hl] at ok
    obtain ⟨kk, rfl⟩ := leaf_of hl
    rcases dh with ⟨kvs, rfl, rfl, rfl, rfl⟩ | ⟨kvs, rfl, rfl, rfl, rfl, hz, hs, hne, ht⟩
    · exact .inl ⟨kvs, kk, e, kV_rep R, rfl, rfl, rfl⟩
    · exfalso
      cases kvs with
      | nil => exact hne rfl
      | cons p q =>
        obtain ⟨⟨l, e2⟩, _⟩ := ht p List.mem_cons_self
        simp [e2, nkD, D.leaf] at ok
  · rw [if_neg hl] at ok
    simp only [Bool.and_eq_true, decide_eq_true_eq] at ok
    obtain ⟨⟨⟨o1, o2⟩, o3⟩, o4⟩ := ok
    obtain ⟨nk, rfl, hdep⟩ := nk_of o2
    have hnk : (∃ l, nk = .tup l) ∧ nk.depth ≤ 8 := by
      refine ⟨?_, by rw [hdep]; exact o3⟩
      cases nk with
      | tup l => exact ⟨l, rfl⟩
      | none => simp [nkD, D.isTup] at o1
      | num i => simp [nkD, D.isTup] at o1
      | text i => simp [nkD, D.isTup] at o1
    have hb : ∃ b, x = .ref b := by
      cases nk with
      | tup l => obtain ⟨b, vs, e, _⟩ := R; exact ⟨b, e⟩
      | none => simp [nkD, D.isTup] at o1
      | num i => simp [nkD, D.isTup] at o1
      | text i => simp [nkD, D.isTup] at o1
    obtain ⟨b, rfl⟩ := hb
    cases r
    have key : (nestedKind X.prog X.w).is s.heap nk b := ⟨nested_is hX I R rfl, by rw [hdep]; exact o3⟩
    rcases dh with ⟨kvs, rfl, rfl, rfl, rfl⟩ | ⟨kvs, rfl, rfl, rfl, rfl, hz, hs, hne, ht⟩
    · have hk : kvs = [] := by
        cases kvs with
        | nil => rfl
        | cons p q => simp [keyD_notTup] at o4
      subst hk
      obtain ⟨_, hd, vs, rel, dd⟩ := dk_of I.hok e
      cases rel
      obtain ⟨oo, es, ep, h1, h2, h3, h4, h5, h6⟩ := dd
      refine .inr ⟨b, nk, [], rfl, rfl, ⟨⟨oo, es, ep, h1, h2, h3, ?_, by simp, by simp⟩, key, Nat.zero_le _, hd, rfl, .nil⟩, ⟨rfl, rfl⟩, hnk, by simp⟩
      cases hes : es.toList with
      | nil => rfl
      | cons p q => rw [hes] at h5; cases h5
    · obtain ⟨⟨xs, rel, oo, es, ep, h1, h2, h3, h4, h5⟩, _, _⟩ := (show ObjOk X.prog X.w H s.heap a (NstO W a kvs) from I.hok a _ e)
      rw [← hX.P, ← hX.w] at h4
      have keys : ∀ (kvs : List (NestedKey × Addr × V)) (xs : List (NestedKey × Addr × Value)), Paired (fun (p : NestedKey × Addr × V) (q : NestedKey × Addr × Value) => p.1 = q.1 ∧ p.2.1 = q.2.1 ∧ RelV p.2.2 q.2.2) kvs xs →
          RepVs W m H (kvs.map fun p => nkD p.1) (kvs.map fun p => V.ref p.2.1) [] → (∀ z ∈ xs, NestedIs s.heap z.1 (.ref z.2.1) ∧ ∃ p ∈ kvs, p.1 = z.1) ∧ kvs.map (fun p => nkD p.1) = xs.map (fun p => nkD p.1) ∧ Vals (kvs.map (·.2.2)) (xs.map (·.2.2)) ∧ kvs.length = xs.length ∧ kvs.map (fun p => V.ref p.2.1) = xs.map (fun p => V.ref p.2.1) := by
        intro kvs xs rel
        induction rel with
        | nil => intro _; exact ⟨by simp, rfl, .nil, rfl, rfl⟩
        | cons h _ ih =>
          intro rk
          obtain ⟨v, ws, F1, F2, e1, e2, r1, r2⟩ := rk
          obtain ⟨rfl, rfl⟩ := List.append_eq_nil_iff.mp e2.symm
          simp only [List.map_cons, List.cons.injEq] at e1
          obtain ⟨rfl, rfl⟩ := e1
          obtain ⟨i1, i2, i3, i4, i5⟩ := ih r2
          obtain ⟨q1, q2, q3⟩ := h
          refine ⟨fun z hz => ?_, by simp [q1, i2], .cons q3 i3, by simp [i4], by simp [q2, i5]⟩
          rcases List.mem_cons.mp hz with rfl | hz
          · rw [← q1, ← q2]; exact ⟨nested_is hX I r1 rfl, _, List.mem_cons_self, rfl⟩
          · obtain ⟨y1, p, hp, y2⟩ := i1 z hz
            exact ⟨y1, p, List.mem_cons_of_mem _ hp, y2⟩
      obtain ⟨k1, k2, k3, k4, k5⟩ := keys kvs xs rel rk
      refine .inr ⟨b, nk, xs, rfl, rfl, ⟨⟨oo, es, ep, h1, h2, h3, h4, fun z hz' => ?_, h5⟩, key, by rw [← k4]; exact hz, hs, k2, k3⟩, by rw [← k5]; exact rk, hnk, fun z hz' => by
        obtain ⟨_, p, hp, y2⟩ := k1 z hz'
        rw [← y2]; exact ht p hp⟩
      obtain ⟨y1, p, hp, y2⟩ := k1 z hz'
      exact ⟨y1, by rw [← y2]; exact (ht p hp).2⟩
theorem nest_at {P : Program} {w : World} {h : Heap} {a b : Addr} {k : NestedKey} {xs : List (NestedKey × Addr × Value)} {ks : List D} {ws : List V} (N : NestAt P w h a b k xs ks ws) :
    (atKey xs k).map (·.2) = (ks.findIdx? fun z => decide (z = nkD k)).bind fun j => (xs.map (·.2.2))[j]? := by
  have q := find_map nkD (fun a b => nkD_inj) k xs
  unfold atKey
  rw [N.keys]
  cases e : (xs.find? fun x => decide (x.1 = k)) with
  | none =>
    rw [e] at q
    cases e2 : ((xs.map fun p => nkD p.1).findIdx? fun z => decide (z = nkD k)) with
    | none => rfl
    | some j =>
      rw [e2] at q
      have q' : (xs.map (·.2))[j]? = none := q.symm
      rw [List.getElem?_map] at q'
      show none = (xs.map (·.2.2))[j]?
      rw [List.getElem?_map]
      cases e3 : xs[j]? with
      | none => rfl
      | some z => rw [e3] at q'; cases q'
  | some y =>
    rw [e] at q
    cases e2 : ((xs.map fun p => nkD p.1).findIdx? fun z => decide (z = nkD k)) with
    | none => rw [e2] at q; cases q
    | some j =>
      rw [e2] at q
      have q' : (xs.map (·.2))[j]? = some y.2 := q.symm
      rw [List.getElem?_map] at q'
      show some y.2.2 = (xs.map (·.2.2))[j]?
      rw [List.getElem?_map]
      cases e3 : xs[j]? with
      | none => rw [e3] at q'; cases q'
      | some z =>
        rw [e3] at q'
        have hz : z.2 = y.2 := Option.some.inj q'
        show some y.2.2 = some z.2.2
        rw [hz]
theorem leaf_at (kvs : List (Key × V)) (kk : Key) : valV kvs kk = ((kvs.map fun p => keyD p.1).findIdx? fun z => decide (z = keyD kk)).bind fun j => (kvs.map (·.2))[j]? := find_map keyD (fun _ _ => keyD_inj) kk kvs
theorem find_lt {ks : List D} {f : D → Bool} {j : Nat} (h : ks.findIdx? f = some j) : j < ks.length := (List.findIdx?_eq_some_iff_getElem.mp h).1
/-- x in d -/
theorem dict_in {A : Around} {E Q : Value → Shared → Prop} {neg : Bool} {m : List Addr} {H : Hp} {pins : List (Addr × Obj)} {σ : L2.St} {s : Shared} {a : Addr} {ks : List D} {ws : List V} {k : D} {x : V} {u : Value} (hX : Fits X W) (hu : A.units + 9 < cLine)
    (hl : ks.length = ws.length) (I : Inv X pins σ H s) (D : DictAt W m H a ks ws) (ok : keyOk ks k = true) (R : RepV W m H k x []) (r : RelV x u)
    (h : ∀ s', Inv X pins σ H s' → Q (.bool (if neg then !(ks.findIdx? fun z => decide (z = k)).isSome else (ks.findIdx? fun z => decide (z = k)).isSome)) s') :
    wpAny (model X.prog X.w) A (compareOp (if neg then .NotIn else .In) u (.ref a)) Q E s := by
  have some_iff : ∀ (o : Option Nat) (l : List V), (∀ j, o = some j → j < l.length) → (o.bind fun j => l[j]?).isSome = o.isSome := fun o l hh => by
    cases o with
    | none => rfl
    | some j =>
      show (l[j]?).isSome = true
      rw [List.getElem?_eq_getElem (hh j rfl)]
      rfl
  rcases dict_kinds hX I D ok R r with ⟨kvs, kk, e, rfl, rfl, rfl, rfl⟩ | ⟨b, nk, xs, rfl, rfl, N, _⟩
  · have e1 : (valV kvs kk).isSome = ((kvs.map fun p => keyD p.1).findIdx? fun z => decide (z = keyD kk)).isSome := by
      rw [leaf_at]
      exact some_iff _ _ fun j hj => by have := find_lt hj; simpa using this
    rw [← e1] at h
    cases neg with
    | false => exact d_in (by omega) I (DGet.k e) r h
    | true => exact d_notIn (by omega) I (DGet.k e) r h
  · cases r
    have e1 : (atKey xs nk).isSome = (ks.findIdx? fun z => decide (z = nkD nk)).isSome := by
      have q := congrArg Option.isSome (nest_at N)
      rw [Option.isSome_map] at q
      rw [q]
      have hv := N.vals.length
      cases e3 : (ks.findIdx? fun z => decide (z = nkD nk)) with
      | none => rfl
      | some j =>
        show ((xs.map (·.2.2))[j]?).isSome = true
        have := find_lt e3
        rw [List.getElem?_eq_getElem (by omega)]
        rfl
    rw [← e1] at h
    have room : (nestedKind X.prog X.w).room A.in1 := by show A.units + 1 + 8 < cLine; omega
    cases neg with
    | false => exact wpAny_in_heap room N.key N.sys N.dict (h _ (I.tok _))
    | true => exact wpAny_notIn_heap room N.key N.sys N.dict (h _ (I.tok _))
/-- d[x], d.get(x, ..) find the value -/
theorem dict_get {A : Around} {E Q : Value → Shared → Prop} {m : List Addr} {H : Hp} {pins : List (Addr × Obj)} {σ : L2.St} {s : Shared} {a : Addr} {ks : List D} {ws : List V} {k : D} {x v : V} {u : Value} {j : Nat} (hX : Fits X W) (hu : A.units + 9 < cLine)
    (I : Inv X pins σ H s) (D : DictAt W m H a ks ws) (ok : keyOk ks k = true) (R : RepV W m H k x []) (r : RelV x u) (hj : (ks.findIdx? fun z => decide (z = k)) = some j) (hv : ws[j]? = some v)
    (h : ∀ w' s', Inv X pins σ H s' → RelV v w' → Q w' s') : wpAny (model X.prog X.w) A (getItem (.ref a) u) Q E s := by
  rcases dict_kinds hX I D ok R r with ⟨kvs, kk, e, rfl, rfl, rfl, rfl⟩ | ⟨b, nk, xs, rfl, rfl, N, _⟩
  · refine d_getItem (v := v) (by omega) I ?_ r h
    have q := DGet.k (k := kk) e
    rw [leaf_at, hj] at q
    rw [← hv]
    exact q
  · cases r
    have q := nest_at N
    rw [hj] at q
    obtain ⟨w', hw, rw'⟩ := N.vals.get hv
    have q' : (atKey xs nk).map (·.2) = some w' := q.trans hw
    obtain ⟨p, hp, hp2⟩ := Option.map_eq_some_iff.mp q'
    refine wpAny_getItem_heap (by show A.units + 1 + 8 < cLine; omega) N.key N.dict hp ?_
    rw [hp2]
    exact h w' _ (I.tok _) rw'
/-! ### in, not in -/
theorem RepVs.plain {m : List Addr} {H : Hp} {xs : List D} {vs : List V} {F : List Addr} (h : RepVs W m H xs vs F) : xs.length = vs.length := h.length.symm
def rInT (K : PySem.W.Frag) (neg : Bool) : R2 := fun x y H Q => ∃ d ds, Dp K H x d ∧ Dp K H y (.tuple ds) ∧ SeqAt.shaped d = true ∧ SeqAt.shaped (.tuple ds) = true ∧ Q (.bl (if neg then !(ds.any fun z => PyData.eqv z d) else ds.any fun z => PyData.eqv z d)) H
theorem op_inT (neg : Bool) (hu : X.A.units + 65 < cLine) : OpR X (compareOp (if neg then .NotIn else .In)) (rInT X.K neg) := by
  intro pins s σ H x y v u Q I rx ry h
  obtain ⟨d, ds, hd, he, sd, se, q⟩ := h
  obtain ⟨as, r1⟩ := Dp.reads I d x v hd rx
  obtain ⟨bs, r2⟩ := Dp.reads I (.tuple ds) y u he ry
  cases neg with
  | false => exact SeqAt.in_tuple_reads r2 r1 (SeqAt.canLay_of_shaped se) (SeqAt.canLay_of_shaped sd) (room_in_shaped sd hu) ⟨.bl _, H, I, rfl, q⟩
  | true => exact SeqAt.notIn_tuple_reads r2 r1 (SeqAt.canLay_of_shaped se) (SeqAt.canLay_of_shaped sd) (room_in_shaped sd hu) ⟨.bl _, H, I, rfl, q⟩
def rInL (K : PySem.W.Frag) (neg : Bool) : R2 := fun x y H Q => ∃ d ds, Dp K H x d ∧ Dp K H y (.list ds) ∧ SeqAt.shaped d = true ∧ SeqAt.shaped (.list ds) = true ∧ Q (.bl (if neg then !(ds.any fun z => PyData.eqv z d) else ds.any fun z => PyData.eqv z d)) H
theorem op_inL (neg : Bool) (hu : X.A.units + 65 < cLine) : OpR X (compareOp (if neg then .NotIn else .In)) (rInL X.K neg) := by
  cases neg with
  | false => exact op_inD hu
  | true => exact op_notInD hu
def rInDict (W : Wd) (neg : Bool) : R2 := fun x y H Q => ∃ a m ks ws k, y = .ref a ∧ DictAt W m H a ks ws ∧ ks.length = ws.length ∧ keyOk ks k = true ∧ RepV W m H k x [] ∧
  Q (.bl (if neg then !(ks.findIdx? fun z => decide (z = k)).isSome else (ks.findIdx? fun z => decide (z = k)).isSome)) H
theorem op_inDict (neg : Bool) (hX : Fits X W) (hu : X.A.units + 65 < cLine) : OpR X (compareOp (if neg then .NotIn else .In)) (rInDict W neg) := by
  intro pins s σ H x y v u Q I rx ry h
  obtain ⟨a, m, ks, ws, k, rfl, D, hl, ok, R, q⟩ := h
  cases ry
  exact dict_in hX (by omega) hl I D ok R rx fun s' I' => ⟨.bl _, H, I', rfl, q⟩
theorem DicH.lens {o : HO} {a : Addr} {ks : List D} {kks ws : List V} (h : DicH W o a ks kks ws) : ks.length = ws.length := by
  rcases h with ⟨kvs, _, rfl, _, rfl⟩ | ⟨kvs, _, rfl, _, rfl, _⟩ <;> simp
mutual
theorem nkT' : ∀ n : NestedKey, (nkD n).noT = true
  | .none => rfl
  | .num _ => rfl
  | .text _ => rfl
  | .tup ks => by
    simp only [nkD, D.noT]
    exact nkTs ks
theorem nkTs : ∀ ns : List NestedKey, D.noTs (nkDs ns) = true
  | [] => rfl
  | n :: ns => by
    simp only [nkDs, D.noTs, nkT' n, nkTs ns, Bool.and_self]
end
theorem shaped_of {ps : List PyData} (h1 : PyData.canLayAll0 ps = true) (h2 : PyData.depthAll ps ≤ tops) : SeqAt.shaped (.list ps) = true ∧ SeqAt.shaped (.tuple ps) = true := by
  have e : PyData.depthAll ps + 1 ≤ 64 := by unfold tops at h2; omega
  constructor
  · show ((PyData.list ps).canLay0 && decide ((PyData.list ps).depth ≤ 64)) = true
    rw [decide_eq_true (show (PyData.list ps).depth ≤ 64 by simpa only [PyData.depth] using e)]
    simpa [PyData.canLay0] using h1
  · show ((PyData.tuple ps).canLay0 && decide ((PyData.tuple ps).depth ≤ 64)) = true
    rw [decide_eq_true (show (PyData.tuple ps).depth ≤ 64 by simpa only [PyData.depth] using e)]
    simpa [PyData.canLay0] using h1
theorem leaf_key {m : List Addr} {H : Hp} {k : D} {x : V} {F : List Addr} {ks : List D} (ok : keyOk ks k = true) (R : RepV W m H k x F) : F = [] := by
  have nkT : ∀ {k : D}, k.nk = true → k.noT = true := by
    intro k h
    obtain ⟨n, rfl, _⟩ := nk_of h
    clear h
    exact nkT' n
  unfold keyOk at ok
  by_cases hl : k.leaf = true
  · obtain ⟨kk, rfl⟩ := leaf_of hl
    cases kk with
    | inl i => exact R.2
    | inr i => exact R.2
  · rw [if_neg hl] at ok
    simp only [Bool.and_eq_true] at ok
    exact R.noT (nkT ok.1.1.2)
theorem in_core (neg : Bool) (hX : Fits X W) {m : List Addr} {cs : List Nat} {st : Sto} {H : Hp} {x y : D} {v u : V} {F1 F2 : List Addr} {Q : VK} (S : Sat W m cs st H) (R1 : RepV W m H x v F1) (R2 : RepV W m H y u F2) (b : Bool)
    (q : opIn x y st = .ok (.bl b) st) (hQ : Q (.bl (if neg then !b else b)) H) : rInL X.K neg v u H Q ∨ rInT X.K neg v u H Q ∨ rInDict W neg v u H Q := by
  unfold opIn at q
  cases e : st.seq y with
  | some ys =>
    rw [e] at q
    dsimp only at q
    unfold dataIn at q
    cases e1 : mapO st.data ys with
    | none => rw [e1] at q; cases q
    | some ps =>
      cases e2 : st.data x with
      | none => rw [e1, e2] at q; cases q
      | some p =>
        rw [e1, e2] at q
        simp only [blO, Res.ok.injEq, D.bl.injEq, and_true] at q
        subst q
        obtain ⟨a, vs, G, rfl, r, _, kd⟩ := seq_rep S R2 e
        obtain ⟨d1, d2, d3, d4⟩ := datas_of S e1 r
        obtain ⟨x1, x2⟩ := data_of S e2 R1
        rcases kd with ⟨_, sq⟩ | ⟨_, sq⟩
        · exact .inr (.inl ⟨p, ps, by rw [hX.K]; exact x1, by rw [hX.K]; exact .tup sq d1, x2, (shaped_of d3 d4).2, hQ⟩)
        · exact .inl ⟨p, ps, by rw [hX.K]; exact x1, by rw [hX.K]; exact .lst sq d1, x2, (shaped_of d3 d4).1, hQ⟩
  | none =>
    rw [e] at q
    dsimp only at q
    cases e1 : st.dict y with
    | none => rw [e1] at q; cases q
    | some kv =>
      obtain ⟨ks, vs⟩ := kv
      rw [e1] at q
      dsimp only at q
      unfold dictFind at q
      by_cases ok : keyOk ks x = true
      · rw [if_pos ok] at q
        simp only [Res.ok.injEq, D.bl.injEq, and_true] at q
        subst q
        obtain ⟨a, ws, G, rfl, D, r, _⟩ := dict_rep S R2 e1
        obtain rfl := leaf_key ok R1
        have hl : ks.length = ws.length := by
          obtain ⟨o, kks, _, dh, _⟩ := D
          exact dh.lens
        exact .inr (.inr ⟨a, m, ks, ws, x, rfl, D, hl, ok, R1, hQ⟩)
      · rw [if_neg ok] at q
        cases q
theorem opIn_ok {x y : D} {st st' : Sto} {r : D} (h : opIn x y st = .ok r st') : ∃ b, r = .bl b ∧ st' = st := by
  unfold opIn blO at h
  split at h
  · split at h
    · cases h; exact ⟨_, rfl, rfl⟩
    · cases h
  · split at h
    · split at h
      · cases h; exact ⟨_, rfl, rfl⟩
      · cases h
    · cases h
theorem opIn_exc {x y : D} {st st' : Sto} {c : Nat} (h : opIn x y st = .exc c st') : False := by
  unfold opIn blO at h
  split at h
  · split at h <;> cases h
  · split at h
    · split at h <;> cases h
    · cases h
theorem od_in (hX : Fits X W) (hu : X.A.units + 65 < cLine) : OpD X W (compareOp .In) opIn := by
  refine ⟨_, (op_inL false hu).or ((op_inT false hu).or (op_inDict false hX hu)), fun {m cs st H x y v u F1 F2 Q E} S R1 R2 P q => ?_⟩
  cases e : opIn x y st with
  | bad => rw [e] at q; exact False.elim q
  | exc c st' => exact (opIn_exc e).elim
  | ok r st' =>
    obtain ⟨b, rfl, rfl⟩ := opIn_ok e
    rw [e] at q
    exact in_core false hX S R1 R2 b e (VP.flat (d := .bl b) S ⟨rfl, rfl⟩ q)
theorem od_nin (hX : Fits X W) (hu : X.A.units + 65 < cLine) : OpD X W (compareOp .NotIn) opNin := by
  refine ⟨_, (op_inL true hu).or ((op_inT true hu).or (op_inDict true hX hu)), fun {m cs st H x y v u F1 F2 Q E} S R1 R2 P q => ?_⟩
  unfold opNin at q
  cases e : opIn x y st with
  | bad => rw [e] at q; exact False.elim q
  | exc c st' => exact (opIn_exc e).elim
  | ok r st' =>
    obtain ⟨b, rfl, rfl⟩ := opIn_ok e
    rw [e] at q
    exact in_core true hX S R1 R2 b e (VP.flat (d := .bl (!b)) S ⟨rfl, rfl⟩ q)
theorem rv_non {m : List Addr} {H : Hp} {d : D} {v : V} {F : List Addr} (R : RepV W m H d v F) : decide (v = .non) = decide (d = .non) := by
  cases d with
  | non => obtain ⟨rfl, _⟩ := R; simp
  | bl b => obtain ⟨rfl, _⟩ := R; simp
  | int b => obtain ⟨rfl, _⟩ := R; simp
  | str b => obtain ⟨rfl, _⟩ := R; simp
  | exn b => exact False.elim R
  | tup b => obtain ⟨_, _, rfl, _⟩ := R; simp
  | tl b => obtain ⟨_, _, _, rfl, _⟩ := R; simp
  | td b c => obtain ⟨_, _, _, _, _, rfl, _⟩ := R; simp
  | loc b => obtain ⟨_, rfl, _⟩ := R; simp
  | fro b => obtain ⟨_, _, rfl, _⟩ := R; simp
theorem od_is : OpD X W (compareOp .Is) opIs := by
  refine ⟨_, op_isN.or op_isBl, fun {m cs st H x y v u F1 F2 Q E} S R1 R2 P q => ?_⟩
  unfold opIs at q
  split at q
  · obtain ⟨rfl, _⟩ := R2
    refine .inl ⟨rfl, ?_⟩
    rw [rv_non R1]
    exact VP.flat (d := .bl _) S ⟨rfl, rfl⟩ q
  · obtain ⟨rfl, _⟩ := R1
    obtain ⟨rfl, _⟩ := R2
    exact .inr ⟨_, _, rfl, rfl, VP.flat (d := .bl _) S ⟨rfl, rfl⟩ q⟩
  · exact False.elim q
theorem od_nis : OpD X W (compareOp .IsNot) opNis := by
  refine ⟨_, op_notN.or op_notBl, fun {m cs st H x y v u F1 F2 Q E} S R1 R2 P q => ?_⟩
  unfold opNis opIs at q
  split at q
  · obtain ⟨rfl, _⟩ := R2
    refine .inl ⟨rfl, ?_⟩
    rw [rv_non R1]
    exact VP.flat (d := .bl _) S ⟨rfl, rfl⟩ q
  · obtain ⟨rfl, _⟩ := R1
    obtain ⟨rfl, _⟩ := R2
    exact .inr ⟨_, _, rfl, rfl, VP.flat (d := .bl _) S ⟨rfl, rfl⟩ q⟩
  · exact False.elim q
end
end DV
set_option Elab.async false
set_option linter.all false
set_option maxRecDepth 100000
set_option maxHeartbeats 4000000
/-! DE: subscripts, slices, displays, built-in functions and methods on deep values. -/
namespace DV
open PySem PySem.Spec PyProof.Rows L2
section
variable {W : Wd} {B : WX} {X : Cx} {pos : Pos} {a b c : Expr} {ra rb rc : Slots → Sto → Res D}
/-! ### subscripts -/
theorem dict_type {m : List Addr} {H : Hp} {pins : List (Addr × Obj)} {σ : L2.St} {s : Shared} {a : Addr} {ks : List D} {ws : List V} (I : Inv X pins σ H s) (D : DictAt W m H a ks ws) :
    s.TypeIs (.ref a) "dict" ∧ (∀ b, Value.ref a = .ref b → ∃ ob, s.heap.get? b = some ob ∧ ob.dict = none) ∧ (a == sysModules) = false := by
  obtain ⟨o, kks, e, dh, _⟩ := D
  rcases dh with ⟨kvs, rfl, _⟩ | ⟨kvs, rfl, _, _, _, _, hs, _⟩
  · exact isD_at I (.inl ⟨kvs, .inl e⟩)
  · obtain ⟨⟨xs, _, oo, es, ep, h1, h2, _⟩, _, _⟩ := (show ObjOk X.prog X.w H s.heap a (NstO W a kvs) from I.hok a _ e)
    exact ⟨⟨oo, h1, h2.1⟩, fun b q => by cases q; exact ⟨oo, h1, h2.2.1⟩, hs⟩
def rIxD (W : Wd) : R2 := fun x y H Q => ∃ a m ks ws k j v, x = .ref a ∧ DictAt W m H a ks ws ∧ keyOk ks k = true ∧ RepV W m H k y [] ∧ (ks.findIdx? fun z => decide (z = k)) = some j ∧ ws[j]? = some v ∧ Q v H
theorem ix_dict (hX : Fits X W) (hu : X.A.units + 65 < cLine) : IxR X (rIxD W) := by
  intro value slice pins s σ H x y v u Q I rx ry ⟨a, m, ks, ws, k, j, z, ex, D, ok, R, hj, hv, q⟩ hs
  subst ex
  cases rx
  exact tail_any (dict_type I D).1 PySem.F.slot_dict_getitem.lookup (dict_get hX (by omega) I D ok R ry hj hv fun w' s' I' rw' => ⟨z, H, I', rw', q⟩) hs
theorem ixN_eq (n : Nat) (i : Int) : ixN n i = ixOf n i := rfl
theorem at_rep {m : List Addr} {H : Hp} {ds : List D} {vs : List V} {F : List Addr} {i : Int} {d : D} (R : RepVs W m H ds vs F) (h : atIx ds i = some d) : ∃ v G, atI vs i = some v ∧ RepV W m H d v G ∧ G.Sublist F := by
  unfold atIx at h
  cases e : ixOf ds.length i with
  | none => rw [e] at h; cases h
  | some j =>
    rw [e] at h
    obtain ⟨v, G, h1, h2, h3⟩ := R.getF (i := j) (d := d) h
    refine ⟨v, G, ?_, h2, h3⟩
    unfold atI
    rw [R.length, ixN_eq, e]
    exact h1
theorem xd_idx (hX : Fits X W) (hu : X.A.units + 65 < cLine) (ha : PE X a (tD W B ra)) (hb : PE X b (tD W B rb)) (hs : PlainIx b) :
    PE X (.Subscript a b pos) (tD W B fun s st => (ra s st).bind fun x st => (rb s st).bind fun y st => opIdx x y st) := by
  refine peD (pe_ix (ix_list.or (ix_tup.or (ix_dict hX hu))) ha hb hs) fun σ H Q q => ?_
  refine two (r := fun x y H Q => rIxL X.K x y H Q ∨ rIxT X.K x y H Q ∨ rIxD W x y H Q) q ?_
  intro m cs st H x y v u F1 F2 Q E S R1 R2 P q
  unfold opIdx at q
  cases e : st.seq x with
  | some xs =>
    rw [e] at q
    dsimp only at q
    split at q
    · rename_i i
      split at q
      · rename_i d hd
        obtain ⟨a, vs, G, rfl, r, sub, kd⟩ := seq_rep S R1 e
        obtain ⟨rfl, rfl⟩ := R2
        obtain ⟨w, G2, h1, h2, h3⟩ := at_rep r hd
        have fin := VP.put S h2 P (by simpa using h3.trans sub) q
        rcases kd with ⟨_, sq⟩ | ⟨_, sq⟩
        · exact .inr (.inl ⟨a, vs, i, w, rfl, rfl, by rw [hX.K]; exact sq, h1, fin⟩)
        · exact .inl ⟨a, vs, i, w, rfl, rfl, by rw [hX.K]; exact sq, h1, fin⟩
      · exact False.elim q
    · exact False.elim q
  | none =>
    rw [e] at q
    dsimp only at q
    split at q
    · rename_i ks vs e1
      split at q
      · rename_i d hd
        obtain ⟨a, ws, G, rfl, D, r, sub⟩ := dict_rep S R1 e1
        unfold dictLook dictFind at hd
        by_cases ok : keyOk ks y = true
        · rw [if_pos ok] at hd
          cases ej : (ks.findIdx? fun z => decide (z = y)) with
          | none => rw [ej] at hd; cases hd
          | some j =>
            rw [ej] at hd
            dsimp only at hd
            cases ev : vs[j]? with
            | none => rw [ev] at hd; cases hd
            | some d2 =>
              rw [ev] at hd
              cases hd
              obtain rfl := leaf_key ok R2
              obtain ⟨w, G2, h1, h2, h3⟩ := r.getF ev
              exact .inr (.inr ⟨a, m, ks, ws, y, j, w, rfl, D, ok, R2, ej, h1, VP.put S h2 P (by simpa using h3.trans sub) q⟩)
        · rw [if_neg ok] at hd
          cases hd
      · exact False.elim q
    · exact False.elim q
/-! ### slices -/
/-- a part of a slice: nothing, or an expression -/
def OP (W : Wd) (cs : List Nat) (Q : Option Int → Hp → Prop) : Post W (Option Int) where
  ok m H G o st' := ∀ H' m', Grow m H m' H' → Sat W m' cs st' H' → Q o H'
  mono := fun M g hF h H' m' g' S => h H' m' (g.trans M g') S
def tDo (W : Wd) (B : WX) (r : Slots → Sto → Res (Option Int)) : TO := fun σ H Q =>
  ∃ s st m cs, RepS W m H s σ ∧ Sat W m cs st H ∧ RP (OP W cs Q) cs (EB B σ) m H [] (r s st)
theorem poD {e : Option Expr} {t t' : TO} (h : PO X e t) (k : ∀ σ H Q, t' σ H Q → t σ H Q) : PO X e t' := ⟨fun pins s σ H Q I q => h.run pins s σ H Q I (k σ H Q q)⟩
theorem xo_none : PO X none (tDo W B fun _ st => .ok none st) := by
  refine poD po_none fun σ H Q ⟨s, st, m, cs, RS, S, q⟩ => ?_
  exact q H m .refl S
theorem xo_some {e : Expr} (h : PE X e (tD W B ra)) : PO X (some e) (tDo W B fun s st => (ra s st).bind fun d st => iO [d] st) := by
  refine poD (po_some h) fun σ H Q ⟨s, st, m, cs, RS, S, q⟩ => ?_
  refine stepD S RS .nil q fun d st1 v H1 m1 F1 g1 S1 RS1 R1 P1 q1 => ?_
  cases d with
  | int i =>
    obtain ⟨rfl, _⟩ := R1
    exact ⟨i, rfl, q1 H1 m1 .refl S1⟩
  | _ => exact False.elim q1
theorem stepDo {β : Type} {Z : Post W β} {m : List Addr} {cs : List Nat} {st : Sto} {H : Hp} {s : Slots} {σ : L2.St} {G : List Addr} {rl : Slots → Sto → Res (Option Int)} {f : Option Int → Sto → Res β} {Q' : Option Int → Hp → Prop} (S : Sat W m cs st H) (RS : RepS W m H s σ) (PG : Pend m H G) (h : RP Z cs (EB B σ) m H G ((rl s st).bind f))
    (k : ∀ o st1 H1 m1, Grow m H m1 H1 → Sat W m1 cs st1 H1 → RepS W m1 H1 s σ → Pend m1 H1 G → RP Z cs (EB B σ) m1 H1 G (f o st1) → Q' o H1) : tDo W B rl σ H Q' := by
  refine ⟨s, st, m, cs, RS, S, ?_⟩
  cases e : rl s st with
  | ok ds st1 =>
    rw [e] at h
    intro H1 m1 g1 S1
    have h1 := RP.mono (F := []) S1.mut g1 (fun a ha => nomatch ha) h
    rw [List.append_nil] at h1
    exact k ds st1 H1 m1 g1 S1 (RS.grow S.mut g1) (PG.grow g1) h1
  | exc c st1 => rw [e] at h; exact h
  | bad => rw [e] at h; exact h
theorem sIx_eq (n d : Nat) (o : Option Int) : HT.sIx n d o = cutIx n d o := by
  cases o with
  | none => rfl
  | some v =>
    unfold HT.sIx cutIx
    rfl
theorem cut_rep {m : List Addr} {H : Hp} {ds : List D} {vs : List V} (R : RepVs W m H ds vs []) (lo hi : Option Int) : RepVs W m H (cutD ds lo hi) (cutV vs lo hi) [] := by
  have tk : ∀ (n : Nat) {ds : List D} {vs : List V}, RepVs W m H ds vs [] → RepVs W m H (ds.take n) (vs.take n) [] := by
    intro n
    induction n with
    | zero => intro ds vs _; exact ⟨by simp, rfl⟩
    | succ n ih =>
      intro ds vs R
      cases ds with
      | nil => obtain ⟨rfl, _⟩ := R; exact ⟨rfl, rfl⟩
      | cons x xs =>
        obtain ⟨v, ws, F1, F2, rfl, e2, r, rs⟩ := R
        obtain ⟨rfl, rfl⟩ := List.append_eq_nil_iff.mp e2.symm
        exact ⟨v, ws.take n, [], [], rfl, rfl, r, ih rs⟩
  have dr : ∀ (n : Nat) {ds : List D} {vs : List V}, RepVs W m H ds vs [] → RepVs W m H (ds.drop n) (vs.drop n) [] := by
    intro n
    induction n with
    | zero => intro ds vs R; exact R
    | succ n ih =>
      intro ds vs R
      cases ds with
      | nil => obtain ⟨rfl, _⟩ := R; exact ⟨rfl, rfl⟩
      | cons x xs =>
        obtain ⟨v, ws, F1, F2, rfl, e2, r, rs⟩ := R
        obtain ⟨rfl, rfl⟩ := List.append_eq_nil_iff.mp e2.symm
        exact ih rs
  unfold cutD cutV
  rw [R.length, sIx_eq, sIx_eq]
  exact tk _ (dr _ R)
theorem cut_whole {α : Type} (xs : List α) (lo hi : Option Int) (h : HT.sIx xs.length 0 lo = 0 ∧ HT.sIx xs.length xs.length hi = xs.length) : cutD xs lo hi = xs := by
  unfold cutD
  rw [← sIx_eq, ← sIx_eq, h.1, h.2]
  simp
theorem xd_slc {lo hi : Option Expr} {p2 : Pos} {rl rh : Slots → Sto → Res (Option Int)} (hX : Fits X W) (ha : PE X a (tD W B ra)) (hl : PO X lo (tDo W B rl)) (hh : PO X hi (tDo W B rh)) :
    PE X (.Subscript a (.Slice lo hi none p2) pos) (tD W B fun s st => (ra s st).bind fun x st => (rl s st).bind fun l st => (rh s st).bind fun h st => opSlc x l h st) := by
  refine peD (pe_slice (sl_list.or sl_tupF) ha hl hh) fun σ H Q ⟨s, st, m, cs, RS, S, q⟩ => ?_
  refine stepD S RS .nil q fun d st1 v H1 m1 F1 g1 S1 RS1 R1 P1 q1 => ?_
  refine stepDo S1 RS1 P1 q1 fun lo' st2 H2 m2 g2 S2 RS2 P2 q2 => ?_
  refine stepDo S2 RS2 P2 q2 fun hi' st3 H3 m3 g3 S3 RS3 P3 q3 => ?_
  have out1 : ∀ a ∈ F1, a ∉ m1 := fun a ha => (P1.out a (by simpa using ha)).1
  have out2 : ∀ a ∈ F1, a ∉ m2 := fun a ha => (P2.out a (by simpa using ha)).1
  have R3 := (R1.grow S1.mut g2 out1).grow S2.mut g3 out2
  unfold opSlc at q3
  split at q3
  · rename_i xs
    split at q3
    · rename_i hn
      obtain ⟨a, vs, rfl, sq, r⟩ := R3
      obtain rfl := r.noT hn
      refine .inr ⟨a, vs, rfl, by rw [hX.K]; exact sq.sq, fun hw => ?_, VP.tuple S3 (cut_rep r lo' hi') P3 (List.nil_sublist _) q3⟩
      rw [r.length] at hw
      rw [cut_whole xs lo' hi' hw] at q3
      exact VP.flat (d := .tup xs) S3 ⟨a, vs, rfl, sq, r⟩ q3
    · exact False.elim q3
  · split at q3
    · rename_i xs e
      split at q3
      · rename_i hn
        obtain ⟨a, vs, G, rfl, r, sub, sq⟩ := list_rep S3 R3 e
        obtain rfl := r.noT hn
        refine .inl ⟨a, vs, rfl, by rw [hX.K]; exact sq, fun p hp => ?_⟩
        exact VP.list S3 hp (cut_rep r lo' hi') P3 (List.nil_sublist _) q3
      · exact False.elim q3
    · exact False.elim q3
/-! ### displays -/
theorem xd_tup {es : List Expr} {k : Nat} {rs : Slots → Sto → Res (List D)} (h : PA X es (tDs W B rs)) : PE X (.Tuple es k pos) (tD W B fun s st => (rs s st).bind fun ds st => if ds.length ≤ line then .ok (.tup ds) st else .bad) := by
  refine peD (xe_tup h) fun σ H Q ⟨s, st, m, cs, RS, S, q⟩ => ?_
  refine stepDs S RS .nil q fun ds st1 vs H1 m1 F1 g1 S1 RS1 R1 P1 q1 => ?_
  split at q1
  · rename_i hl
    exact ⟨by rw [← line_eq, R1.length]; exact hl, VP.tuple S1 R1 P1 (by simp) q1⟩
  · exact False.elim q1
theorem xd_lst {es : List Expr} {rs : Slots → Sto → Res (List D)} (h : PA X es (tDs W B rs)) : PE X (.List es pos) (tD W B fun s st => (rs s st).bind fun ds st => if ds.length ≤ line then .ok (.tl ds) st else .bad) := by
  refine peD (pe_lst h) fun σ H Q ⟨s, st, m, cs, RS, S, q⟩ => ?_
  refine stepDs S RS .nil q fun ds st1 vs H1 m1 F1 g1 S1 RS1 R1 P1 q1 => ?_
  split at q1
  · rename_i hl
    exact ⟨by rw [← line_eq, R1.length]; exact hl, fun p hp => VP.list S1 hp R1 P1 (by simp) q1⟩
  · exact False.elim q1
/-! ### built-in functions -/
/-- a function of values that is called by name -/
def CallD (X : Cx) (W : Wd) (f : Value) (g : List D → Sto → Res D) : Prop :=
  ∃ r : List V → Hp → VK → Prop, CallR X f r ∧ ∀ {m : List Addr} {cs : List Nat} {st : Sto} {H : Hp} {ds : List D} {vs : List V} {F : List Addr} {Q : VK} {E : XK},
    Sat W m cs st H → RepVs W m H ds vs F → Pend m H F → RP (VP W cs Q) cs E m H F (g ds st) → r vs H Q
theorem calls {σ : L2.St} {H : Hp} {Q : VK} {r : List V → Hp → VK → Prop} {rs : Slots → Sto → Res (List D)} {g : List D → Sto → Res D} (q : tD W B (fun s st => (rs s st).bind fun ds st => g ds st) σ H Q)
    (h : ∀ {m : List Addr} {cs : List Nat} {st : Sto} {H : Hp} {ds : List D} {vs : List V} {F : List Addr} {Q : VK} {E : XK}, Sat W m cs st H → RepVs W m H ds vs F → Pend m H F → RP (VP W cs Q) cs E m H F (g ds st) → r vs H Q) :
    tDs W B rs σ H fun vs H1 => r vs H1 Q := by
  obtain ⟨s, st, m, cs, RS, S, q⟩ := q
  refine stepDs S RS .nil q fun ds st1 vs H1 m1 F1 g1 S1 RS1 R1 P1 q1 => ?_
  exact h S1 R1 (by simpa using P1) (by simpa using q1)
theorem xd_blt {id : String} {x : Str} {p : Pos} {e : Expr} {es : List Expr} {rs : Slots → Sto → Res (List D)} {g : List D → Sto → Res D} (hc : CallD X W (.builtin id) g) (hg : Gl X x) (hm : X.mg x = none) (hv : bootBuiltins x = some (.builtin id)) (h : PA X (e :: es) (tDs W B rs))
    (hn : x ≠ "__name__") (hdb : (x == ("__debug__" : Str)) = false) (he : starEach (e :: es) X.env = (false, eval e X.env) :: starEach es X.env) (hpl : (backTo pos (starEach es X.env)).any (·.1) = false) :
    PE X (.Call (.Name x p) (e :: es) [] pos) (tD W B fun s st => (rs s st).bind fun ds st => g ds st) := by
  obtain ⟨r, h1, h2⟩ := hc
  exact peD (pe_callB h1 hg hm hv h hn hdb he hpl) fun σ H Q q => calls q h2
theorem xd_ty {T : String} {x : Str} {p : Pos} {e : Expr} {es : List Expr} {rs : Slots → Sto → Res (List D)} {g : List D → Sto → Res D} (hc : CallD X W (.type T) g) (hg : Gl X x) (hm : X.mg x = none) (hv : bootBuiltins x = some (.type T)) (h : PA X (e :: es) (tDs W B rs))
    (hn : x ≠ "__name__") (hdb : (x == ("__debug__" : Str)) = false) (he : starEach (e :: es) X.env = (false, eval e X.env) :: starEach es X.env) (hpl : (backTo pos (starEach es X.env)).any (·.1) = false) :
    PE X (.Call (.Name x p) (e :: es) [] pos) (tD W B fun s st => (rs s st).bind fun ds st => g ds st) := by
  obtain ⟨r, h1, h2⟩ := hc
  exact peD (pe_callTy h1 hg hm hv h hn hdb he hpl) fun σ H Q q => calls q h2
end
end DV
set_option Elab.async false
set_option linter.all false
set_option maxRecDepth 100000
set_option maxHeartbeats 4000000
/-! DF: values laid into the store; statements. -/
namespace DV
open PySem PySem.Spec PyProof.Rows L2
section
variable {W : Wd} {cs : List Nat} {H : Hp}
/-- an object is added to the store -/
theorem Sat.push {m : List Addr} {o : List MO} {e : Option Nat} {a : Addr} {x : MO} (S : Sat W m cs ⟨o, e⟩ H) (ha : a ∉ m) (R : RepO W m H a x) : Sat W (m ++ [a]) cs ⟨o ++ [x], e⟩ H := by
  refine ⟨by simpa using S.len, List.nodup_append.mpr ⟨S.nd, by simp, fun b hb c hc z => ?_⟩, fun l b y h1 h2 => ?_, fun n hn => ?_⟩
  · rw [List.mem_singleton.mp hc] at z
    subst z
    exact ha hb
  · have hlen : m.length = o.length := S.len
    by_cases hl : l < m.length
    · rw [List.getElem?_append_left hl] at h1
      have h2' : (o ++ [x])[l]? = some y := h2
      rw [List.getElem?_append_left (by omega)] at h2'
      exact (S.obj l b y h1 h2').app _
    · have h2' : (o ++ [x])[l]? = some y := h2
      rw [List.getElem?_append_right (by omega)] at h1 h2'
      rw [← hlen] at h2'
      cases e1 : l - m.length with
      | zero =>
        rw [e1] at h1 h2'
        cases h1
        cases h2'
        exact R.app _
      | succ k => rw [e1] at h1; cases h1
  · obtain ⟨h1, h2⟩ := S.cut n hn
    refine ⟨?_, fun hc l y hl hy => ?_⟩
    · show n ≤ (o ++ [x]).length
      have h1' : n ≤ o.length := h1
      rw [List.length_append]
      omega
    · have hy' : (o ++ [x])[l]? = some y := hy
      have h1' : n ≤ o.length := h1
      rw [List.getElem?_append_left (by omega)] at hy'
      exact h2 hc l y hl hy'
mutual
theorem settle_rep {e : Option Nat} : ∀ {d : D} {o : List MO} {m : List Addr} {v : V} {F : List Addr}, Sat W m cs ⟨o, e⟩ H → RepV W m H d v F → F.Nodup → (∀ a ∈ F, a ∉ m) →
    Sat W (m ++ F) cs ⟨(settle d o).2, e⟩ H ∧ RepV W (m ++ F) H (settle d o).1 v []
  | .non, o, m, v, F, S, R, _, _ => by obtain ⟨rfl, rfl⟩ := R; simpa [settle] using ⟨S, ⟨rfl, rfl⟩⟩
  | .bl b, o, m, v, F, S, R, _, _ => by obtain ⟨rfl, rfl⟩ := R; simpa [settle] using ⟨S, ⟨rfl, rfl⟩⟩
  | .int b, o, m, v, F, S, R, _, _ => by obtain ⟨rfl, rfl⟩ := R; simpa [settle] using ⟨S, ⟨rfl, rfl⟩⟩
  | .str b, o, m, v, F, S, R, _, _ => by obtain ⟨rfl, rfl⟩ := R; simpa [settle] using ⟨S, ⟨rfl, rfl⟩⟩
  | .exn b, o, m, v, F, S, R, _, _ => False.elim R
  | .loc l, o, m, v, F, S, R, _, _ => by
    obtain ⟨a, rfl, h, rfl⟩ := R
    simpa [settle] using ⟨S, ⟨a, rfl, h, rfl⟩⟩
  | .fro xs, o, m, v, F, S, R, _, _ => by
    obtain ⟨a, vs, rfl, rfl, h, r⟩ := R
    simpa [settle] using ⟨S, ⟨a, vs, rfl, rfl, h, r⟩⟩
  | .tup xs, o, m, v, F, S, R, nd, out => by
    obtain ⟨a, vs, rfl, sq, r⟩ := R
    obtain ⟨h1, h2⟩ := settles_rep S r nd out
    simp only [settle]
    exact ⟨h1, a, vs, rfl, sq, h2⟩
  | .tl xs, o, m, v, F, S, R, nd, out => by
    obtain ⟨a, vs, G, rfl, rfl, sq, r⟩ := R
    obtain ⟨n1, n2, n3⟩ := List.nodup_append.mp nd
    obtain ⟨h1, h2⟩ := settles_rep S r n1 fun b hb => out b (List.mem_append_left _ hb)
    have ha : a ∉ m ++ G := fun z => by
      rcases List.mem_append.mp z with z | z
      · exact out a (by simp) z
      · exact n3 a z a (by simp) rfl
    simp only [settle]
    rw [← List.append_assoc]
    refine ⟨h1.push ha ⟨vs, sq, h2⟩, a, rfl, ?_, rfl⟩
    have hl : (m ++ G).length = (settles xs o).2.length := h1.len
    rw [← hl, List.getElem?_append_right (Nat.le_refl _), Nat.sub_self]
    rfl
  | .td ks xs, o, m, v, F, S, R, nd, out => by
    obtain ⟨a, u, kks, vs, G, rfl, rfl, sq, dh, rk, r⟩ := R
    obtain ⟨n1, n2, n3⟩ := List.nodup_append.mp nd
    obtain ⟨h1, h2⟩ := settles_rep S r n1 fun b hb => out b (List.mem_append_left _ hb)
    have ha : a ∉ m ++ G := fun z => by
      rcases List.mem_append.mp z with z | z
      · exact out a (by simp) z
      · exact n3 a z a (by simp) rfl
    simp only [settle]
    rw [← List.append_assoc]
    refine ⟨h1.push ha ⟨u, kks, vs, sq, dh, rk.app _, h2⟩, a, rfl, ?_, rfl⟩
    have hl : (m ++ G).length = (settles xs o).2.length := h1.len
    rw [← hl, List.getElem?_append_right (Nat.le_refl _), Nat.sub_self]
    rfl
theorem settles_rep {e : Option Nat} : ∀ {ds : List D} {o : List MO} {m : List Addr} {vs : List V} {F : List Addr}, Sat W m cs ⟨o, e⟩ H → RepVs W m H ds vs F → F.Nodup → (∀ a ∈ F, a ∉ m) →
    Sat W (m ++ F) cs ⟨(settles ds o).2, e⟩ H ∧ RepVs W (m ++ F) H (settles ds o).1 vs []
  | [], o, m, vs, F, S, R, _, _ => by obtain ⟨rfl, rfl⟩ := R; simpa [settles] using ⟨S, ⟨rfl, rfl⟩⟩
  | x :: xs, o, m, vs, F, S, R, nd, out => by
    obtain ⟨v, ws, F1, F2, rfl, rfl, r, rs⟩ := R
    obtain ⟨n1, n2, n3⟩ := List.nodup_append.mp nd
    obtain ⟨h1, h2⟩ := settle_rep S r n1 fun b hb => out b (List.mem_append_left _ hb)
    obtain ⟨h3, h4⟩ := settles_rep h1 (rs.app F1) n2 fun b hb z => by
      rcases List.mem_append.mp z with z | z
      · exact out b (List.mem_append_right _ hb) z
      · exact n3 b z b hb rfl
    simp only [settles]
    rw [← List.append_assoc]
    exact ⟨h3, v, ws, [], [], rfl, rfl, h2.app F2, h4⟩
end
theorem stl_rep {d : D} {st : Sto} {m : List Addr} {v : V} {F : List Addr} (S : Sat W m cs st H) (R : RepV W m H d v F) (P : F.Nodup) (out : ∀ a ∈ F, a ∉ m) :
    Sat W (m ++ F) cs (stl d st).2 H ∧ RepV W (m ++ F) H (stl d st).1 v [] := by
  unfold stl
  by_cases h : d.noT = true
  · rw [if_pos h]
    obtain rfl := R.noT h
    simpa using ⟨S, R⟩
  · rw [if_neg h]
    exact settle_rep (o := st.objs) (e := st.esc) S R P out
theorem Grow.settle {m0 m1 : List Addr} {H0 H1 : Hp} {F : List Addr} (g : Grow m0 H0 m1 H1) (hF : ∀ a ∈ F, H0 a = none) : Grow m0 H0 (m1 ++ F) H1 := by
  obtain ⟨n, rfl, hn⟩ := g.ext
  refine ⟨⟨n ++ F, by rw [List.append_assoc], fun a ha => ?_⟩, g.keep⟩
  rcases List.mem_append.mp ha with z | z
  · exact hn a z
  · exact hF a z
end
/-! ### what is wanted behind a statement -/
section
variable {W : Wd} {B : WX} {X : Cx} {pos : Pos}
def SRP (W : Wd) (B : WX) (cs : List Nat) (D : Ends) (m : List Addr) (H : Hp) (G : List Addr) (r : SRes) : Prop :=
  match r with
  | .nxt s' st' => ∀ σ' H' m', Grow m H m' H' → Sat W m' cs st' H' → RepS W m' H' s' σ' → D.nx σ' H'
  | .brk s' st' => ∀ σ' H' m', Grow m H m' H' → Sat W m' cs st' H' → RepS W m' H' s' σ' → D.bk σ' H'
  | .cnt s' st' => ∀ σ' H' m', Grow m H m' H' → Sat W m' cs st' H' → RepS W m' H' s' σ' → D.ct σ' H'
  | .ret d st' => ∀ v H' m' F, Grow m H m' H' → Sat W m' cs st' H' → RepV W m' H' d v F → Tmp m' H G F → D.rt v H'
  | .exc c s' st' => ∀ σ' H' m', Grow m H m' H' → Sat W m' cs st' H' → RepS W m' H' s' σ' → B (W.exc c) none σ' H'
  | .bad => False
theorem SRP.mono {cs : List Nat} {D : Ends} {m m1 : List Addr} {H H1 : Hp} {G F : List Addr} {r : SRes} (M : MutM m1 H1) (g : Grow m H m1 H1) (hF : ∀ a ∈ F, H a = none) (h : SRP W B cs D m H G r) : SRP W B cs D m1 H1 (G ++ F) r := by
  cases r with
  | nxt s' st' => exact fun σ' H' m' g' S R => h σ' H' m' (g.trans M g') S R
  | brk s' st' => exact fun σ' H' m' g' S R => h σ' H' m' (g.trans M g') S R
  | cnt s' st' => exact fun σ' H' m' g' S R => h σ' H' m' (g.trans M g') S R
  | ret d st' => exact fun v H' m' F' g' S R T => h v H' m' F' (g.trans M g') S R (T.from M g hF)
  | exc c s' st' => exact fun σ' H' m' g' S R => h σ' H' m' (g.trans M g') S R
  | bad => exact h
def tDS (W : Wd) (B : WX) (r : Slots → Sto → SRes) : TS := fun D σ H => ∃ s st m cs, RepS W m H s σ ∧ Sat W m cs st H ∧ SRP W B cs D m H [] (r s st)
theorem psD {e : Stmt} {t t' : TS} (h : PS X e t) (k : ∀ D σ H, t' D σ H → t D σ H) : PS X e t' := ⟨fun pins s σ H D I q => h.run pins s σ H D I (k D σ H q)⟩
theorem pssD {e : List Stmt} {t t' : TS} (h : PSs X e t) (k : ∀ D σ H, t' D σ H → t D σ H) : PSs X e t' := ⟨fun pins s σ H D I q => h.run pins s σ H D I (k D σ H q)⟩
section
variable {m : List Addr} {cs : List Nat} {st : Sto} {H : Hp} {s : Slots} {σ : L2.St} {G : List Addr} {D : Ends}
/-- an expression ahead of the rest of a statement -/
theorem stepS {ra : Slots → Sto → Res DV.D} {f : DV.D → Sto → SRes} {Q' : VK} (S : Sat W m cs st H) (RS : RepS W m H s σ) (PG : Pend m H G) (h : SRP W B cs D m H G ((ra s st).stm s f))
    (k : ∀ d st1 v H1 m1 F1, Grow m H m1 H1 → Sat W m1 cs st1 H1 → RepS W m1 H1 s σ → RepV W m1 H1 d v F1 → Tmp m1 H [] F1 → Pend m1 H1 (G ++ F1) → SRP W B cs D m H G (f d st1) → Q' v H1) : tD W B ra σ H Q' := by
  refine ⟨s, st, m, cs, RS, S, ?_⟩
  cases e : ra s st with
  | ok d st1 =>
    rw [e] at h
    intro v H1 m1 F1 g1 S1 R1 T1
    exact k d st1 v H1 m1 F1 g1 S1 (RS.grow S.mut g1) R1 T1 (PG.add (W := W) g1 T1 R1.there) h
  | exc c st1 =>
    rw [e] at h
    exact fun H' m' g' S' => h σ H' m' g' S' (RS.grow S.mut g')
  | bad => rw [e] at h; exact h
theorem stepSt {ra : Slots → Sto → Res Bool} {f : Bool → Sto → SRes} {Q' : Bool → Hp → Prop} (S : Sat W m cs st H) (RS : RepS W m H s σ) (h : SRP W B cs D m H G ((ra s st).stm s f))
    (k : ∀ d st1 H1 m1, Grow m H m1 H1 → Sat W m1 cs st1 H1 → RepS W m1 H1 s σ → SRP W B cs D m H G (f d st1) → Q' d H1) : tDt W B ra σ H Q' := by
  refine ⟨s, st, m, cs, RS, S, ?_⟩
  cases e : ra s st with
  | ok d st1 =>
    rw [e] at h
    exact fun H1 m1 g1 S1 => k d st1 H1 m1 g1 S1 (RS.grow S.mut g1) h
  | exc c st1 =>
    rw [e] at h
    exact fun H' m' g' S' => h σ H' m' g' S' (RS.grow S.mut g')
  | bad => rw [e] at h; exact h
end
theorem RepS.set {m : List Addr} {H : Hp} {s : Slots} {σ : L2.St} {d : DV.D} {v : V} (h : RepS W m H s σ) (i : Nat) (r : RepV W m H d v []) : RepS W m H (s.set i (some d)) (σ.set i (some v)) := by
  refine ⟨by simpa using h.1, fun j e q => ?_⟩
  by_cases hj : i = j
  · subst hj
    by_cases hl : i < s.length
    · rw [List.getElem?_set_self hl] at q
      cases q
      exact ⟨v, by rw [List.getElem?_set_self (by rw [← h.1]; exact hl)], r⟩
    · rw [List.getElem?_eq_none (by simpa using hl)] at q
      cases q
  · rw [List.getElem?_set_ne hj] at q
    obtain ⟨u, h1, h2⟩ := h.2 j e q
    exact ⟨u, by rw [List.getElem?_set_ne hj]; exact h1, h2⟩
/-! ### blocks, small statements -/
theorem xb_nil : PSs X [] (tDS W B fun s st => .nxt s st) := by
  refine pssD pss_nil fun D σ H ⟨s, st, m, cs, RS, S, q⟩ => ?_
  exact q σ H m .refl S RS
theorem xb_cons {x : Stmt} {xs : List Stmt} {r rs : Slots → Sto → SRes} (h1 : PS X x (tDS W B r)) (h2 : PSs X xs (tDS W B rs)) : PSs X (x :: xs) (tDS W B fun s st => match r s st with
    | .nxt s' st' => rs s' st'
    | r => r) := by
  refine pssD (pss_cons h1 h2) fun D σ H ⟨s, st, m, cs, RS, S, q⟩ => ?_
  refine ⟨s, st, m, cs, RS, S, ?_⟩
  dsimp only at q
  cases e : r s st with
  | nxt s' st' =>
    rw [e] at q
    refine fun σ' H' m' g' S' R' => ⟨s', st', m', cs, R', S', ?_⟩
    have q' := SRP.mono (F := []) S'.mut g' (fun a ha => nomatch ha) q
    simpa using q'
  | brk s' st' => rw [e] at q; exact q
  | cnt s' st' => rw [e] at q; exact q
  | ret d st' => rw [e] at q; exact q
  | exc c s' st' => rw [e] at q; exact q
  | bad => rw [e] at q; exact q
theorem xs_pass : PS X (.Pass pos) (tDS W B fun s st => .nxt s st) := by
  refine psD ps_pass fun D σ H ⟨s, st, m, cs, RS, S, q⟩ => ?_
  exact q σ H m .refl S RS
theorem xs_expr {e : Expr} {ra : Slots → Sto → Res DV.D} (he : PE X e (tD W B ra)) (hs : swapsWith e none pos.line X.env = pure false) : PS X (.Expr e pos) (tDS W B fun s st => (ra s st).stm s fun _ st => .nxt s st) := by
  refine psD (ps_expr he hs) fun D σ H ⟨s, st, m, cs, RS, S, q⟩ => ?_
  refine stepS S RS .nil q fun d st1 v H1 m1 F1 g1 S1 RS1 R1 T1 P1 q1 => ?_
  exact q1 σ H1 m1 g1 S1 RS1
theorem xs_ret {e : Expr} {ra : Slots → Sto → Res DV.D} (he : PE X e (tD W B ra)) : PS X (.Return (some e) pos) (tDS W B fun s st => (ra s st).stm s fun d st => .ret d st) := by
  refine psD (ps_ret he) fun D σ H ⟨s, st, m, cs, RS, S, q⟩ => ?_
  refine stepS S RS .nil q fun d st1 v H1 m1 F1 g1 S1 RS1 R1 T1 P1 q1 => ?_
  exact q1 v H1 m1 F1 g1 S1 R1 T1
theorem xs_retN : PS X (.Return none pos) (tDS W B fun _ st => .ret .non st) := by
  refine psD ps_retN fun D σ H ⟨s, st, m, cs, RS, S, q⟩ => ?_
  exact q .non H m [] .refl S ⟨rfl, rfl⟩ ⟨List.nodup_nil, fun _ h => nomatch h⟩
theorem xs_if {c : Expr} {a b : List Stmt} {tc : Slots → Sto → Res Bool} {ra rb : Slots → Sto → SRes} (hc : PT X c (tDt W B tc)) (ha : PSs X a (tDS W B ra)) (hb : PSs X b (tDS W B rb)) :
    PS X (.If c a b pos) (tDS W B fun s st => (tc s st).stm s fun k st => if k then ra s st else rb s st) := by
  refine psD (ps_if hc ha hb) fun D σ H ⟨s, st, m, cs, RS, S, q⟩ => ?_
  refine stepSt S RS q fun k st1 H1 m1 g1 S1 RS1 q1 => ?_
  have q1 := SRP.mono (F := []) S1.mut g1 (fun a ha => nomatch ha) q1
  cases k with
  | true =>
    rw [if_pos rfl]
    exact ⟨s, st1, m1, cs, RS1, S1, q1⟩
  | false =>
    rw [if_neg Bool.false_ne_true]
    exact ⟨s, st1, m1, cs, RS1, S1, q1⟩
end
end DV
set_option Elab.async false
set_option linter.all false
set_option maxRecDepth 100000
set_option maxHeartbeats 4000000
/-! DG: stores into lists and dicts, targets, assignments, raise, while. -/
namespace DV
open PySem PySem.Spec PyProof.Rows L2
/-! ### the store changes -/
mutual
theorem noL_und (n : Nat) : ∀ {d : D}, d.noL = true → d.und n = true
  | .non, _ => rfl
  | .bl _, _ => rfl
  | .int _, _ => rfl
  | .str _, _ => rfl
  | .exn _, _ => rfl
  | .tup xs, h => by simpa [D.und] using noLs_unds n (ds := xs) (by simpa [D.noL] using h)
  | .tl xs, h => by simpa [D.und] using noLs_unds n (ds := xs) (by simpa [D.noL] using h)
  | .td ks vs, h => by
    simp only [D.noL, Bool.and_eq_true] at h
    simp [D.und, noLs_unds n h.1, noLs_unds n h.2]
  | .loc _, h => by simp [D.noL] at h
  | .fro xs, h => by simpa [D.und] using noLs_unds n (ds := xs) (by simpa [D.noL] using h)
theorem noLs_unds (n : Nat) : ∀ {ds : List D}, D.noLs ds = true → D.unds n ds = true
  | [], _ => rfl
  | x :: xs, h => by
    simp only [D.noLs, Bool.and_eq_true] at h
    simp [D.unds, noL_und n h.1, noLs_unds n h.2]
end
theorem unds_iff {n : Nat} {ds : List D} : D.unds n ds = true ↔ ∀ d ∈ ds, d.und n = true := by
  induction ds with
  | nil => simp [D.unds]
  | cons x xs ih => simp [D.unds, ih]
theorem noLs_iff {ds : List D} : D.noLs ds = true ↔ ∀ d ∈ ds, d.noL = true := by
  induction ds with
  | nil => simp [D.noLs]
  | cons x xs ih => simp [D.noLs, ih]
theorem noTs_iff {ds : List D} : D.noTs ds = true ↔ ∀ d ∈ ds, d.noT = true := by
  induction ds with
  | nil => simp [D.noTs]
  | cons x xs ih => simp [D.noTs, ih]
theorem cleanAt_min {e : Option Nat} {l n : Nat} (h : cleanAt (escMin e (some l)) n = true) : cleanAt e n = true ∧ n ≤ l := by
  cases e with
  | none => simpa [escMin, cleanAt] using h
  | some j =>
    have h' : n ≤ min j l := by simpa [escMin, cleanAt] using h
    exact ⟨by simpa [cleanAt] using Nat.le_trans h' (Nat.min_le_left _ _), Nat.le_trans h' (Nat.min_le_right _ _)⟩
section
variable {W : Wd} {m : List Addr} {cs : List Nat} {st : Sto} {H : Hp}
theorem Grow.mut {a : Addr} {o : HO} (h : a ∈ m) : Grow m H m (upd H a o) :=
  ⟨⟨[], by simp, by simp⟩, fun b u e n => by rw [upd_ne (fun z => n (by rw [z]; exact h))]; exact e⟩
theorem Sat.set {l : Nat} {a : Addr} {x old : MO} {o : HO} {ok : Bool} (S : Sat W m cs st H) (h : m[l]? = some a) (ho : st.objs[l]? = some old) (R : RepO W m (upd H a o) a x)
    (hok : ok = true → ∀ n, old.und n = true → x.und n = true) : Sat W m cs (st.put l x ok) (upd H a o) := by
  have mem : a ∈ m := List.mem_of_getElem? h
  have hl : l < st.objs.length := (List.getElem?_eq_some_iff.mp ho).1
  refine ⟨by simpa [Sto.put] using S.len, S.nd, fun j b y h1 h2 => ?_, fun n hn => ?_⟩
  · by_cases hj : l = j
    · subst hj
      have h2' : (st.objs.set l x)[l]? = some y := h2
      rw [List.getElem?_set_self hl] at h2'
      rw [h] at h1
      cases h1
      cases h2'
      exact R
    · have h2' : (st.objs.set l x)[j]? = some y := h2
      rw [List.getElem?_set_ne hj] at h2'
      have hb : b ≠ a := fun z => by
        subst z
        have hj2 : j < m.length := (List.getElem?_eq_some_iff.mp h1).1
        exact hj ((List.getElem?_inj (by rw [S.len]; exact hl) S.nd).mp (h.trans h1.symm))
      exact (S.obj j b y h1 h2').grow S.mut (.mut mem) (upd_ne hb)
  · obtain ⟨h1, h2⟩ := S.cut n hn
    refine ⟨by show n ≤ (st.objs.set l x).length; rw [List.length_set]; exact h1, fun hc j y hj hy => ?_⟩
    have hy' : (st.objs.set l x)[j]? = some y := hy
    by_cases hlj : l = j
    · subst hlj
      rw [List.getElem?_set_self hl] at hy'
      cases hy'
      cases ok with
      | true => exact hok rfl n (h2 hc l old hj ho)
      | false =>
        have hc' : cleanAt (escMin st.esc (some l)) n = true := hc
        have := (cleanAt_min hc').2
        omega
    · rw [List.getElem?_set_ne hlj] at hy'
      have hc' : cleanAt st.esc n = true := by
        cases ok with
        | true => exact hc
        | false => exact (cleanAt_min hc).1
      exact h2 hc' j y hj hy'
theorem RepVs.set {ds : List D} {vs : List V} {d : D} {v : V} : ∀ {j : Nat}, RepVs W m H ds vs [] → RepV W m H d v [] → RepVs W m H (ds.set j d) (vs.set j v) [] := by
  induction ds generalizing vs with
  | nil =>
    intro j h _
    obtain ⟨rfl, _⟩ := h
    exact ⟨rfl, rfl⟩
  | cons x xs ih =>
    intro j h r
    obtain ⟨u, ws, F1, F2, rfl, e2, r1, rs⟩ := h
    obtain ⟨rfl, rfl⟩ := List.append_eq_nil_iff.mp e2.symm
    cases j with
    | zero => exact ⟨v, ws, [], [], rfl, rfl, r, rs⟩
    | succ j => exact ⟨u, ws.set j v, [], [], rfl, rfl, r1, ih rs r⟩
theorem RepVs.nil_nil : RepVs W m H [] [] [] := ⟨rfl, rfl⟩
theorem RepVs.one {d : D} {v : V} {F : List Addr} (r : RepV W m H d v F) : RepVs W m H [d] [v] F := ⟨v, [], F, [], rfl, by simp, r, rfl, rfl⟩
theorem RepVs.snoc {ds : List D} {vs : List V} {d : D} {v : V} (h : RepVs W m H ds vs []) (r : RepV W m H d v []) : RepVs W m H (ds ++ [d]) (vs ++ [v]) [] := by
  have q := h.append (RepVs.one r)
  simpa using q
theorem unds_set {n j : Nat} {ds : List D} {d : D} (h : D.unds n ds = true) (hd : d.noL = true) : D.unds n (ds.set j d) = true := by
  rw [unds_iff] at h ⊢
  intro x hx
  rcases List.mem_or_eq_of_mem_set hx with z | z
  · exact h x z
  · rw [z]; exact noL_und n hd
theorem unds_snoc {n : Nat} {ds : List D} {d : D} (h : D.unds n ds = true) (hd : d.noL = true) : D.unds n (ds ++ [d]) = true := by
  rw [unds_iff] at h ⊢
  intro x hx
  rcases List.mem_append.mp hx with z | z
  · exact h x z
  · rw [List.mem_singleton.mp z]; exact noL_und n hd
/-! ### d[k] = v -/
theorem put_set {κ γ : Type} [DecidableEq κ] (f : κ → D) (hf : ∀ a b, f a = f b → a = b) (kf : γ → κ) (g : γ → γ) (k : κ) : ∀ (l : List γ) (j : Nat), (l.map fun p => f (kf p)).findIdx? (fun z => decide (z = f k)) = some j → (l.map kf).Nodup →
    ∃ x, l[j]? = some x ∧ kf x = k ∧ l.map (fun p => if kf p = k then g p else p) = l.set j (g x) := by
  intro l
  induction l with
  | nil => intro j h _; cases h
  | cons p l ih =>
    intro j h nd
    simp only [List.map_cons, List.nodup_cons] at nd
    rw [List.map_cons, List.findIdx?_cons] at h
    by_cases e : kf p = k
    · rw [decide_eq_true (by rw [e])] at h
      cases h
      refine ⟨p, rfl, e, ?_⟩
      have same : l.map (fun p => if kf p = k then g p else p) = l := by
        conv => rhs; rw [← List.map_id l]
        refine List.map_congr_left fun q hq => ?_
        rw [if_neg (fun z => nd.1 (by rw [e, ← z]; exact List.mem_map_of_mem hq))]
        rfl
      simp only [List.map_cons, if_pos e, List.set_cons_zero]
      rw [same]
    · rw [decide_eq_false (fun z => e (hf _ _ z))] at h
      obtain ⟨i, hi, rfl⟩ := Option.map_eq_some_iff.mp h
      obtain ⟨x, h1, h2, h3⟩ := ih i hi nd.2
      refine ⟨x, by simpa using h1, h2, ?_⟩
      simp only [List.map_cons, if_neg e, List.set_cons_succ]
      rw [h3]
theorem set_same {α β : Type} (f : α → β) (l : List α) (j : Nat) (x y : α) (h : l[j]? = some x) (e : f y = f x) : (l.set j y).map f = l.map f := by
  rw [List.map_set, e]
  refine List.ext_getElem? fun i => ?_
  by_cases hi : j = i
  · subst hi
    rw [List.getElem?_set]
    simp only [if_pos rfl, List.length_map]
    have hl := (List.getElem?_eq_some_iff.mp h).1
    rw [if_pos hl, List.getElem?_map, h]
    rfl
  · rw [List.getElem?_set_ne hi]
theorem any_find {κ γ : Type} [DecidableEq κ] (f : κ → D) (hf : ∀ a b, f a = f b → a = b) (kf : γ → κ) (k : κ) (l : List γ) : (l.any fun p => decide (kf p = k)) = ((l.map fun p => f (kf p)).findIdx? fun z => decide (z = f k)).isSome := by
  induction l with
  | nil => rfl
  | cons p l ih =>
    rw [List.any_cons, List.map_cons, List.findIdx?_cons]
    by_cases e : kf p = k
    · rw [decide_eq_true e, decide_eq_true (by rw [e])]
      rfl
    · rw [decide_eq_false e, decide_eq_false (fun z => e (hf _ _ z)), Bool.false_or, ih]
      simp
/-- the keys and the values behind a store -/
def putKs (ks : List D) (k : D) : List D := match ks.findIdx? fun z => decide (z = k) with
  | some _ => ks
  | none => ks ++ [k]
def putVs {α : Type} (ks : List D) (k : D) (vs : List α) (v : α) : List α := match ks.findIdx? fun z => decide (z = k) with
  | some j => vs.set j v
  | none => vs ++ [v]
theorem putK_ks {kvs : List (Key × V)} {k : Key} {v : V} (nd : (kvs.map (·.1)).Nodup) :
    (putK kvs k v).map (fun p => keyD p.1) = putKs (kvs.map fun p => keyD p.1) (keyD k) ∧ (putK kvs k v).map (fun p => kV p.1) = (if ((kvs.map fun p => keyD p.1).findIdx? fun z => decide (z = keyD k)).isSome then kvs.map (fun p => kV p.1) else kvs.map (fun p => kV p.1) ++ [kV k]) ∧
      (putK kvs k v).map (·.2) = putVs (kvs.map fun p => keyD p.1) (keyD k) (kvs.map (·.2)) v := by
  have ha := any_find keyD (fun _ _ => keyD_inj) (fun p : Key × V => p.1) k kvs
  unfold putK putKs putVs
  cases e : ((kvs.map fun p => keyD p.1).findIdx? fun z => decide (z = keyD k)) with
  | none =>
    rw [e] at ha
    rw [if_neg (by rw [ha]; exact Bool.false_ne_true)]
    simp
  | some j =>
    rw [e] at ha
    rw [if_pos (by rw [ha]; rfl)]
    obtain ⟨x, h1, h2, h3⟩ := put_set keyD (fun _ _ => keyD_inj) (fun p : Key × V => p.1) (fun p => (p.1, v)) k kvs j e nd
    rw [h3]
    refine ⟨set_same _ _ _ x _ h1 rfl, ?_, by rw [List.map_set]⟩
    show _ = kvs.map _
    exact set_same _ _ _ x _ h1 rfl
/-- a store into a list of triples -/
def put3 {α : Type} (kvs : List (NestedKey × Addr × α)) (k : NestedKey) (b : Addr) (v : α) : List (NestedKey × Addr × α) :=
  if (kvs.any fun p => decide (p.1 = k)) = true then kvs.map (fun p => if p.1 = k then (p.1, p.2.1, v) else p) else kvs ++ [(k, b, v)]
theorem put3_ks {α : Type} {kvs : List (NestedKey × Addr × α)} {k : NestedKey} {b : Addr} {v : α} (nd : (kvs.map (·.1)).Nodup) :
    (put3 kvs k b v).map (fun p => nkD p.1) = putKs (kvs.map fun p => nkD p.1) (nkD k) ∧ (put3 kvs k b v).map (fun p => V.ref p.2.1) = (if ((kvs.map fun p => nkD p.1).findIdx? fun z => decide (z = nkD k)).isSome then kvs.map (fun p => V.ref p.2.1) else kvs.map (fun p => V.ref p.2.1) ++ [V.ref b]) ∧
      (put3 kvs k b v).map (·.2.2) = putVs (kvs.map fun p => nkD p.1) (nkD k) (kvs.map (·.2.2)) v := by
  have ha := any_find nkD (fun _ _ => nkD_inj) (fun p : NestedKey × Addr × α => p.1) k kvs
  unfold put3 putKs putVs
  cases e : ((kvs.map fun p => nkD p.1).findIdx? fun z => decide (z = nkD k)) with
  | none =>
    rw [e] at ha
    rw [if_neg (by rw [ha]; exact Bool.false_ne_true)]
    simp
  | some j =>
    rw [e] at ha
    rw [if_pos (by rw [ha]; rfl)]
    obtain ⟨x, h1, h2, h3⟩ := put_set nkD (fun _ _ => nkD_inj) (fun p : NestedKey × Addr × α => p.1) (fun p => (p.1, p.2.1, v)) k kvs j e nd
    rw [h3]
    refine ⟨set_same _ _ _ x _ h1 rfl, ?_, by rw [List.map_set]⟩
    show _ = kvs.map _
    exact set_same _ _ _ x _ h1 rfl
theorem storedH_put3 (xs : List (NestedKey × Addr × Value)) (k : NestedKey) (b : Addr) (v : Value) : storedH xs k b v = put3 xs k b v := by
  have h : (atKey xs k).isSome = (xs.any fun p => decide (p.1 = k)) := by
    unfold atKey
    rw [Option.isSome_map]
    induction xs with
    | nil => rfl
    | cons p l ih =>
      rw [List.find?_cons, List.any_cons]
      by_cases e : p.1 = k
      · rw [decide_eq_true e]; rfl
      · rw [decide_eq_false e, Bool.false_or]; exact ih
  unfold storedH put3
  rw [h]
  rfl
theorem paired_put3 {kvs : List (NestedKey × Addr × V)} {xs : List (NestedKey × Addr × Value)} {k : NestedKey} {b : Addr} {v : V} {r : Value} (rv : RelV v r) (rel : Paired (fun (p : NestedKey × Addr × V) (q : NestedKey × Addr × Value) => p.1 = q.1 ∧ p.2.1 = q.2.1 ∧ RelV p.2.2 q.2.2) kvs xs) :
    Paired (fun (p : NestedKey × Addr × V) (q : NestedKey × Addr × Value) => p.1 = q.1 ∧ p.2.1 = q.2.1 ∧ RelV p.2.2 q.2.2) (put3 kvs k b v) (put3 xs k b r) := by
  have ha : (kvs.any fun p => decide (p.1 = k)) = (xs.any fun p => decide (p.1 = k)) := by
    induction rel with
    | nil => rfl
    | cons h _ ih => simp only [List.any_cons, h.1, ih]
  unfold put3
  rw [ha]
  split
  · clear ha
    rename_i hh; clear hh
    induction rel with
    | nil => exact .nil
    | @cons p q _ _ h _ ih =>
      refine .cons ?_ ih
      show _ = _ ∧ _
      dsimp only
      by_cases e : p.1 = k
      · rw [if_pos e, if_pos (by rw [← h.1]; exact e)]
        exact ⟨h.1, h.2.1, rv⟩
      · rw [if_neg e, if_neg (by rw [← h.1]; exact e)]
        exact h
  · clear ha
    rename_i hh; clear hh
    induction rel with
    | nil => exact .cons ⟨rfl, rfl, rv⟩ .nil
    | cons h _ ih => exact .cons h ih
theorem putKs_len {ks : List D} {k : D} (hl : (ks.findIdx? fun z => decide (z = k)) = none → ks.length < sizeLine) (h2 : ks.length ≤ sizeLine) : (putKs ks k).length ≤ sizeLine := by
  unfold putKs
  cases e : (ks.findIdx? fun z => decide (z = k)) with
  | none => have := hl e; simp; omega
  | some j => exact h2
theorem kV_repD (k : Key) : RepV W m H (keyD k) (kV k) [] := by cases k <;> exact ⟨rfl, rfl⟩
theorem kVs_rep {γ : Type} (l : List γ) (f : γ → Key) : RepVs W m H (l.map fun p => keyD (f p)) (l.map fun p => kV (f p)) [] := by
  induction l with
  | nil => exact ⟨rfl, rfl⟩
  | cons x xs ih => exact ⟨_, _, [], [], rfl, rfl, kV_repD _, ih⟩
variable {X : Cx} {pins : List (Addr × Obj)} {σ : L2.St} {s : Shared}
theorem kv_keys {κ : Type} {kvs : List (κ × V)} {vs : List (κ × Value)} (rel : KV kvs vs) : kvs.map (·.1) = vs.map (·.1) := by
  have q := rel
  induction q with
  | nil => rfl
  | cons h t ih => simp only [List.map_cons, h.1, ih t]
theorem dict_set {A : Around} {E : Value → Shared → Prop} {Q : Unit → Shared → Prop} {a : Addr} {ks : List D} {ws : List V} {k : D} {x v : V} {u r : Value} (hX : Fits X W) (hu : A.units + 9 < cLine) (M : MutM m H) (ha : a ∈ m) (I : Inv X pins σ H s) (D : DictAt W m H a ks ws)
    (ok : keyOk ks k = true) (R : RepV W m H k x []) (ru : RelV x u) (rv : RelV v r) (hl : (ks.findIdx? fun z => decide (z = k)) = none → ks.length < sizeLine)
    (h : ∀ s' o' kks', Inv X pins σ (upd H a o') s' → DicH W o' a (putKs ks k) kks' (putVs ks k ws v) → RepVs W m (upd H a o') (putKs ks k) kks' [] → Q () s') : wpAny (model X.prog X.w) A (setItem (.ref a) u r) Q E s := by
  rcases dict_kinds hX I D ok R ru with ⟨kvs, kk, e, rfl, rfl, rfl, rfl⟩ | ⟨b, nk, xs, rfl, rfl, N, rk, hnk, hdep⟩
  · obtain ⟨z, hd, vs, rel, dd⟩ := dk_of I.hok e
    have hz : vs.length ≤ sizeLine := by rw [← rel.length]; exact z
    have nd : (kvs.map (·.1)).Nodup := by
      obtain ⟨_, _, _, _, _, _, _, _, nd⟩ := id dd
      have e1 := kv_keys rel
      rw [e1]; exact nd
    obtain ⟨p1, p2, p3⟩ := putK_ks (v := v) (k := kk) nd
    have hlen : (putK kvs kk v).length ≤ sizeLine := by
      have q := putKs_len hl (by rw [List.length_map]; exact z)
      rw [← p1, List.length_map] at q
      exact q
    refine wpAny_setItem_pairs (hsz := hz) (kV_is ru) dd fun h' dd' hs => ?_
    have he : ∃ q, h'.get? a = some q := let ⟨q, _, _, hq, _⟩ := dd'; ⟨q, hq⟩
    refine h _ (.dK (putK kvs kk v)) _ (d_write I (by rw [e]; exact True.intro) hs he (dk_new hlen hd (rel.put kk rv) dd')) (.inl ⟨_, rfl, p1.symm, rfl, p3.symm⟩) ?_
    rw [← p1]
    exact kVs_rep _ _
  · cases ru
    have hm := D
    obtain ⟨o0, kks0, e0, dh0, h0⟩ := hm
    have eks : ∃ kvs : List (NestedKey × Addr × V), Paired (fun (p : NestedKey × Addr × V) (q : NestedKey × Addr × Value) => p.1 = q.1 ∧ p.2.1 = q.2.1 ∧ RelV p.2.2 q.2.2) kvs xs ∧ kvs.map (·.2.2) = ws ∧ kvs.map (fun p => nkD p.1) = ks ∧ kvs.map (fun p => V.ref p.2.1) = xs.map (fun p => V.ref p.2.1) ∧ kvs.map (·.1) = xs.map (·.1) := by
      have hv := N.vals
      have hk := N.keys
      subst hk
      clear N D e0 dh0 rk ok hdep hl h h0
      induction xs generalizing ws with
      | nil => cases hv; exact ⟨[], .nil, rfl, rfl, rfl, rfl⟩
      | cons p xs ih =>
        cases hv with
        | cons a b =>
          obtain ⟨kvs, h1, h2, h3, h4, h5⟩ := ih b
          refine ⟨(p.1, p.2.1, _) :: kvs, .cons ⟨rfl, rfl, a⟩ h1, ?_, ?_, ?_, ?_⟩
          · simp only [List.map_cons, h2]
          · simp only [List.map_cons, h3]
          · simp only [List.map_cons, h4]
          · simp only [List.map_cons, h5]
    obtain ⟨kvs, rel, e1, e2, e3, e4⟩ := eks
    subst e1 e2
    have nd : (kvs.map (·.1)).Nodup := by
      obtain ⟨_, _, _, _, _, _, _, _, nd⟩ := N.dict
      rw [e4]; exact nd
    obtain ⟨p1, p2, p3⟩ := put3_ks (v := v) (k := nk) (b := b) nd
    have hlen : (put3 kvs nk b v).length ≤ sizeLine := by
      have hx := N.len
      have hkx : kvs.length = xs.length := by have := congrArg List.length e4; simpa using this
      have q := putKs_len hl (by rw [List.length_map]; omega)
      rw [← p1, List.length_map] at q
      exact q
    refine wpAny_setItem_heap (hsz := N.len) (by show A.units + 1 + 8 < cLine; omega) N.key N.dict fun h' dd' hs => ?_
    have he : ∃ q, h'.get? a = some q := let ⟨q, _, _, hq, _⟩ := dd'; ⟨q, hq⟩
    have new : ObjOk X.prog X.w (upd H a (NstO W a (put3 kvs nk b v))) h' a (NstO W a (put3 kvs nk b v)) := by
      obtain ⟨q, es, ep, hq, h2, h3, h4, h5, h6⟩ := dd'
      refine ⟨⟨storedH xs nk b r, ?_, q, es, ep, hq, h2, h3, ?_, h6⟩, ⟨q, hq⟩, ?_⟩
      · rw [storedH_put3]; exact paired_put3 rv rel
      · rw [← hX.P, ← hX.w]; exact h4
      · rintro h1 h2 ⟨ys, r1, o, es, ep, g1, g2⟩ k
        exact ⟨ys, r1, o, es, ep, k o g1, g2⟩
    have ks' : RepVs W m (upd H a (NstO W a (put3 kvs nk b v))) (putKs (kvs.map fun p => nkD p.1) (nkD nk)) ((put3 kvs nk b v).map fun p => V.ref p.2.1) [] := by
      rw [p2]
      unfold putKs
      rw [← e3] at rk
      have rk' := rk.grow M (Grow.mut (o := NstO W a (put3 kvs nk b v)) ha) (by simp)
      cases ej : ((kvs.map fun p => nkD p.1).findIdx? fun z => decide (z = nkD nk)) with
      | some j => exact rk'
      | none => exact rk'.snoc (R.grow M (.mut ha) (by simp))
    refine h _ (NstO W a (put3 kvs nk b v)) _ (d_write I (by rw [e0]; exact dh0.mut) hs he new) (.inr ⟨_, rfl, p1.symm, rfl, p3.symm, hlen, N.sys, ?_, ?_⟩) ks'
    · unfold put3
      split
      · intro z
        rename_i hh
        rw [List.map_eq_nil_iff.mp z] at hh
        cases hh
      · simp
    · intro p hp
      have hmem : ∀ p ∈ kvs, (∃ l, p.1 = .tup l) ∧ p.1.depth ≤ 8 := fun p hp => by
        have : p.1 ∈ xs.map (·.1) := by rw [← e4]; exact List.mem_map_of_mem hp
        obtain ⟨q, hq, e⟩ := List.mem_map.mp this
        rw [← e]; exact hdep q hq
      unfold put3 at hp
      split at hp
      · obtain ⟨q, hq, rfl⟩ := List.mem_map.mp hp
        split
        · exact hmem q hq
        · exact hmem q hq
      · rcases List.mem_append.mp hp with z | z
        · exact hmem p z
        · rw [List.mem_singleton.mp z]
          exact hnk
end
end DV
set_option Elab.async false
set_option linter.all false
set_option autoImplicit false
set_option maxRecDepth 100000
set_option maxHeartbeats 4000000
/-! DG2: a dict display of one pair: a name's value, a number. -/
namespace DV
open PySem PySem.Spec PyProof.Rows L2
section
variable {W : Wd} {B : WX} {X : Cx} {pos : Pos}
theorem upd_twice {H : Hp} {p : Addr} {o1 o2 : HO} : upd (upd H p o1) p o2 = upd H p o2 := by
  funext a
  unfold upd
  split <;> rfl
theorem xd_dic1 {kx vx : Expr} {i : Nat} {n : Int} (hX : Fits X W) (hu : X.A.units + 65 < cLine) (hk : PE X kx (tVar i)) (hv : PE X vx (tC (.int n))) :
    PE X (.Dict [some kx] [vx] pos) (tD W B fun s st => match s[i]? with | some (some d) => dic1 d n st | _ => .bad) := by
  refine ⟨fun pins s σ H Q I ⟨sl, st, m, cs, RS, S, q⟩ => ?_⟩
  dsimp only at q
  cases e : sl[i]? with
  | none => rw [e] at q; exact False.elim q
  | some o =>
    cases o with
    | none => rw [e] at q; exact False.elim q
    | some d =>
      rw [e] at q
      obtain ⟨v, h1, h2⟩ := RS.2 i d e
      dsimp only at q
      unfold dic1 at q
      cases ok : keyOk [] d with
      | false => rw [ok] at q; exact False.elim q
      | true =>
        rw [ok, if_pos rfl] at q
        have out : ∀ p, H p = none → Tmp m H [] [p] := fun p hp => ⟨by simp, fun b hb => by
          rw [List.mem_singleton.mp hb]
          exact ⟨fresh_out S hp, .inr hp⟩⟩
        unfold keyOk at ok
        by_cases hl : d.leaf = true
        · obtain ⟨kk, rfl⟩ := leaf_of hl
          have ev := kV_rep h2
          subst ev
          refine (pe_disp (pps_cons hk hv pps_nil) rfl rfl (by simp) (show 1 ≤ 15 by decide)).run pins s σ H Q I fun p hp => ?_
          refine ⟨_, h1, upd_same, [(kk, .int n)], rfl, (show 1 ≤ 15 by decide), ?_⟩
          rw [upd_twice]
          have R : RepV W m (upd H p (.dK (mergeK [] [(kk, .int n)]))) (.td [keyD kk] [.int n]) (.ref p) [p] :=
            ⟨p, _, [kV kk], [.int n], [], rfl, rfl, upd_same, .inl ⟨[(kk, .int n)], rfl, rfl, rfl, rfl⟩, RepVs.one (kV_repD kk), ⟨_, _, [], [], rfl, rfl, ⟨rfl, rfl⟩, rfl, rfl⟩⟩
          exact VP.fresh S hp q R (out p hp)
        · rw [if_neg hl] at ok
          simp only [Bool.and_eq_true, decide_eq_true_eq] at ok
          obtain ⟨⟨⟨o1, o2⟩, o3⟩, o4⟩ := ok
          obtain ⟨nk, rfl, hdep⟩ := nk_of o2
          have hnk : (∃ l, nk = .tup l) ∧ nk.depth ≤ 8 := by
            refine ⟨?_, by rw [hdep]; exact o3⟩
            cases nk with
            | tup l => exact ⟨l, rfl⟩
            | none => simp [nkD, D.isTup] at o1
            | num i => simp [nkD, D.isTup] at o1
            | text i => simp [nkD, D.isTup] at o1
          have hb : ∃ b, v = .ref b := by
            cases nk with
            | tup l => obtain ⟨b, vs, e, _⟩ := h2; exact ⟨b, e⟩
            | none => simp [nkD, D.isTup] at o1
            | num i => simp [nkD, D.isTup] at o1
            | text i => simp [nkD, D.isTup] at o1
          obtain ⟨b, rfl⟩ := hb
          have hn := I.hok.fresh (Nat.le_refl s.heap.objs.size)
          have I1 := I.laid (a := s.heap.objs.size) (o := .dK []) (h' := s.heap.push { cls := .type "dict", data := .dict #[] }) (t' := s.toks) (fun _ _ q => Heap.get?_push_of_some _ q) (Nat.le_refl _) (dk_empty s.heap I.big)
          have rd : (nestedKind X.prog X.w).room X.A := by show X.A.units + 8 < cLine; omega
          have hshape : (evalEachOpt [some kx] X.env).zip ((evalEach [vx] X.env).map fun v => do let x ← v; standAt pos; pure x) = (pairTrees [some kx] [vx] X.env pos).map fun p => (some p.1, p.2) := zip_pairTrees [some kx] [vx] X.env pos rfl rfl
          have hlen := pairTrees_length [some kx] [vx] X.env pos rfl rfl
          have h0 : pairTrees [some kx] [vx] X.env pos ≠ [] := fun z => by rw [z] at hlen; simp at hlen
          rw [arm_eval_Dict, hshape, dictDisplay_pairs _ h0 (by rw [hlen]; show 1 < 17; decide)]
          refine wpAny_bind (wpAny_standAt (wpAny_bind (wpAny_subDictH (knd := nestedKind X.prog X.w) (Q := fun d s' => wpAny (model X.prog X.w) X.A (pure (Value.ref d)) _ X.xe s') rd (by rw [hlen]; show 1 ≤ 15; decide) ?_)))
          have S1 : Sat W m cs st (upd H s.heap.objs.size (.dK [])) := S.new hn
          refine thn ((pps_cons hk hv pps_nil).run pins _ σ _ (fun ps H2 => ps = [(.ref b, .int n)] ∧ H2 = upd H s.heap.objs.size (.dK [])) I1 ⟨_, h1, rfl, rfl⟩) fun ws s2 ⟨ps, H2, I2, rel, e1, e2⟩ => ?_
          subst e1 e2
          obtain ⟨k1, v1, hw, a1, a2⟩ : ∃ k1 v1, ws = [(k1, v1)] ∧ RelV (.ref b) k1 ∧ RelV (.int n) v1 := by
            cases rel with
            | cons a r => cases r; exact ⟨_, _, rfl, a.1, a.2⟩
          · subst hw
            cases a1
            have R2 : RepV W m (upd H s.heap.objs.size (.dK [])) (nkD nk) (.ref b) [] := h2.grow S.mut (.new hn) (by simp)
            have key : (nestedKind X.prog X.w).is s2.heap nk b := ⟨nested_is hX I2 R2 rfl, by rw [hdep]; exact o3⟩
            obtain ⟨_, hd, vs0, rel0, dd⟩ := dk_of I2.hok (show upd H s.heap.objs.size (.dK []) s.heap.objs.size = some (.dK []) from upd_same)
            cases rel0
            obtain ⟨oo, es, ep, g1, g2, g3, g4, g5, g6⟩ := dd
            refine ⟨[(nk, b, v1)], ⟨rfl, rfl, key, trivial⟩, ⟨oo, es, ep, g1, g2, g3, ?_, by simp, by simp⟩, fun h' tk dd' hs => wpAny_pure ?_⟩
            · cases hes : es.toList with
              | nil => rfl
              | cons p q => rw [hes] at g5; cases g5
            · have he : ∃ q, h'.get? s.heap.objs.size = some q := let ⟨q, _, _, hq, _⟩ := dd'; ⟨q, hq⟩
              have new : ObjOk X.prog X.w (upd (upd H s.heap.objs.size (.dK [])) s.heap.objs.size (NstO W s.heap.objs.size [(nk, b, .int n)])) h' s.heap.objs.size (NstO W s.heap.objs.size [(nk, b, .int n)]) := by
                obtain ⟨q, es, ep, hq, h2, h3, h4, h5, h6⟩ := dd'
                refine ⟨⟨[(nk, b, v1)], .cons ⟨rfl, rfl, a2⟩ .nil, q, es, ep, hq, h2, h3, ?_, by simp⟩, ⟨q, hq⟩, ?_⟩
                · rw [← hX.P, ← hX.w]; exact h4
                · rintro h1 h2 ⟨ys, r1, o, es, ep, g1, g2⟩ k
                  exact ⟨ys, r1, o, es, ep, k o g1, g2⟩
              refine ⟨.ref s.heap.objs.size, _, d_write I2 (by rw [upd_same]; exact True.intro) hs he new, rfl, ?_⟩
              rw [upd_twice]
              have R : RepV W m (upd H s.heap.objs.size (NstO W s.heap.objs.size [(nk, b, .int n)])) (.td [nkD nk] [.int n]) (.ref s.heap.objs.size) [s.heap.objs.size] :=
                ⟨s.heap.objs.size, _, [.ref b], [.int n], [], rfl, rfl, upd_same, .inr ⟨[(nk, b, .int n)], rfl, rfl, rfl, rfl, (show 1 ≤ sizeLine by decide), hd, by simp, by simpa using hnk⟩, RepVs.one (h2.grow S.mut (.new hn) (by simp)), ⟨_, _, [], [], rfl, rfl, ⟨rfl, rfl⟩, rfl, rfl⟩⟩
              exact VP.fresh S hn q R (out _ hn)
end
end DV
set_option Elab.async false
set_option linter.all false
set_option maxRecDepth 100000
set_option maxHeartbeats 4000000
/-! DH: targets, assignments, raise, while. -/
namespace DV
open PySem PySem.Spec PyProof.Rows L2
section
variable {W : Wd} {B : WX} {X : Cx} {pos : Pos}
mutual
theorem nk_noL : ∀ {d : D}, d.nk = true → d.noL = true
  | .non, _ => rfl
  | .int _, _ => rfl
  | .str _, _ => rfl
  | .tup xs, h => by simpa [D.noL] using nks_noLs (ds := xs) (by simpa [D.nk] using h)
  | .bl _, h => by simp [D.nk] at h
  | .exn _, h => by simp [D.nk] at h
  | .tl _, h => by simp [D.nk] at h
  | .td _ _, h => by simp [D.nk] at h
  | .loc _, h => by simp [D.nk] at h
  | .fro _, h => by simp [D.nk] at h
theorem nks_noLs : ∀ {ds : List D}, D.nks ds = true → D.noLs ds = true
  | [], _ => rfl
  | x :: xs, h => by
    simp only [D.nks, Bool.and_eq_true] at h
    simp [D.noLs, nk_noL h.1, nks_noLs h.2]
end
theorem keyOk_noL {ks : List D} {k : D} (h : keyOk ks k = true) : k.noL = true := by
  unfold keyOk at h
  by_cases hl : k.leaf = true
  · cases k <;> first
      | rfl
      | cases hl
  · rw [if_neg hl] at h
    simp only [Bool.and_eq_true] at h
    exact nk_noL h.1.1.2
/-! ### o[i] = v -/
def rSetDD (W : Wd) : TSet := fun o i v H Q => ∃ a m ks ws k, o = .ref a ∧ MutM m H ∧ a ∈ m ∧ DictAt W m H a ks ws ∧ keyOk ks k = true ∧ RepV W m H k i [] ∧ ((ks.findIdx? fun z => decide (z = k)) = none → ks.length < sizeLine) ∧
  ∀ o' kks', DicH W o' a (putKs ks k) kks' (putVs ks k ws v) → RepVs W m (upd H a o') (putKs ks k) kks' [] → Q (upd H a o')
theorem set_deep (hX : Fits X W) (hu : X.A.units + 65 < cLine) : PSet X (fun o i v H Q => rSetL o i v H Q ∨ rSetDD W o i v H Q) := by
  intro pins s σ H o i v ov iv u Q I ro ri rv h
  rcases h with h | ⟨a, m, ks, ws, k, rfl, M, ha, D, ok, R, hl, q⟩
  · exact set_list pins s σ H o i v ov iv u Q I ro ri rv h
  · cases ro
    exact dict_set hX (by omega) M ha I D ok R ri rv hl fun s' o' kks' I' dh rk => ⟨_, I', q o' kks' dh rk⟩
theorem set_rep {m : List Addr} {cs : List Nat} {st st' : Sto} {H : Hp} {o i d : D} {ov iv v : V} {F1 F2 : List Addr} {Q : Hp → Prop} (S : Sat W m cs st H) (R1 : RepV W m H o ov F1) (R2 : RepV W m H i iv F2) (R : RepV W m H d v []) (h : setIx o i d st = some st')
    (q : ∀ H', Grow m H m H' → Sat W m cs st' H' → Q H') : rSetL ov iv v H Q ∨ rSetDD W ov iv v H Q := by
  unfold setIx at h
  split at h
  · rename_i l
    obtain ⟨a, rfl, hm, rfl⟩ := R1
    have mem : a ∈ m := List.mem_of_getElem? hm
    split at h
    · rename_i xs hx
      obtain ⟨vs, hH, rs⟩ := S.obj l a _ hm hx
      split at h
      · rename_i k
        obtain ⟨rfl, rfl⟩ := R2
        split at h
        · rename_i j hj
          cases h
          refine .inl ⟨a, vs, k, j, rfl, rfl, hH, by rw [rs.length, ixN_eq]; exact hj, q _ (.mut mem) (S.set hm hx ⟨vs.set j v, upd_same, ?_⟩ fun hn n ho => unds_set ho hn)⟩
          exact (rs.set R).grow S.mut (.mut mem) (by simp)
        · cases h
      · cases h
    · rename_i ks xs hx
      obtain ⟨o, kks, ws, hH, dh, rk, rs⟩ := S.obj l a _ hm hx
      unfold dictFind at h
      by_cases ok : keyOk ks i = true
      · rw [if_pos ok] at h
        obtain rfl := leaf_key ok R2
        have fin : ∀ ks' xs' : List DV.D, ks' = putKs ks i → RepVs W m H xs' (putVs ks i ws v) [] → (d.noL = true → ∀ n, (D.unds n ks && D.unds n xs) = true → (D.unds n ks' && D.unds n xs') = true) → st' = st.put l (.dic ks' xs') d.noL → ((ks.findIdx? fun z => decide (z = i)) = none → ks.length < sizeLine) → rSetDD W (.ref a) iv v H Q := by
          rintro ks' xs' rfl rx hn rfl hl
          refine ⟨a, m, ks, ws, i, rfl, S.mut, mem, ⟨o, kks, hH, dh, rk⟩, ok, R2, hl, fun o' kks' dh' rk' => q _ (.mut mem) (S.set hm hx ⟨o', kks', _, upd_same, dh', rk', rx.grow S.mut (.mut mem) (by simp)⟩ hn)⟩
        cases ej : (ks.findIdx? fun z => decide (z = i)) with
        | some j =>
          rw [ej] at h
          cases h
          refine .inr (fin ks (xs.set j d) (by unfold putKs; rw [ej]) (by unfold putVs; rw [ej]; exact rs.set R) (fun hn n ho => ?_) rfl (fun z => by rw [ej] at z; cases z))
          simp only [Bool.and_eq_true] at ho ⊢
          exact ⟨ho.1, unds_set ho.2 hn⟩
        | none =>
          rw [ej] at h
          dsimp only at h
          split at h
          · rename_i hl
            cases h
            refine .inr (fin (ks ++ [i]) (xs ++ [d]) (by unfold putKs; rw [ej]) (by unfold putVs; rw [ej]; exact rs.snoc R) (fun hn n ho => ?_) rfl (fun _ => by rw [← line_eq]; exact hl))
            simp only [Bool.and_eq_true] at ho ⊢
            exact ⟨unds_snoc ho.1 (keyOk_noL ok), unds_snoc ho.2 hn⟩
          · cases h
      · rw [if_neg ok] at h
        cases h
    · cases h
  · cases h
/-! ### targets -/
def EndsN (Q : L2.St → Hp → Prop) : Ends := ⟨Q, fun _ _ => False, fun _ _ => False, fun _ _ => False⟩
/-- a target's reading -/
def tGD (W : Wd) (B : WX) (h : D → Slots → Sto → SRes) : TG := fun v σ H Q => ∃ d s st m cs, RepS W m H s σ ∧ Sat W m cs st H ∧ RepV W m H d v [] ∧ SRP W B cs (EndsN Q) m H [] (h d s st)
/-- a target of names -/
def tGP (W : Wd) (ns : List Nat) (h : D → Slots → Option Slots) : TG := fun v σ H Q => ∃ d s m, RepS W m H s σ ∧ RepV W m H d v [] ∧ match h d s with
  | some s' => ∀ σ', RepS W m H s' σ' → (∀ j, j ∉ ns → σ'[j]? = σ[j]?) → Q σ' H
  | none => False
def tGPs (W : Wd) (ns : List Nat) (h : List D → Slots → Option Slots) : TGs := fun vs σ H Q => ∃ ds s m, RepS W m H s σ ∧ RepVs W m H ds vs [] ∧ match h ds s with
  | some s' => ∀ σ', RepS W m H s' σ' → (∀ j, j ∉ ns → σ'[j]? = σ[j]?) → Q σ' H
  | none => False
/-- .. of several: the pair may be a passing one -/
def RepY (W : Wd) (m : List Addr) (H : Hp) (d : D) (v : V) : Prop := match d with
  | .tup xs => ∃ a vs, v = .ref a ∧ SqT W.K H a vs ∧ RepVs W m H xs vs []
  | d => RepV W m H d v []
def tGY (W : Wd) (ns : List Nat) (h : D → Slots → Option Slots) : TG := fun v σ H Q => ∃ d s m, RepS W m H s σ ∧ RepY W m H d v ∧ match h d s with
  | some s' => ∀ σ', RepS W m H s' σ' → (∀ j, j ∉ ns → σ'[j]? = σ[j]?) → Q σ' H
  | none => False
theorem RepV.toY {m : List Addr} {H : Hp} {d : DV.D} {v : V} (h : RepV W m H d v []) : RepY W m H d v := by
  cases d with
  | tup xs =>
    obtain ⟨a, vs, e, t, r⟩ := h
    exact ⟨a, vs, e, t.sq, r⟩
  | _ => exact h
theorem pgD {e : Expr} {t t' : TG} (h : PG X e t) (k : ∀ v σ H Q, t' v σ H Q → t v σ H Q) : PG X e t' := ⟨fun pins s σ H v u Q I r q => h.run pins s σ H v u Q I r (k v σ H Q q)⟩
theorem pgsD {e : List Expr} {t t' : TGs} (h : PGs X e t) (k : ∀ v σ H Q, t' v σ H Q → t v σ H Q) : PGs X e t' := ⟨fun pins s σ H v u Q I r q => h.run pins s σ H v u Q I r (k v σ H Q q)⟩
theorem xg_of {e : Expr} {ns : List Nat} {h : D → Slots → Option Slots} (g : PG X e (tGP W ns h)) : PG X e (tGD W B fun d s st => match h d s with
    | some s' => .nxt s' st
    | none => .bad) := by
  refine pgD g fun v σ H Q ⟨d, s, st, m, cs, RS, S, R, q⟩ => ⟨d, s, m, RS, R, ?_⟩
  dsimp only at q
  cases e : h d s with
  | none => rw [e] at q; exact q
  | some s' =>
    rw [e] at q
    exact fun σ' RS' _ => q σ' H m .refl S RS'
theorem xg_ofY {e : Expr} {ns : List Nat} {h : D → Slots → Option Slots} (g : PG X e (tGY W ns h)) : PG X e (tGP W ns h) := pgD g fun v σ H Q ⟨d, s, m, RS, R, q⟩ => ⟨d, s, m, RS, R.toY, q⟩
theorem xg_name {i : Nat} {x : Str} (hN : X.N.Nodup) (hi : X.N[i]? = some x) (hx : Loc X.env.scope x) (hf : X.fn x = true ∨ X.env.scope.names.lookup x = some .local) : PG X (.Name x pos) (tGP W [i] fun d s => some (s.set i (some d))) := by
  refine pgD (pg_name hN hi hx hf) fun v σ H Q ⟨d, s, m, RS, R, q⟩ => ?_
  exact q _ (RS.set i R) fun j hj => List.getElem?_set_ne fun z => hj (by simp [z])
theorem xgs_nil : PGs X [] (tGPs W [] fun ds s => match ds with
    | [] => some s
    | _ => none) := by
  refine pgsD pgs_nil fun vs σ H Q ⟨ds, s, m, RS, R, q⟩ => ?_
  cases ds with
  | nil => exact ⟨R.1, q σ RS fun _ _ => rfl⟩
  | cons _ _ => exact False.elim q
theorem xgs_cons {e : Expr} {es : List Expr} {n1 n2 : List Nat} {h : D → Slots → Option Slots} {hs : List D → Slots → Option Slots} (g1 : PG X e (tGP W n1 h)) (g2 : PGs X es (tGPs W n2 hs))
    (he : (assignEach (e :: es) X.env).map (·.2) = assign e X.env :: (assignEach es X.env).map (·.2)) : PGs X (e :: es) (tGPs W (n1 ++ n2) fun ds s => match ds with
    | d :: ds => match h d s with
      | some s' => hs ds s'
      | none => none
    | [] => none) := by
  refine pgsD (pgs_cons g1 g2 he) fun vs σ H Q ⟨ds, s, m, RS, R, q⟩ => ?_
  cases ds with
  | nil => exact False.elim q
  | cons d ds =>
    obtain ⟨v, ws, F1, F2, rfl, e2, r1, rs⟩ := R
    obtain ⟨rfl, rfl⟩ := List.append_eq_nil_iff.mp e2.symm
    refine ⟨v, ws, rfl, d, s, m, RS, r1, ?_⟩
    dsimp only at q
    cases e : h d s with
    | none => rw [e] at q; exact q
    | some s' =>
      rw [e] at q
      refine fun σ' RS' f1 => ⟨ds, s', m, RS', rs, ?_⟩
      dsimp only at q
      cases e3 : hs ds s' with
      | none => rw [e3] at q; exact q
      | some s3 =>
        rw [e3] at q
        exact fun σ3 RS3 f2 => q σ3 RS3 fun j hj => (f2 j fun z => hj (List.mem_append_right _ z)).trans (f1 j fun z => hj (List.mem_append_left _ z))
theorem xg_tup {es : List Expr} {k : Nat} {ns : List Nat} {hs : List D → Slots → Option Slots} (hX : Fits X W) (hc : X.calm = true) (g : PGs X es (tGPs W ns hs)) (hlen : ∀ ds s s', hs ds s = some s' → ds.length = es.length)
    (hn : (assignEach es X.env).length = es.length) (hst : (assignEach es X.env).findIdx? (·.1) = none) : PG X (.Tuple es k pos) (tGY W ns fun d s => match d with
    | .tup xs => hs xs s
    | _ => none) := by
  refine pgD (pg_tup hc g hn hst) fun v σ H Q ⟨d, s, m, RS, R, q⟩ => ?_
  cases d with
  | tup xs =>
    obtain ⟨a, vs, rfl, sq, r⟩ := R
    dsimp only at q
    cases e : hs xs s with
    | none => rw [e] at q; exact False.elim q
    | some s' =>
      refine ⟨a, vs, rfl, by rw [hX.K]; exact sq, by rw [r.length, hlen _ _ _ e], xs, s, m, RS, r, ?_⟩
      rw [e] at q ⊢
      exact q
  | _ => exact False.elim q
theorem xg_sub {o i : Expr} {ra rb : Slots → Sto → Res D} (hX : Fits X W) (hu : X.A.units + 65 < cLine) (ho : PE X o (tD W B ra)) (hi : PE X i (tD W B rb))
    (ha : ∀ v, assign (.Subscript o i pos) X.env v = (do
      let ov ← holding [v] (eval o X.env)
      let iv ← holding [v, ov] (eval i X.env)
      standAt pos
      holding [v, ov, iv] (setItem ov iv v)
      release [v, ov, iv] [])) :
    PG X (.Subscript o i pos) (tGD W B fun d s st => (ra s st).stm s fun ov st => (rb s st).stm s fun iv st => optS (setIx ov iv d st) fun st => .nxt s st) := by
  refine pgD (pg_sub ho hi (set_deep hX hu) ha) fun v σ H Q ⟨d, s, st, m, cs, RS, S, R, q⟩ => ?_
  refine stepS S RS .nil q fun ov st1 v1 H1 m1 F1 g1 S1 RS1 R1 T1 P1 q1 => ?_
  have q1 := SRP.mono (F := F1) S1.mut g1 (fun a ha => by
    rcases (T1.out a ha).2 with z | z
    · cases z
    · exact z) q1
  refine stepS S1 RS1 P1 q1 fun iv st2 v2 H2 m2 F2 g2 S2 RS2 R2 T2 P2 q2 => ?_
  have Rd := (R.grow S.mut g1 (by simp)).grow S1.mut g2 (by simp)
  have R1' := R1.grow S1.mut g2 fun a ha => (P1.out a (by simpa using ha)).1
  cases e : setIx ov iv d st2 with
  | none => rw [e] at q2; exact False.elim q2
  | some st3 =>
    rw [e] at q2
    exact set_rep S2 R1' R2 Rd e fun H' g' S' => q2 σ H' m2 (g2.trans S2.mut g') S' (RS2.grow S2.mut g')
/-! ### assignments -/
theorem xs_asg {tg e : Expr} {ra : Slots → Sto → Res D} {h : D → Slots → Sto → SRes} (he : PE X e (tD W B ra)) (hg : PG X tg (tGD W B h)) (hs : swapsWithSole [tg] e pos.line X.env = pure false) (hw : swappedStores [tg] e X.env = pure none)
    (h1 : (assignEach [tg] X.env).map (·.2) = [assign tg X.env]) (hn : ∀ d s st, match h d s st with | .nxt _ _ => True | .exc _ _ _ => True | .bad => True | _ => False) : PS X (.Assign [tg] e pos) (tDS W B fun s st => (ra s st).stm s fun d st => let p := stl d st; h p.1 s p.2) := by
  refine psD (ps_asg he hg hs hw h1) fun D σ H ⟨s, st, m, cs, RS, S, q⟩ => ?_
  refine stepS S RS .nil q fun d st1 v H1 m1 F1 g1 S1 RS1 R1 T1 P1 q1 => ?_
  obtain ⟨S2, R2⟩ := stl_rep S1 R1 T1.nd fun a ha => (T1.out a ha).1
  have g2 := g1.settle (F := F1) fun a ha => by
    rcases (T1.out a ha).2 with z | z
    · cases z
    · exact z
  have q2 := SRP.mono (F := []) S2.mut g2 (fun a ha => nomatch ha) q1
  refine ⟨(stl d st1).1, s, (stl d st1).2, m1 ++ F1, cs, ⟨RS1.1, fun i e z => ?_⟩, S2, R2, ?_⟩
  · obtain ⟨u, h1, h2⟩ := RS1.2 i e z
    exact ⟨u, h1, h2.app F1⟩
  · have hh := hn (stl d st1).1 s (stl d st1).2
    dsimp only at q2
    cases e : h (stl d st1).1 s (stl d st1).2 with
    | nxt s' st' =>
      rw [e] at q2
      exact q2
    | exc c s' st' =>
      rw [e] at q2
      exact q2
    | bad => rw [e] at q2; exact q2
    | brk s' st' => rw [e] at hh; exact False.elim hh
    | cnt s' st' => rw [e] at hh; exact False.elim hh
    | ret d st' => rw [e] at hh; exact False.elim hh
theorem stls_rep {ds : List D} {st : Sto} {cs : List Nat} {H : Hp} {m : List Addr} {vs : List V} {F : List Addr} (S : Sat W m cs st H) (R : RepVs W m H ds vs F) (P : F.Nodup) (out : ∀ a ∈ F, a ∉ m) :
    ∃ ds', (stl (.tup ds) st).1 = .tup ds' ∧ Sat W (m ++ F) cs (stl (.tup ds) st).2 H ∧ RepVs W (m ++ F) H ds' vs [] := by
  unfold stl
  by_cases h : (D.tup ds).noT = true
  · rw [if_pos h]
    obtain rfl := R.noT (by simpa [D.noT] using h)
    exact ⟨ds, rfl, by simpa using S, by simpa using R⟩
  · rw [if_neg h]
    obtain ⟨h1, h2⟩ := settles_rep (o := st.objs) (e := st.esc) S R P out
    exact ⟨_, rfl, h1, h2⟩
/-- a, b = x, y -/
theorem xs_par {i j : Nat} {x y : Str} {a b : Expr} {rs : Slots → Sto → Res (List D)} {px py pt : Pos} {kt k2 pt2} (hc : X.calm = true) (hN : X.N.Nodup) (hi : X.N[i]? = some x) (hj : X.N[j]? = some y) (hij : i ≠ j)
    (hx : X.env.scope.names.lookup x = some .local) (hy : X.env.scope.names.lookup y = some .local) (ha : PA X [a, b] (tDs W B rs))
    (hw : swappedStores [.Tuple [.Name x px, .Name y py] kt pt] (.Tuple [a, b] k2 pt2) X.env = pure (some [x, y]))
    (hs : swapsWithSole [.Tuple [.Name x px, .Name y py] kt pt] (.Tuple [a, b] k2 pt2) pos.line X.env = pure false) :
    PS X (.Assign [.Tuple [.Name x px, .Name y py] kt pt] (.Tuple [a, b] k2 pt2) pos) (tDS W B fun s st => ((rs s st).bind fun ds st => if ds.length ≤ line then .ok (.tup ds) st else .bad).stm s fun d st => let p := stl d st; match setTo (.tup [.nm i, .nm j]) p.1 s with
      | some s' => .nxt s' p.2
      | none => .bad) := by
  refine psD (ps_par hc hN hi hj hij hx hy ha hw hs) fun D σ H ⟨s, st, m, cs, RS, S, q⟩ => ?_
  refine ⟨s, st, m, cs, RS, S, ?_⟩
  dsimp only at q
  cases e : rs s st with
  | bad => rw [e] at q; exact q
  | exc c st1 =>
    rw [e] at q
    exact fun H' m' g' S' => q σ H' m' g' S' (RS.grow S.mut g')
  | ok ds st1 =>
    rw [e] at q
    intro vs H1 m1 F1 g1 S1 R1 T1
    have q1 : SRP W B cs D m H [] ((if ds.length ≤ line then Res.ok (DV.D.tup ds) st1 else .bad).stm s fun d st => let p := stl d st; match setTo (.tup [.nm i, .nm j]) p.1 s with
      | some s' => .nxt s' p.2
      | none => .bad) := q
    split at q1
    · obtain ⟨ds', e1, S2, R2⟩ := stls_rep S1 R1 T1.nd fun a ha => (T1.out a ha).1
      have g2 := g1.settle (F := F1) fun a ha => by
        rcases (T1.out a ha).2 with z | z
        · cases z
        · exact z
      have q2 : SRP W B cs D m H [] (match setTo (.tup [.nm i, .nm j]) (stl (.tup ds) st1).1 s with
        | some s' => .nxt s' (stl (.tup ds) st1).2
        | none => .bad) := q1
      rw [e1] at q2
      cases ds' with
      | nil => exact False.elim q2
      | cons d1 ds' =>
        obtain ⟨v1, ws, F1', F2', rfl, e2, r1, rs1⟩ := R2
        obtain ⟨rfl, rfl⟩ := List.append_eq_nil_iff.mp e2.symm
        cases ds' with
        | nil => exact False.elim q2
        | cons d2 ds' =>
          obtain ⟨v2, ws', F1', F2', rfl, e2, r2, rs2⟩ := rs1
          obtain ⟨rfl, rfl⟩ := List.append_eq_nil_iff.mp e2.symm
          cases ds' with
          | cons _ _ => exact False.elim q2
          | nil =>
            obtain ⟨rfl, _⟩ := rs2
            refine ⟨v1, v2, rfl, ?_⟩
            have RS2 : RepS W (m1 ++ F1) H1 s σ := ⟨RS.1, fun i e z => by
              obtain ⟨u, h1, h2⟩ := (RS.grow S.mut g1).2 i e z
              exact ⟨u, h1, h2.app F1⟩⟩
            exact q2 _ H1 _ g2 S2 ((RS2.set i r1).set j r2)
    · exact False.elim q1
/-- a, b, c = x, y, z -/
theorem xs_par3 {i j l : Nat} {x y z : Str} {a b c : Expr} {rs : Slots → Sto → Res (List D)} {px py pz pt : Pos} {kt k2 pt2} (hc : X.calm = true) (hN : X.N.Nodup) (hi : X.N[i]? = some x) (hj : X.N[j]? = some y) (hl : X.N[l]? = some z) (hij : i ≠ j) (hil : i ≠ l) (hjl : j ≠ l)
    (hx : X.env.scope.names.lookup x = some .local) (hy : X.env.scope.names.lookup y = some .local) (hz : X.env.scope.names.lookup z = some .local) (ha : PA X [a, b, c] (tDs W B rs))
    (hw : swappedStores [.Tuple [.Name x px, .Name y py, .Name z pz] kt pt] (.Tuple [a, b, c] k2 pt2) X.env = pure (some [x, y, z]))
    (hs : swapsWithSole [.Tuple [.Name x px, .Name y py, .Name z pz] kt pt] (.Tuple [a, b, c] k2 pt2) pos.line X.env = pure false) :
    PS X (.Assign [.Tuple [.Name x px, .Name y py, .Name z pz] kt pt] (.Tuple [a, b, c] k2 pt2) pos) (tDS W B fun s st => ((rs s st).bind fun ds st => if ds.length ≤ line then .ok (.tup ds) st else .bad).stm s fun d st => let p := stl d st; match setTo (.tup [.nm i, .nm j, .nm l]) p.1 s with
      | some s' => .nxt s' p.2
      | none => .bad) := by
  refine psD (ps_par3 hc hN hi hj hl hij hil hjl hx hy hz ha hw hs) fun D σ H ⟨s, st, m, cs, RS, S, q⟩ => ?_
  refine ⟨s, st, m, cs, RS, S, ?_⟩
  dsimp only at q
  cases e : rs s st with
  | bad => rw [e] at q; exact q
  | exc c st1 =>
    rw [e] at q
    exact fun H' m' g' S' => q σ H' m' g' S' (RS.grow S.mut g')
  | ok ds st1 =>
    rw [e] at q
    intro vs H1 m1 F1 g1 S1 R1 T1
    have q1 : SRP W B cs D m H [] ((if ds.length ≤ line then Res.ok (DV.D.tup ds) st1 else .bad).stm s fun d st => let p := stl d st; match setTo (.tup [.nm i, .nm j, .nm l]) p.1 s with
      | some s' => .nxt s' p.2
      | none => .bad) := q
    split at q1
    · obtain ⟨ds', e1, S2, R2⟩ := stls_rep S1 R1 T1.nd fun a ha => (T1.out a ha).1
      have g2 := g1.settle (F := F1) fun a ha => by
        rcases (T1.out a ha).2 with z | z
        · cases z
        · exact z
      have q2 : SRP W B cs D m H [] (match setTo (.tup [.nm i, .nm j, .nm l]) (stl (.tup ds) st1).1 s with
        | some s' => .nxt s' (stl (.tup ds) st1).2
        | none => .bad) := q1
      rw [e1] at q2
      cases ds' with
      | nil => exact False.elim q2
      | cons d1 ds' =>
        obtain ⟨v1, ws, F1', F2', rfl, e2, r1, rs1⟩ := R2
        obtain ⟨rfl, rfl⟩ := List.append_eq_nil_iff.mp e2.symm
        cases ds' with
        | nil => exact False.elim q2
        | cons d2 ds' =>
          obtain ⟨v2, ws', F1', F2', rfl, e2, r2, rs2⟩ := rs1
          obtain ⟨rfl, rfl⟩ := List.append_eq_nil_iff.mp e2.symm
          cases ds' with
          | nil => exact False.elim q2
          | cons d3 ds' =>
            obtain ⟨v3, ws', F1', F2', rfl, e2, r3, rs3⟩ := rs2
            obtain ⟨rfl, rfl⟩ := List.append_eq_nil_iff.mp e2.symm
            cases ds' with
            | cons _ _ => exact False.elim q2
            | nil =>
              obtain ⟨rfl, _⟩ := rs3
              refine ⟨v1, v2, v3, rfl, ?_⟩
              have RS2 : RepS W (m1 ++ F1) H1 s σ := ⟨RS.1, fun i e z => by
                obtain ⟨u, h1, h2⟩ := (RS.grow S.mut g1).2 i e z
                exact ⟨u, h1, h2.app F1⟩⟩
              exact q2 _ H1 _ g2 S2 (((RS2.set i r1).set j r2).set l r3)
    · exact False.elim q1
/-! ### raise, while -/
theorem xs_raise {e : Expr} {c : Nat} (hc : X.calm = true) (tk : Takes X B) (he : PMk X e (fun _ H Q => Q (W.exc c) none H)) : PS X (.Raise (some e) none pos) (tDS W B fun s st => .exc c s st) := by
  refine psD (ps_raise hc tk he) fun D σ H ⟨s, st, m, cs, RS, S, q⟩ => ?_
  exact q σ H m .refl S RS
theorem xs_while {c : Expr} {body : List Stmt} {tc : Slots → Sto → Res Bool} {rb : Slots → Sto → SRes} {n : Nat} (hp : PassesOwn (model X.prog X.w) X.A X.env X.xe) (hc : PT X c (tDt W B tc)) (hb : PSs X body (tDS W B rb)) :
    PS X (.While c body [] pos) (tDS W B fun s st => whlL tc rb n s st) := by
  refine psD (ps_while hp hc hb) fun D σ H ⟨s, st, m, cs, RS, S, q⟩ => ?_
  refine ⟨fun k σ H => ∃ s st m, RepS W m H s σ ∧ Sat W m cs st H ∧ SRP W B cs D m H [] (whlL tc rb k s st), ⟨n, s, st, m, RS, S, q⟩, ?_⟩
  rintro k σ H ⟨s, st, m, RS, S, q⟩
  cases k with
  | zero => exact False.elim q
  | succ k =>
    refine stepSt S RS q fun b st1 H1 m1 g1 S1 RS1 q1 => ?_
    have q1 := SRP.mono (F := []) S1.mut g1 (fun a ha => nomatch ha) q1
    cases b with
    | false =>
      rw [if_neg Bool.false_ne_true]
      exact q1 σ H1 m1 .refl S1 RS1
    | true =>
      rw [if_pos rfl]
      rw [if_pos rfl] at q1
      refine ⟨_, fun σ' H' h => ⟨k, Nat.lt_succ_self k, h⟩, s, st1, m1, cs, RS1, S1, ?_⟩
      have again : ∀ s2 st2, SRP W B cs D m1 H1 [] (whlL tc rb k s2 st2) → ∀ σ' H' m', Grow m1 H1 m' H' → Sat W m' cs st2 H' → RepS W m' H' s2 σ' → ∃ s st m, RepS W m H' s σ' ∧ Sat W m cs st H' ∧ SRP W B cs D m H' [] (whlL tc rb k s st) := fun s2 st2 q σ' H' m' g' S' R' =>
        ⟨s2, st2, m', R', S', by simpa using SRP.mono (F := []) S'.mut g' (fun a ha => nomatch ha) q⟩
      cases e : rb s st1 with
      | nxt s2 st2 => rw [e] at q1; exact again s2 st2 (by simpa using q1)
      | cnt s2 st2 => rw [e] at q1; exact again s2 st2 (by simpa using q1)
      | brk s2 st2 => rw [e] at q1; exact fun σ' H' m' g' S' R' => q1 σ' H' m' g' S' R'
      | ret d st2 => rw [e] at q1; exact fun v H' m' F g' S' R' T => q1 v H' m' F g' S' R' T
      | exc c s2 st2 => rw [e] at q1; exact fun σ' H' m' g' S' R' => q1 σ' H' m' g' S' R'
      | bad => rw [e] at q1; exact q1
end
end DV
set_option Elab.async false
set_option linter.all false
set_option maxRecDepth 100000
set_option maxHeartbeats 4000000
/-! DI: what loops walk. -/
namespace DV
open PySem PySem.Spec PyProof.Rows L2
/-! ### enumerate(tuple) -/
theorem meets_enum1 {v : Value} {o : Obj} {HH : Heap → Prop} (B : Begins v o HH) :
    Meets (Builtin.«enumerate.__new__» ⟨[.type "enumerate", v], []⟩) (fun _ R s => HH s.heap ∧
      R (.ok (.ret (.ref (s.heap.push o).objs.size))) { s with heap := (s.heap.push o).push { cls := .type "enumerate", data := .fields #[.none, .bool false, .ref s.heap.objs.size, rawInt 0, .none, .none] } }) :=
  .of_wp fun P w A R s h => by
    obtain ⟨hp, gg, dd, tt, oo⟩ := s
    obtain ⟨h1, h⟩ := h
    have hsub := sub_enumerate
    have itr : ∀ {A' : Around} {E : Value → Shared → Prop} {Q : Value → Shared → Prop}, Q (.ref hp.objs.size) ⟨hp.push o, gg, dd, tt, oo⟩ → wpAny (model P w) A' (pyIter v) Q E ⟨hp, gg, dd, tt, oo⟩ :=
      fun q => B.iter P w _ _ ⟨hp, gg, dd, tt, oo⟩ _ h1 q
    wp_walk using itr
    refine wpAny_stack_any fun sk => wpAny_pure ?_
    split
    · rename_i c _ _ _ _ _
      cases (c == Value.type "enumerate")
      · wp_walk using itr
        exact ⟨_, rfl, h⟩
      · wp_walk using itr
        exact ⟨_, rfl, h⟩
    · wp_walk using itr
      exact ⟨_, rfl, h⟩
theorem enum1_begins {P : Program} {w : World} {A : Around} {E : Value → Shared → Prop} {s : Shared} {v : Value} {o : Obj} {HH : Heap → Prop} {Q : Value → Shared → Prop} (B : Begins v o HH) (h1 : HH s.heap)
    (h : ∀ h', IsEnum h' (s.heap.objs.size + 1) s.heap.objs.size 0 .none → h'.get? s.heap.objs.size = some o → (∀ b u, s.heap.get? b = some u → h'.get? b = some u) → Q (.ref (s.heap.objs.size + 1)) { s with heap := h' }) :
    wpAny (model P w) A (call (.type "enumerate") [v]) Q E s := by
  refine callType_new F.called_enumerate (by decide) (F.typeCall_enumerate_1 _) (F.newCall_enumerate_1 _) (fun obj => F.args_object_init_2 obj _) F.entry_enumerate_new (meets_enum1 B) ⟨h1, ?_⟩
  have sz : (s.heap.push o).objs.size = s.heap.objs.size + 1 := Heap.size_push ..
  show _ ∧ _
  rw [sz]
  have he : IsEnum ((s.heap.push o).push { cls := .type "enumerate", data := .fields #[.none, .bool false, .ref s.heap.objs.size, rawInt 0, .none, .none] }) (s.heap.objs.size + 1) s.heap.objs.size 0 .none := by
    have q := Heap.get?_push_size (s.heap.push o) (o := { cls := .type "enumerate", data := .fields #[.none, .bool false, .ref s.heap.objs.size, rawInt 0, .none, .none] }) rfl
    rw [sz] at q
    exact q
  exact ⟨⟨_, he, rfl⟩, h _ he (Heap.get?_push_of_some _ (Heap.get?_push_size _ B.free)) fun b u x => Heap.get?_push_of_some _ (Heap.get?_push_of_some _ x)⟩
/-- the tuple at a, each item in a new pair -/
def IteT (K : PySem.W.Frag) (a : Addr) : It :=
  ⟨fun i H => ∃ (xs : List V) (x : V), SqT K H a xs ∧ xs[i]? = some x, fun i H v H' => ∃ T x, v = .ref T ∧ H T = none ∧ H' = upd H T (.tup [.int (i : Nat), x]) ∧ ∀ xs, SqT K H a xs → xs[i]? = some x, fun i H => ∃ xs : List V, SqT K H a xs ∧ xs.length = i⟩
theorem turn_enumT {P : Program} {w : World} {K : PySem.W.Frag} {elts : List Expr} {kk : Nat} {tpos : Pos} (a e it : Addr) :
    Turn P w K (.Tuple elts kk tpos) (IteT K a) [e, it] e (fun i h => (∃ old, IsEnum h e it ((i : Nat) : Int) old) ∧ h.IsTupleIter it a i ∧ e ≠ it ∧ e ≠ a ∧ it ≠ a) where
  mem := by simp
  obj := fun i h st b hb => by
    obtain ⟨⟨old, he⟩, ⟨o, ho, hc, hd⟩, _⟩ := st
    rcases (show b = e ∨ b = it by simpa using hb) with z | z
    · rw [z]; exact ⟨_, he, fun v q => nomatch q⟩
    · rw [z]; exact ⟨o, ho, fun v q => by rw [hd] at q; cases q⟩
  keep := fun i h h' st k => by
    obtain ⟨⟨old, he⟩, hi, n1, n2, n3⟩ := st
    exact ⟨⟨old, k e (by simp) _ he⟩, hi.at fun o q => k it (by simp) o q, n1, n2, n3⟩
  item := by
    intro X eP ew eK hc i pins s σ H E I hf st hg
    subst eP ew eK
    obtain ⟨⟨old, he⟩, hit, n1, n2, n3⟩ := st
    obtain ⟨xs, x, hq, hx⟩ := hg
    obtain ⟨its, rv, p, hz⟩ := I.tuple hq
    obtain ⟨u, hu, ru⟩ := rv.get hx
    have lte : e < s.heap.objs.size := Heap.lt_size he
    have lti : it < s.heap.objs.size := by obtain ⟨_, q, _⟩ := hit; exact Heap.lt_size q
    have hlt : i < its.toArray.size := by
      have := (List.getElem?_eq_some_iff.mp hu).1
      simpa using this
    have efp : e ∉ [it, a] := by simp [n1, n2]
    refine wpAny_pyNext_enum_itemD (Draws.tuple (prog := X.prog) (w := X.w) (A := X.A.in1) (I.ok.hd hc) it a (Ne.symm n3) its.toArray) he ⟨hit, p⟩ hlt n1 efp fun y h1 tk hy ho st1 hT hsz hk => ?_
    have ey : y = u := by
      have : its.toArray[i]? = some u := by simpa using hu
      rw [this] at hy
      exact (Option.some.inj hy).symm
    subst ey
    refine ⟨_, rfl, wpAny_letOwnedTupleGo_enum (s := { s with heap := h1, toks := tk + 1 }) ho fun h2 he2 sb => ?_⟩
    have T2 : h2.get? s.heap.objs.size = some { cls := .type "tuple", data := .seq #[.int i tk, y] } := (sb.2 _ (Nat.ne_of_gt lte)).trans hT
    have new : ObjOk X.prog X.w (upd H s.heap.objs.size (.tup [.int (i : Nat), x])) h2 s.heap.objs.size (.tup [.int (i : Nat), x]) :=
      ⟨by show 2 ≤ sizeLine; decide, [.int i tk, y], .cons ⟨_, rfl⟩ (.cons ru .nil), ⟨_, T2, rfl, _, rfl⟩⟩
    have I1 : Inv X pins σ (upd H s.heap.objs.size (.tup [.int (i : Nat), x])) { s with heap := h2, toks := tk + 1 } :=
      I.turnedNew (ch := [e, it]) (fun b ob hb q => (sb.2 b (fun z => hb (by simp [z]))).trans (hk b ob (fun z => hb (by simp [z])) (fun z => hb (by simp [z])) q)) hf (Nat.le_refl _) new
    refine ⟨.ref s.heap.objs.size, _, I1, rfl, ⟨_, x, rfl, I.hok.fresh (Nat.le_refl _), rfl, fun ys hy => by rw [I.tuple_inj hy hq]; exact hx⟩, ⟨⟨y, ?_⟩, st1.1.at fun o q => (sb.2 it (Ne.symm n1)).trans q, n1, n2, n3⟩, fun b hb => ?_⟩
    · have e1 : ((i + 1 : Nat) : Int) = (i : Int) + 1 := by omega
      rw [e1]; exact he2
    · have hb' : b < s.heap.objs.size := by
        rcases (show b = e ∨ b = it by simpa using hb) with z | z
        · rw [z]; exact lte
        · rw [z]; exact lti
      rw [upd_ne (Nat.ne_of_lt hb')]
      exact (hf b hb).1
  done := by
    intro X eP ew eK hc i pins s σ H E I hf st hg
    subst eP ew eK
    obtain ⟨⟨old, he⟩, hit, n1, n2, n3⟩ := st
    obtain ⟨xs, hq, hx⟩ := hg
    obtain ⟨its, rv, p, hz⟩ := I.tuple hq
    obtain ⟨f0, f1, f2, f3, f4, f5⟩ := hf it (by simp)
    have hl := rv.length
    have D := Draws.tuple (prog := X.prog) (w := X.w) (A := X.A.in1) (I.ok.hd hc) it a (Ne.symm n3) its.toArray
    have ei : its.toArray.size = i := by rw [List.size_toArray]; omega
    exact wpAny_pyNext_enum_endD D he ⟨by rw [ei]; exact hit, p⟩ fun h1 eb => ⟨rfl, I.turned (t' := s.toks) (fun b o hb q => eb b o hb q) f0 f1 f3 f4 f5⟩
  self := fun A i s Q E st h => let ⟨⟨_, he⟩, _⟩ := st; wpAny_pyIter_enum he h
section
variable {X : Cx} {tg : Expr}
def iEnumA (K : PySem.W.Frag) (ta : TA) : TI := fun σ H R => ta σ H fun vs H1 => ∃ a xs, vs = [.ref a] ∧ ((SqL K H1 a xs ∧ R (Ite K a) H1) ∨ (SqT K H1 a xs ∧ R (IteT K a) H1))
theorem pi_enumA {e : Expr} {ta : TA} {p pos tpos : Pos} {elts : List Expr} {kk : Nat} (hg : Gl X "enumerate") (hm : X.mg "enumerate" = none) (ha : PA X [e] ta) (hs : starEach [e] X.env = [(false, eval e X.env)]) :
    PI X (.Tuple elts kk tpos) (.Call (.Name "enumerate" p) [e] [] pos) (iEnumA X.K ta) := by
  refine ⟨fun pins s σ H R I h => ?_⟩
  refine Call_ (ld_blt I hg hm boot_enumerate (PyProof.Rows.callWith_type1 (thn (ha.run pos pins s σ H _ I h) fun us s1 ⟨vs, H1, I1, r1, q1⟩ => ?_) hs rfl))
  obtain ⟨a, xs, rfl, q1⟩ := q1
  obtain rfl := Vals.ref1 r1
  have apart : ∀ b, b = s1.heap.objs.size + 1 ∨ b = s1.heap.objs.size → s1.heap.objs.size ≤ b := fun b z => by
    rcases z with z | z
    · rw [z]; exact Nat.le_add_right _ _
    · rw [z]; exact Nat.le_refl _
  rcases q1 with ⟨hq, q⟩ | ⟨hq, q⟩
  · obtain ⟨its, rv, pl, hz⟩ := I1.list hq
    refine call_enumerate_list pl.isList fun h1 he hit hsz hk => wpAny_pyIter_enum he ?_
    refine ⟨s1.heap.objs.size + 1, [s1.heap.objs.size + 1, s1.heap.objs.size], _, _, H1, rfl, I1.kept (t' := s1.toks) hk, turn_enum a _ _, ⟨⟨.none, he⟩, hit, Nat.succ_ne_self _⟩, fun b hb => ?_, q⟩
    have le := apart b (by simpa using hb)
    exact I1.fpOk le (I1.hok.fresh le)
  · obtain ⟨its, rv, pt, hz⟩ := I1.tuple hq
    have lta : a < s1.heap.objs.size := pt.lt
    refine enum1_begins (begins_tuple a its.toArray) pt fun h1 he hit hk => wpAny_pyIter_enum he ?_
    refine ⟨s1.heap.objs.size + 1, [s1.heap.objs.size + 1, s1.heap.objs.size], _, _, H1, rfl, I1.kept (t' := s1.toks) hk, turn_enumT a _ _, ⟨⟨.none, he⟩, ⟨_, hit, rfl, rfl⟩, Nat.succ_ne_self _, Nat.ne_of_gt (Nat.lt_succ_of_lt lta), Nat.ne_of_gt lta⟩, fun b hb => ?_, q⟩
    have le := apart b (by simpa using hb)
    exact I1.fpOk le (I1.hok.fresh le)
def iSeq (K : PySem.W.Frag) (tl : TE) : TI := fun σ H R => tl σ H fun x H1 => ∃ a xs, x = .ref a ∧ ((SqL K H1 a xs ∧ R (Itl K a) H1) ∨ (SqT K H1 a xs ∧ R (Itt K a) H1))
theorem pi_seq {l : Expr} {tl : TE} (hl : PE X l tl) : PI X tg l (iSeq X.K tl) := by
  refine ⟨fun pins s σ H R I h => ?_⟩
  refine thn (hl.run pins s σ H _ I h) fun v s1 ⟨x, H1, I1, r1, q1⟩ => ?_
  obtain ⟨a, xs, rfl, q1⟩ := q1
  cases r1
  have fp1 : ∀ b ∈ [s1.heap.objs.size], FpOk X pins H1 b := fun b hb => by
    obtain rfl : b = s1.heap.objs.size := by simpa using hb
    exact I1.fpOk (Nat.le_refl _) (I1.hok.fresh (Nat.le_refl _))
  rcases q1 with ⟨hq, q⟩ | ⟨hq, q⟩
  · obtain ⟨its, rv, pl, hz⟩ := I1.list hq
    exact wpAny_pyIter_list pl.isList ⟨_, [s1.heap.objs.size], _, _, H1, rfl, I1.kept (t' := s1.toks) fun b o e => Heap.get?_push_of_some _ e, turn_list a _, ⟨_, Heap.get?_push_size _ rfl, rfl, rfl⟩, fp1, q⟩
  · obtain ⟨its, rv, pt, hz⟩ := I1.tuple hq
    exact wpAny_pyIter_tuple (show s1.heap.IsTuple a its.toArray from pt) ⟨_, [s1.heap.objs.size], _, _, H1, rfl, I1.kept (t' := s1.toks) fun b o e => Heap.get?_push_of_some _ e, turn_tuple a _, ⟨_, Heap.get?_push_size _ rfl, rfl, rfl⟩, fp1, q⟩
end
/-! ### more objects, the lists ex changed -/
structure GrowE (ex : Addr → Prop) (m : List Addr) (H : Hp) (m' : List Addr) (H' : Hp) : Prop where
  ext : ∃ n, m' = m ++ n ∧ ∀ a ∈ n, H a = none
  keep : ∀ a o, H a = some o → a ∉ m → ¬ ex a → H' a = some o
theorem Grow.toE {ex : Addr → Prop} {m m' : List Addr} {H H' : Hp} (g : Grow m H m' H') : GrowE ex m H m' H' := ⟨g.ext, fun a o e n _ => g.keep a o e n⟩
theorem GrowE.sub {ex : Addr → Prop} {m m' : List Addr} {H H' : Hp} (g : GrowE ex m H m' H') {l : Nat} {a : Addr} (h : m[l]? = some a) : m'[l]? = some a := by
  obtain ⟨n, rfl, _⟩ := g.ext
  obtain ⟨hl, e⟩ := List.getElem?_eq_some_iff.mp h
  rw [List.getElem?_append_left hl]; exact h
theorem GrowE.out {ex : Addr → Prop} {m m1 : List Addr} {H H1 : Hp} (g : GrowE ex m H m1 H1) {a : Addr} (h : a ∉ m) {o : HO} (e : H a = some o) : a ∉ m1 := by
  obtain ⟨n, rfl, hn⟩ := g.ext
  intro z
  rcases List.mem_append.mp z with z | z
  · exact h z
  · rw [hn a z] at e; cases e
theorem GrowE.trans {ex : Addr → Prop} {m m1 m2 : List Addr} {H H1 H2 : Hp} (M1 : MutM m1 H1) (hx : ∀ a, ex a → ∃ o, H1 a = some o) (g : GrowE ex m H m1 H1) (k : GrowE ex m1 H1 m2 H2) : GrowE ex m H m2 H2 := by
  obtain ⟨n, rfl, hn⟩ := g.ext
  obtain ⟨n', rfl, hn'⟩ := k.ext
  have nin : ∀ a o, H a = some o → a ∉ m → a ∉ m ++ n := fun a o e h z => by
    rcases List.mem_append.mp z with z | z
    · exact h z
    · rw [hn a z] at e; cases e
  refine ⟨⟨n ++ n', by rw [List.append_assoc], fun a ha => ?_⟩, fun a o e h x => k.keep a o (g.keep a o e h x) (nin a o e h) x⟩
  rcases List.mem_append.mp ha with z | z
  · exact hn a z
  · cases q : H a with
    | none => rfl
    | some o =>
      by_cases ham : a ∈ m
      · obtain ⟨u, e, _⟩ := M1 a (List.mem_append_left _ ham)
        rw [hn' a z] at e; cases e
      · by_cases hex : ex a
        · obtain ⟨u, e⟩ := hx a hex
          rw [hn' a z] at e; cases e
        · have e := g.keep a o q ham hex
          rw [hn' a z] at e; cases e
section
variable {W : Wd} {m m' : List Addr} {H H' : Hp} {ex : Addr → Prop}
/-- ex are lists -/
def Lists (ex : Addr → Prop) (H : Hp) : Prop := ∀ a, ex a → ∃ ys, H a = some (.lst ys)
theorem tup_growE {K : PySem.W.Frag} {a : Addr} {vs : List V} (M : MutM m H) (hx : Lists ex H) (g : GrowE ex m H m' H') (h : TupR K H a vs) : TupR K H' a vs := by
  rcases h with ⟨o, h, d⟩ | h
  · refine .inl ⟨o, g.keep a _ h (fun z => ?_) (fun z => ?_), d⟩
    · obtain ⟨u, e, mu⟩ := M a z
      rw [h] at e; cases e
      exact mu
    · obtain ⟨u, e⟩ := hx a z
      rw [h] at e; cases e
  · exact .inr h
theorem fro_growE {K : PySem.W.Frag} {a : Addr} {vs : List V} (M : MutM m H) (hx : Lists ex H) (g : GrowE ex m H m' H') (h : Fro K H a vs) : Fro K H' a vs := by
  rcases h with ⟨o, h⟩ | h
  · refine .inl ⟨o, g.keep a _ h (fun z => ?_) (fun z => ?_)⟩
    · obtain ⟨u, e, mu⟩ := M a z
      rw [h] at e; cases e
      exact mu
    · obtain ⟨u, e⟩ := hx a z
      rw [h] at e; cases e
  · exact .inr h
mutual
theorem RepV.growE (M : MutM m H) (hx : Lists ex H) (g : GrowE ex m H m' H') : ∀ {d : D} {v : V} {F : List Addr}, RepV W m H d v F → (∀ a ∈ F, a ∉ m ∧ ¬ ex a) → RepV W m' H' d v F
  | .non, _, _, h, _ => h
  | .bl _, _, _, h, _ => h
  | .int _, _, _, h, _ => h
  | .str _, _, _, h, _ => h
  | .exn _, _, _, h, _ => h
  | .tup xs, v, F, h, n => by
    obtain ⟨a, vs, e, s, r⟩ := h
    exact ⟨a, vs, e, tup_growE M hx g s, RepVs.growE M hx g r n⟩
  | .tl xs, v, F, h, n => by
    obtain ⟨a, vs, G, e, eF, s, r⟩ := h
    subst eF
    exact ⟨a, vs, G, e, rfl, g.keep a _ s (n a (by simp)).1 (n a (by simp)).2, RepVs.growE M hx g r fun b hb => n b (List.mem_append_left _ hb)⟩
  | .td ks xs, v, F, h, n => by
    obtain ⟨a, o, kks, vs, G, e, eF, s, dh, rk, r⟩ := h
    subst eF
    exact ⟨a, o, kks, vs, G, e, rfl, g.keep a _ s (n a (by simp)).1 (n a (by simp)).2, dh, RepVs.growE M hx g rk (by simp), RepVs.growE M hx g r fun b hb => n b (List.mem_append_left _ hb)⟩
  | .loc l, v, F, h, _ => by
    obtain ⟨a, e, s, eF⟩ := h
    exact ⟨a, e, g.sub s, eF⟩
  | .fro xs, v, F, h, n => by
    obtain ⟨a, vs, e, eF, s, r⟩ := h
    exact ⟨a, vs, e, eF, fro_growE M hx g s, RepVs.growE M hx g r (by simp)⟩
theorem RepVs.growE (M : MutM m H) (hx : Lists ex H) (g : GrowE ex m H m' H') : ∀ {ds : List D} {vs : List V} {F : List Addr}, RepVs W m H ds vs F → (∀ a ∈ F, a ∉ m ∧ ¬ ex a) → RepVs W m' H' ds vs F
  | [], _, _, h, _ => h
  | x :: xs, vs, F, h, n => by
    obtain ⟨v, ws, F1, F2, e1, e2, r, rs⟩ := h
    subst e2
    exact ⟨v, ws, F1, F2, e1, rfl, RepV.growE M hx g r fun a ha => n a (List.mem_append_left _ ha), RepVs.growE M hx g rs fun a ha => n a (List.mem_append_right _ ha)⟩
end
theorem RepS.growE {s : Slots} {σ : L2.St} (M : MutM m H) (hx : Lists ex H) (g : GrowE ex m H m' H') (h : RepS W m H s σ) : RepS W m' H' s σ :=
  ⟨h.1, fun i d e => let ⟨v, h1, h2⟩ := h.2 i d e; ⟨v, h1, h2.growE M hx g (by simp)⟩⟩
theorem GrowE.upd {a : Addr} {o : HO} : GrowE (· = a) m H m (upd H a o) := ⟨⟨[], by simp, by simp⟩, fun b u e n x => by rw [upd_ne x]; exact e⟩
theorem lists_one {a : Addr} {ys : List V} (h : H a = some (.lst ys)) : Lists (· = a) H := fun b e => ⟨ys, by rw [e]; exact h⟩
theorem Sat.acc {cs : List Nat} {st : Sto} {a : Addr} {ys zs : List V} (S : Sat W m cs st H) (ha : a ∉ m) (h : H a = some (.lst ys)) : Sat W m cs st (L2.upd H a (.lst zs)) := by
  refine ⟨S.len, S.nd, fun l b o h1 h2 => ?_, S.cut⟩
  have hb : b ≠ a := fun z => ha (by rw [← z]; exact List.mem_of_getElem? h1)
  have r := S.obj l b o h1 h2
  have g : GrowE (· = a) m H m (L2.upd H a (.lst zs)) := .upd
  cases o with
  | lst xs =>
    obtain ⟨vs, e, r⟩ := r
    exact ⟨vs, by rw [upd_ne hb]; exact e, r.growE S.mut (lists_one h) g (by simp)⟩
  | dic ks xs =>
    obtain ⟨o, kks, vs, e, dh, rk, r⟩ := r
    exact ⟨o, kks, vs, by rw [upd_ne hb]; exact e, dh, rk.growE S.mut (lists_one h) g (by simp), r.growE S.mut (lists_one h) g (by simp)⟩
  | ins c fs => exact False.elim r
end
/-! ### deep walks -/
/-- J goes through the items xs; ls: the lists of the store that must stay; Rp: how an item stands -/
structure WalkD (W : Wd) (J : It) (ls : List Nat) (fp : List Addr) (xs : List D) (ok : List Addr → Hp → Sto → Prop) (Rp : List Addr → Hp → D → V → Prop) : Prop where
  go : ∀ {m : List Addr} {H : Hp} {cs : List Nat} {st : Sto} {i : Nat}, Sat W m cs st H → ok m H st → i < xs.length → J.go i H
  stop : ∀ {m : List Addr} {H : Hp} {cs : List Nat} {st : Sto} {i : Nat}, Sat W m cs st H → ok m H st → i = xs.length → J.stop i H
  yld : ∀ {m : List Addr} {H : Hp} {cs : List Nat} {st : Sto} {i : Nat} {d : D} {x : V} {H' : Hp}, Sat W m cs st H → ok m H st → xs[i]? = some d → J.yld i H x H' → Grow m H m H' ∧ Sat W m cs st H' ∧ Rp m H' d x ∧ ok m H' st
  keep : ∀ {ex : Addr → Prop} {m : List Addr} {H : Hp} {cs : List Nat} {st : Sto} {m' : List Addr} {H' : Hp} {st' : Sto}, (∀ a ∈ fp, ¬ ex a) → Lists ex H → Sat W m cs st H → GrowE ex m H m' H' → Sat W m' cs st' H' → stays ls st st' = true → ok m H st → ok m' H' st'
section
variable {W : Wd}
/-- a list or tuple that is walked -/
def okSeq (W : Wd) (tp : Bool) (ls : List Nat) (fp : List Addr) (xs : List D) (a : Addr) (m : List Addr) (H : Hp) (st : Sto) : Prop :=
  (tp = true ∧ ∃ vs, TupR W.K H a vs ∧ RepVs W m H xs vs []) ∨ (tp = false ∧ ∃ vs, Fro W.K H a vs ∧ RepVs W m H xs vs []) ∨
    (tp = false ∧ (a ∉ m ∧ a ∈ fp) ∧ ∃ vs, H a = some (.lst vs) ∧ RepVs W m H xs vs []) ∨ (tp = false ∧ ∃ l ∈ ls, m[l]? = some a ∧ st.objs[l]? = some (.lst xs))
theorem okSeq.at {tp : Bool} {ls : List Nat} {fp : List Addr} {xs : List D} {a : Addr} {m : List Addr} {H : Hp} {cs : List Nat} {st : Sto} (S : Sat W m cs st H) (h : okSeq W tp ls fp xs a m H st) : ∃ vs, RepVs W m H xs vs [] ∧ (tp = true → SqT W.K H a vs) ∧ (tp = false → SqL W.K H a vs) := by
  rcases h with ⟨rfl, vs, h, r⟩ | ⟨rfl, vs, h, r⟩ | ⟨rfl, _, vs, h, r⟩ | ⟨rfl, l, _, h1, h2⟩
  · exact ⟨vs, r, fun _ => h.sq, fun z => nomatch z⟩
  · exact ⟨vs, r, (fun z => nomatch z), fun _ => h.seq⟩
  · exact ⟨vs, r, (fun z => nomatch z), fun _ => .inl (.inl h)⟩
  · obtain ⟨vs, h, r⟩ := S.obj l a _ h1 h2
    exact ⟨vs, r, (fun z => nomatch z), fun _ => .inl (.inl h)⟩
theorem okSeq.keep {ex : Addr → Prop} {tp : Bool} {ls : List Nat} {fp : List Addr} {xs : List D} {a : Addr} {m m' : List Addr} {H H' : Hp} {st st' : Sto} (hf : ∀ a ∈ fp, ¬ ex a) (hx : Lists ex H) (M : MutM m H) (g : GrowE ex m H m' H') (hs : stays ls st st' = true) (h : okSeq W tp ls fp xs a m H st) : okSeq W tp ls fp xs a m' H' st' := by
  rcases h with ⟨rfl, vs, h, r⟩ | ⟨rfl, vs, h, r⟩ | ⟨rfl, n, vs, h, r⟩ | ⟨rfl, l, hl, h1, h2⟩
  · exact .inl ⟨rfl, vs, tup_growE M hx g h, r.growE M hx g (by simp)⟩
  · exact .inr (.inl ⟨rfl, vs, fro_growE M hx g h, r.growE M hx g (by simp)⟩)
  · exact .inr (.inr (.inl ⟨rfl, ⟨g.out n.1 h, n.2⟩, vs, g.keep a _ h n.1 (hf a n.2), r.growE M hx g (by simp)⟩))
  · refine .inr (.inr (.inr ⟨rfl, l, hl, g.sub h1, ?_⟩))
    unfold stays at hs
    rw [List.all_eq_true] at hs
    have q := of_decide_eq_true (hs l hl)
    rw [q]; exact h2
theorem okSeq.mono {tp : Bool} {ls ls' : List Nat} {fp fp' : List Addr} {xs : List D} {a : Addr} {m : List Addr} {H : Hp} {st : Sto} (hl : ∀ l ∈ ls, l ∈ ls') (hf : ∀ l ∈ fp, l ∈ fp') (h : okSeq W tp ls fp xs a m H st) : okSeq W tp ls' fp' xs a m H st := by
  rcases h with h | h | ⟨h, h1, h2⟩ | ⟨h, l, h1, h2⟩
  · exact .inl h
  · exact .inr (.inl h)
  · exact .inr (.inr (.inl ⟨h, ⟨h1.1, hf a h1.2⟩, h2⟩))
  · exact .inr (.inr (.inr ⟨h, l, hl l h1, h2⟩))
def RpV (W : Wd) (m : List Addr) (H : Hp) (d : D) (v : V) : Prop := RepV W m H d v []
theorem walk_seq {ls : List Nat} {fp : List Addr} {xs : List D} {a : Addr} : WalkD W (Itl W.K a) ls fp xs (okSeq W false ls fp xs a) (RpV W) where
  go := fun S h hi => by
    obtain ⟨vs, r, _, q⟩ := h.at S
    have hl := r.length
    exact ⟨vs, vs[_]'(by omega), q rfl, List.getElem?_eq_getElem (by omega)⟩
  stop := fun S h hi => by
    obtain ⟨vs, r, _, q⟩ := h.at S
    exact ⟨vs, q rfl, by rw [r.length, hi]; exact Nat.le_refl _⟩
  yld := fun S h hd y => by
    obtain ⟨vs, r, _, q⟩ := h.at S
    obtain ⟨rfl, hx⟩ := y
    obtain ⟨v, h1, h2⟩ := r.get hd
    rw [hx vs (q rfl)] at h1
    cases h1
    exact ⟨.refl, S, h2, h⟩
  keep := fun hf hx S g S' hs h => h.keep hf hx S.mut g hs
theorem walk_tup {ls : List Nat} {fp : List Addr} {xs : List D} {a : Addr} : WalkD W (Itt W.K a) ls fp xs (okSeq W true ls fp xs a) (RpV W) where
  go := fun S h hi => by
    obtain ⟨vs, r, q, _⟩ := h.at S
    have hl := r.length
    exact ⟨vs, vs[_]'(by omega), q rfl, List.getElem?_eq_getElem (by omega)⟩
  stop := fun S h hi => by
    obtain ⟨vs, r, q, _⟩ := h.at S
    exact ⟨vs, q rfl, by rw [r.length, hi]; exact Nat.le_refl _⟩
  yld := fun S h hd y => by
    obtain ⟨vs, r, q, _⟩ := h.at S
    obtain ⟨rfl, hx⟩ := y
    obtain ⟨v, h1, h2⟩ := r.get hd
    rw [hx vs (q rfl)] at h1
    cases h1
    exact ⟨.refl, S, h2, h⟩
  keep := fun hf hx S g S' hs h => h.keep hf hx S.mut g hs
theorem rangeD_get {a b : Int} {i : Nat} {d : D} (h : (rangeD a b)[i]? = some d) : i < (b - a).toNat ∧ d = .int (a + i) := by
  unfold rangeD at h
  rw [List.getElem?_map] at h
  obtain ⟨j, hj, rfl⟩ := Option.map_eq_some_iff.mp h
  obtain ⟨hl, e⟩ := List.getElem?_eq_some_iff.mp hj
  rw [List.length_range] at hl
  rw [List.getElem_range] at e
  exact ⟨hl, by rw [e]⟩
theorem rangeD_len (a b : Int) : (rangeD a b).length = (b - a).toNat := by simp [rangeD]
theorem walk_range {ls : List Nat} {fp : List Addr} {a b : Int} : WalkD W (Itr a (b - a).toNat) ls fp (rangeD a b) (fun _ _ _ => True) (RpV W) where
  go := fun S h hi => by rw [rangeD_len] at hi; exact hi
  stop := fun S h hi => by rw [rangeD_len] at hi; exact Nat.le_of_eq hi.symm
  yld := fun S h hd y => by
    obtain ⟨rfl, rfl⟩ := y
    obtain ⟨_, rfl⟩ := rangeD_get hd
    exact ⟨.refl, S, ⟨rfl, rfl⟩, trivial⟩
  keep := fun hf hx S g S' hs h => trivial
theorem pair_new {m : List Addr} {cs : List Nat} {st : Sto} {H : Hp} {T : Addr} {x y : V} {d e : D} (S : Sat W m cs st H) (hT : H T = none) (r1 : RepV W m H d x []) (r2 : RepV W m H e y []) :
    Grow m H m (upd H T (.tup [x, y])) ∧ Sat W m cs st (upd H T (.tup [x, y])) ∧ RepY W m (upd H T (.tup [x, y])) (.tup [d, e]) (.ref T) := by
  have g : Grow m H m (upd H T (.tup [x, y])) := .new hT
  refine ⟨g, S.new hT, T, [x, y], rfl, .inl (.inl upd_same), x, [y], [], [], rfl, rfl, r1.grow S.mut g (by simp), y, [], [], [], rfl, rfl, r2.grow S.mut g (by simp), rfl, rfl⟩
theorem enumD_get {xs : List D} {i : Nat} {d : D} (h : (enumD xs)[i]? = some d) : ∃ e, xs[i]? = some e ∧ d = .tup [.int i, e] := by
  unfold enumD at h
  rw [List.getElem?_mapIdx] at h
  obtain ⟨e, he, rfl⟩ := Option.map_eq_some_iff.mp h
  exact ⟨e, he, rfl⟩
theorem walk_enum {ls : List Nat} {fp : List Addr} {xs : List D} {a : Addr} : WalkD W (Ite W.K a) ls fp (enumD xs) (okSeq W false ls fp xs a) (RepY W) where
  go := fun S h hi => by
    obtain ⟨vs, r, _, q⟩ := h.at S
    have hl := r.length
    have : (enumD xs).length = xs.length := by simp [enumD]
    exact ⟨vs, vs[_]'(by omega), q rfl, List.getElem?_eq_getElem (by omega)⟩
  stop := fun S h hi => by
    obtain ⟨vs, r, _, q⟩ := h.at S
    exact ⟨vs, q rfl, by rw [r.length, hi]; simp [enumD]⟩
  yld := fun S h hd y => by
    obtain ⟨vs, r, _, q⟩ := h.at S
    obtain ⟨T, x, rfl, hT, rfl, hx⟩ := y
    obtain ⟨e, he, rfl⟩ := enumD_get hd
    obtain ⟨v, h1, h2⟩ := r.get he
    rw [hx vs (q rfl)] at h1
    cases h1
    obtain ⟨g, S', R⟩ := pair_new (d := .int _) S hT ⟨rfl, rfl⟩ h2
    exact ⟨g, S', R, h.keep (ex := fun _ => False) (fun _ _ z => z) (fun _ z => z.elim) S.mut g.toE (by simp [stays])⟩
  keep := fun hf hx S g S' hs h => h.keep hf hx S.mut g hs
theorem walk_enumT {ls : List Nat} {fp : List Addr} {xs : List D} {a : Addr} : WalkD W (IteT W.K a) ls fp (enumD xs) (okSeq W true ls fp xs a) (RepY W) where
  go := fun S h hi => by
    obtain ⟨vs, r, q, _⟩ := h.at S
    have hl := r.length
    have : (enumD xs).length = xs.length := by simp [enumD]
    exact ⟨vs, vs[_]'(by omega), q rfl, List.getElem?_eq_getElem (by omega)⟩
  stop := fun S h hi => by
    obtain ⟨vs, r, q, _⟩ := h.at S
    exact ⟨vs, q rfl, by rw [r.length, hi]; simp [enumD]⟩
  yld := fun S h hd y => by
    obtain ⟨vs, r, q, _⟩ := h.at S
    obtain ⟨T, x, rfl, hT, rfl, hx⟩ := y
    obtain ⟨e, he, rfl⟩ := enumD_get hd
    obtain ⟨v, h1, h2⟩ := r.get he
    rw [hx vs (q rfl)] at h1
    cases h1
    obtain ⟨g, S', R⟩ := pair_new (d := .int _) S hT ⟨rfl, rfl⟩ h2
    exact ⟨g, S', R, h.keep (ex := fun _ => False) (fun _ _ z => z) (fun _ z => z.elim) S.mut g.toE (by simp [stays])⟩
  keep := fun hf hx S g S' hs h => h.keep hf hx S.mut g hs
theorem zipD_get {xs ys : List D} {i : Nat} {d : D} (h : (zipD xs ys)[i]? = some d) : ∃ e f, xs[i]? = some e ∧ ys[i]? = some f ∧ d = .tup [e, f] := by
  unfold zipD at h
  rw [List.getElem?_map] at h
  obtain ⟨p, hp, rfl⟩ := Option.map_eq_some_iff.mp h
  obtain ⟨h1, h2⟩ := List.getElem?_zip_eq_some.mp hp
  exact ⟨p.1, p.2, h1, h2, rfl⟩
theorem zipD_len (xs ys : List D) : (zipD xs ys).length = min xs.length ys.length := by simp [zipD]
theorem walk_zip {ls : List Nat} {fp : List Addr} {xs ys : List D} {a b : Addr} : WalkD W (Itz W.K a b) ls fp (zipD xs ys) (fun m H st => okSeq W false ls fp xs a m H st ∧ okSeq W false ls fp ys b m H st) (RepY W) where
  go := fun S h hi => by
    obtain ⟨vs, r, _, q⟩ := h.1.at S
    obtain ⟨ws, r2, _, q2⟩ := h.2.at S
    have hl := r.length
    have hl2 := r2.length
    rw [zipD_len] at hi
    exact ⟨vs, ws, vs[_]'(by omega), ws[_]'(by omega), q rfl, q2 rfl, List.getElem?_eq_getElem (by omega), List.getElem?_eq_getElem (by omega)⟩
  stop := fun S h hi => by
    obtain ⟨vs, r, _, q⟩ := h.1.at S
    obtain ⟨ws, r2, _, q2⟩ := h.2.at S
    have hl := r.length
    have hl2 := r2.length
    rw [zipD_len] at hi
    exact ⟨vs, ws, q rfl, q2 rfl, by omega⟩
  yld := fun S h hd y => by
    obtain ⟨vs, r, _, q⟩ := h.1.at S
    obtain ⟨ws, r2, _, q2⟩ := h.2.at S
    obtain ⟨T, x, y, rfl, hT, rfl, hx, hy⟩ := y
    obtain ⟨e, f, he, hf, rfl⟩ := zipD_get hd
    obtain ⟨v, h1, h2⟩ := r.get he
    obtain ⟨w, h3, h4⟩ := r2.get hf
    rw [hx vs (q rfl)] at h1
    cases h1
    rw [hy ws (q2 rfl)] at h3
    cases h3
    obtain ⟨g, S', R⟩ := pair_new S hT h2 h4
    exact ⟨g, S', R, h.1.keep (ex := fun _ => False) (fun _ _ z => z) (fun _ z => z.elim) S.mut g.toE (by simp [stays]), h.2.keep (ex := fun _ => False) (fun _ _ z => z) (fun _ z => z.elim) S.mut g.toE (by simp [stays])⟩
  keep := fun hf hx S g S' hs h => ⟨h.1.keep hf hx S.mut g hs, h.2.keep hf hx S.mut g hs⟩
theorem walk_zipT {ls : List Nat} {fp : List Addr} {xs ys : List D} {a b : Addr} : WalkD W (RZ.ItzT W.K a b) ls fp (zipD xs ys) (fun m H st => okSeq W true ls fp xs a m H st ∧ okSeq W true ls fp ys b m H st) (RepY W) where
  go := fun S h hi => by
    obtain ⟨vs, r, q, _⟩ := h.1.at S
    obtain ⟨ws, r2, q2, _⟩ := h.2.at S
    have hl := r.length
    have hl2 := r2.length
    rw [zipD_len] at hi
    exact ⟨vs, ws, vs[_]'(by omega), ws[_]'(by omega), q rfl, q2 rfl, List.getElem?_eq_getElem (by omega), List.getElem?_eq_getElem (by omega)⟩
  stop := fun S h hi => by
    obtain ⟨vs, r, q, _⟩ := h.1.at S
    obtain ⟨ws, r2, q2, _⟩ := h.2.at S
    have hl := r.length
    have hl2 := r2.length
    rw [zipD_len] at hi
    exact ⟨vs, ws, q rfl, q2 rfl, by omega⟩
  yld := fun S h hd y => by
    obtain ⟨vs, r, q, _⟩ := h.1.at S
    obtain ⟨ws, r2, q2, _⟩ := h.2.at S
    obtain ⟨T, x, y, rfl, hT, rfl, hx, hy⟩ := y
    obtain ⟨e, f, he, hf, rfl⟩ := zipD_get hd
    obtain ⟨v, h1, h2⟩ := r.get he
    obtain ⟨w, h3, h4⟩ := r2.get hf
    rw [hx vs (q rfl)] at h1
    cases h1
    rw [hy ws (q2 rfl)] at h3
    cases h3
    obtain ⟨g, S', R⟩ := pair_new S hT h2 h4
    exact ⟨g, S', R, h.1.keep (ex := fun _ => False) (fun _ _ z => z) (fun _ z => z.elim) S.mut g.toE (by simp [stays]), h.2.keep (ex := fun _ => False) (fun _ _ z => z) (fun _ z => z.elim) S.mut g.toE (by simp [stays])⟩
  keep := fun hf hx S g S' hs h => ⟨h.1.keep hf hx S.mut g hs, h.2.keep hf hx S.mut g hs⟩
end
end DV
set_option Elab.async false
set_option linter.all false
set_option maxRecDepth 100000
set_option maxHeartbeats 4000000
/-! DJ: for loops. -/
namespace DV
open PySem PySem.Spec PyProof.Rows L2
mutual
theorem settle_noT : ∀ (d : D) (o : List MO), (settle d o).1.noT = true
  | .non, _ => rfl
  | .bl _, _ => rfl
  | .int _, _ => rfl
  | .str _, _ => rfl
  | .exn _, _ => rfl
  | .tup xs, o => by simpa [settle, D.noT] using settles_noT xs o
  | .tl xs, o => rfl
  | .td ks vs, o => rfl
  | .loc _, _ => rfl
  | .fro _, _ => rfl
theorem settles_noT : ∀ (ds : List D) (o : List MO), D.noTs (settles ds o).1 = true
  | [], _ => rfl
  | x :: xs, o => by simp [settles, D.noTs, settle_noT x o, settles_noT xs (settle x o).2]
end
theorem stl_noT (d : D) (st : Sto) : (stl d st).1.noT = true := by
  unfold stl
  split
  · rename_i h; exact h
  · exact settle_noT d st.objs
def flat : D → Bool
  | .tl xs => D.noTs xs
  | d => d.noT
section
variable {W : Wd} {cs : List Nat} {H : Hp}
theorem prep_rep {d : D} {st : Sto} {m : List Addr} {v : V} {F : List Addr} (S : Sat W m cs st H) (R : RepV W m H d v F) (P : F.Nodup) (out : ∀ a ∈ F, a ∉ m) :
    flat (prep d st).1 = true ∧ ∃ F1 F2, Sat W (m ++ F1) cs (prep d st).2 H ∧ RepV W (m ++ F1) H (prep d st).1 v F2 ∧ ((F1 = F ∧ F2 = []) ∨ (F1 = [] ∧ F2 = F)) := by
  have other : prep d st = stl d st → flat (prep d st).1 = true ∧ ∃ F1 F2, Sat W (m ++ F1) cs (prep d st).2 H ∧ RepV W (m ++ F1) H (prep d st).1 v F2 ∧ ((F1 = F ∧ F2 = []) ∨ (F1 = [] ∧ F2 = F)) := fun e => by
    rw [e]
    obtain ⟨h1, h2⟩ := stl_rep S R P out
    refine ⟨?_, F, [], h1, h2, .inl ⟨rfl, rfl⟩⟩
    have q := stl_noT d st
    generalize (stl d st).1 = x at q
    cases x <;> first
      | exact q
      | cases q
  cases d with
  | tl xs =>
    by_cases h : D.noTs xs = true
    · have e : prep (.tl xs) st = (.tl xs, st) := by simp [prep, h]
      rw [e]
      exact ⟨h, [], F, by simpa using S, by simpa using R, .inr ⟨rfl, rfl⟩⟩
    · exact other (by simp [prep, h])
  | _ => exact other rfl
theorem prepS_rep : ∀ {ds : List D} {st : Sto} {m : List Addr} {vs : List V} {F : List Addr}, Sat W m cs st H → RepVs W m H ds vs F → F.Nodup → (∀ a ∈ F, a ∉ m) →
    ∃ ds' st' F1 F2, prepS ds st = .ok ds' st' ∧ Sat W (m ++ F1) cs st' H ∧ RepVs W (m ++ F1) H ds' vs F2 ∧ (∀ a ∈ F2, a ∉ m ++ F1) ∧ (∀ a ∈ F1, a ∈ F) ∧ (∀ a ∈ F2, a ∈ F) ∧ (∀ d ∈ ds', flat d = true)
  | [], st, m, vs, F, S, R, P, out => by
    obtain ⟨rfl, rfl⟩ := R
    exact ⟨[], st, [], [], rfl, by simpa using S, ⟨rfl, rfl⟩, by simp, by simp, by simp, by simp⟩
  | d :: ds, st, m, vs, F, S, R, P, out => by
    obtain ⟨v, ws, Fa, Fb, rfl, rfl, r, rs⟩ := R
    obtain ⟨n1, n2, n3⟩ := List.nodup_append.mp P
    obtain ⟨fl, F1, F2, S1, R1, hF⟩ := prep_rep S r n1 fun a ha => out a (List.mem_append_left _ ha)
    have F1s : ∀ a ∈ F1, a ∈ Fa := fun a ha => by
      rcases hF with ⟨e, _⟩ | ⟨e, _⟩
      · rw [← e]; exact ha
      · rw [e] at ha; cases ha
    have F2s : ∀ a ∈ F2, a ∈ Fa ∧ F1 = [] := fun a ha => by
      rcases hF with ⟨_, e⟩ | ⟨e1, e⟩
      · rw [e] at ha; cases ha
      · exact ⟨by rw [← e]; exact ha, e1⟩
    obtain ⟨ds', st', G1, G2, e, S2, R2, o2, s1, s2, fls⟩ := prepS_rep S1 (rs.app F1) n2 fun b hb z => by
      rcases List.mem_append.mp z with z | z
      · exact out b (List.mem_append_right _ hb) z
      · exact n3 b (F1s b z) b hb rfl
    refine ⟨(prep d st).1 :: ds', st', F1 ++ G1, F2 ++ G2, ?_, by rw [← List.append_assoc]; exact S2, ?_, ?_, ?_, ?_, ?_⟩
    · show ((prepS ds (prep d st).2).bind fun ds st2 => Res.ok ((prep d st).1 :: ds) st2) = _
      rw [e]; rfl
    · rw [← List.append_assoc]
      exact ⟨v, ws, F2, G2, rfl, rfl, R1.app G1, R2⟩
    · intro a ha
      rw [← List.append_assoc]
      rcases List.mem_append.mp ha with z | z
      · obtain ⟨h1, h2⟩ := F2s a z
        intro y
        subst h2
        rcases List.mem_append.mp y with y | y
        · exact out a (List.mem_append_left _ h1) (by simpa using y)
        · exact n3 a h1 a (s1 a y) rfl
      · exact o2 a z
    · intro a ha
      rcases List.mem_append.mp ha with z | z
      · exact List.mem_append_left _ (F1s a z)
      · exact List.mem_append_right _ (s1 a z)
    · intro a ha
      rcases List.mem_append.mp ha with z | z
      · exact List.mem_append_left _ (F2s a z).1
      · exact List.mem_append_right _ (s2 a z)
    · intro x hx
      rcases List.mem_cons.mp hx with z | z
      · rw [z]; exact fl
      · exact fls x z
theorem seq_ok {d : D} {st : Sto} {m : List Addr} {v : V} {F : List Addr} {xs : List D} {ls : List Nat} (S : Sat W m cs st H) (R : RepV W m H d v F) (out : ∀ a ∈ F, a ∉ m) (fl : flat d = true) (h : seqL st d = some (xs, ls)) :
    ∃ a, v = .ref a ∧ okSeq W d.isTup ls F xs a m H st := by
  cases d with
  | tup ys =>
    obtain ⟨a, vs, rfl, t, r⟩ := R
    cases h
    obtain rfl := r.noT (by simpa [flat, D.noT] using fl)
    exact ⟨a, rfl, .inl ⟨rfl, vs, t, r⟩⟩
  | fro ys =>
    obtain ⟨a, vs, rfl, rfl, t, r⟩ := R
    cases h
    exact ⟨a, rfl, .inr (.inl ⟨rfl, vs, t, r⟩)⟩
  | tl ys =>
    obtain ⟨a, vs, G, rfl, rfl, t, r⟩ := R
    cases h
    obtain rfl := r.noT fl
    exact ⟨a, rfl, .inr (.inr (.inl ⟨rfl, ⟨out a (by simp), by simp⟩, vs, t, r⟩))⟩
  | loc l =>
    obtain ⟨a, rfl, hm, rfl⟩ := R
    unfold seqL Sto.seq at h
    dsimp only at h
    split at h
    · rename_i q hq
      split at hq
      · rename_i e
        cases hq
        cases h
        exact ⟨a, rfl, .inr (.inr (.inr ⟨rfl, l, by simp, hm, e⟩))⟩
      · cases hq
    · cases h
  | _ => cases h
end
/-! ### readings of what is walked -/
section
variable {W : Wd} {B : WX} {X : Cx} {pos : Pos} {tg : Expr}
def RpOf (W : Wd) : SrcK → List Addr → Hp → D → V → Prop
  | .seq => RpV W
  | .range1 => RpV W
  | .range2 => RpV W
  | _ => RepY W
def IP (W : Wd) (cs : List Nat) (k : SrcK) (R : It → Hp → Prop) : Post W (List D) where
  ok m H G ds st' := match srcItems k ds st' with
    | some (xs, ls) => ∀ J fp ok H' m', Grow m H m' H' → Sat W m' cs st' H' → (∀ a ∈ fp, H a = none ∧ ∃ o, H' a = some o) → WalkD W J ls fp xs ok (RpOf W k) → ok m' H' st' → R J H'
    | none => False
  mono := fun {m m1 H H1 G F b st} M g hF h => by
    cases e : srcItems k b st with
    | none => rw [e] at h; exact h
    | some p =>
      rw [e] at h
      exact fun J fp ok H' m' g' S' hf w o => h J fp ok H' m' (g.trans M g') S' (fun a ha => ⟨g.free M (hf a ha).1, (hf a ha).2⟩) w o
def tI (W : Wd) (B : WX) (k : SrcK) (rs : Slots → Sto → Res (List D)) : TI := fun σ H R => ∃ s st m cs, RepS W m H s σ ∧ Sat W m cs st H ∧ RP (IP W cs k R) cs (EB B σ) m H [] ((rs s st).bind prepS)
theorem piD {iter : Expr} {t t' : TI} (h : PI X tg iter t) (k : ∀ σ H R, t' σ H R → t σ H R) : PI X tg iter t' := ⟨fun pins s σ H R I q => h.run pins s σ H R I (k σ H R q)⟩
/-- the things walked, prepared -/
theorem step_src {k : SrcK} {rs : Slots → Sto → Res (List D)} {σ : L2.St} {H : Hp} {R : It → Hp → Prop} (q : tI W B k rs σ H R) {Q' : List V → Hp → Prop}
    (h : ∀ ds st vs H1 m F cs xs ls, Sat W m cs st H1 → RepVs W m H1 ds vs F → (∀ a ∈ F, a ∉ m) → (∀ d ∈ ds, flat d = true) → srcItems k ds st = some (xs, ls) → (∀ J ok, WalkD W J ls F xs ok (RpOf W k) → ok m H1 st → R J H1) → Q' vs H1) : tDs W B rs σ H Q' := by
  obtain ⟨s, st, m, cs, RS, S, q⟩ := q
  refine ⟨s, st, m, cs, RS, S, ?_⟩
  cases e : rs s st with
  | bad => rw [e] at q; exact q
  | exc c st1 => rw [e] at q; exact q
  | ok ds st1 =>
    rw [e] at q
    intro vs H1 m1 F1 g1 S1 R1 T1
    obtain ⟨ds', st', G1, G2, e2, S2, R2, o2, s1, s2, fl⟩ := prepS_rep S1 R1 T1.nd fun a ha => (T1.out a ha).1
    have q1 : RP (IP W cs k R) cs (EB B σ) m H [] (prepS ds st1) := q
    rw [e2] at q1
    have q2 : (IP W cs k R).ok m H [] ds' st' := q1
    have g2 := g1.settle (F := G1) fun a ha => by
      rcases (T1.out a (s1 a ha)).2 with z | z
      · cases z
      · exact z
    unfold IP at q2
    dsimp only at q2
    cases e3 : srcItems k ds' st' with
    | none => rw [e3] at q2; exact False.elim q2
    | some p =>
      obtain ⟨xs, ls⟩ := p
      rw [e3] at q2
      exact h ds' st' vs H1 (m1 ++ G1) G2 cs xs ls S2 R2 o2 fl e3 fun J ok w o => q2 J G2 ok H1 _ g2 S2 (fun a ha => ⟨by
        rcases (T1.out a (s2 a ha)).2 with z | z
        · cases z
        · exact z, R2.there a ha⟩) w o
theorem one_rep {m : List Addr} {H : Hp} {d : D} {vs : List V} {F : List Addr} (R : RepVs W m H [d] vs F) : ∃ v, vs = [v] ∧ RepV W m H d v F := by
  obtain ⟨v, ws, F1, F2, rfl, rfl, r, rfl, rfl⟩ := R
  exact ⟨v, rfl, by simpa using r⟩
theorem two_rep {m : List Addr} {H : Hp} {d e : D} {vs : List V} {F : List Addr} (R : RepVs W m H [d, e] vs F) : ∃ v w F1 F2, vs = [v, w] ∧ F = F1 ++ F2 ∧ RepV W m H d v F1 ∧ RepV W m H e w F2 := by
  obtain ⟨v, ws, F1, F2, rfl, rfl, r, rs⟩ := R
  obtain ⟨w, rfl, r2⟩ := one_rep rs
  exact ⟨v, w, F1, F2, rfl, rfl, r, r2⟩
theorem xi_seq {l : Expr} {ra : Slots → Sto → Res D} (hX : Fits X W) (hl : PE X l (tD W B ra)) : PI X tg l (tI W B .seq fun s st => (ra s st).bind fun d st => .ok [d] st) := by
  refine piD (pi_seq hl) fun σ H R q => ?_
  have q2 := step_src (Q' := fun vs H1 => ∃ a xs, vs = [.ref a] ∧ ((SqL X.K H1 a xs ∧ R (Itl X.K a) H1) ∨ (SqT X.K H1 a xs ∧ R (Itt X.K a) H1))) q fun ds st vs H1 m F cs xs ls S Rs out fl e k => by
    match ds, e with
    | [d], e =>
      obtain ⟨v, rfl, r⟩ := one_rep Rs
      obtain ⟨a, rfl, o⟩ := seq_ok S r out (fl d (by simp)) e
      obtain ⟨ws, _, h1, h2⟩ := o.at S
      rw [hX.K]
      refine ⟨a, ws, rfl, ?_⟩
      cases ht : d.isTup with
      | true => rw [ht] at o; exact .inr ⟨h1 ht, k _ _ walk_tup o⟩
      | false => rw [ht] at o; exact .inl ⟨h2 ht, k _ _ walk_seq o⟩
  obtain ⟨s, st, m, cs, RS, S, q3⟩ := q2
  refine ⟨s, st, m, cs, RS, S, ?_⟩
  dsimp only at q3
  cases e : ra s st with
  | bad => rw [e] at q3; exact q3
  | exc c st1 => rw [e] at q3; exact q3
  | ok d st1 =>
    rw [e] at q3
    intro v H1 m1 F1 g1 S1 R1 T1
    obtain ⟨a, xs, e1, h⟩ := q3 [v] H1 m1 F1 g1 S1 ⟨v, [], F1, [], rfl, by simp, R1, rfl, rfl⟩ T1
    cases e1
    exact ⟨a, xs, rfl, h⟩
theorem rangeOk_of {a b : Int} (h : rangeOk a b = true) : -(2 ^ 62) ≤ a ∧ a < 2 ^ 62 ∧ -(2 ^ 62) ≤ b ∧ b < 2 ^ 62 := by
  unfold rangeOk at h
  simp only [Bool.and_eq_true, decide_eq_true_eq] at h
  omega
theorem xi_range1 {a : Expr} {rs : Slots → Sto → Res (List D)} {p : Pos} (hg : Gl X "range") (hm : X.mg "range" = none) (ha : PA X [a] (tDs W B rs)) (hs : starEach [a] X.env = [(false, eval a X.env)]) : PI X tg (.Call (.Name "range" p) [a] [] pos) (tI W B .range1 rs) := by
  refine piD (pi_range1 hg hm ha hs) fun σ H R q => step_src q fun ds st vs H1 m F cs xs ls S Rs out fl e k => ?_
  match ds, e with
  | [.int n], e =>
    obtain ⟨v, rfl, r⟩ := one_rep Rs
    obtain ⟨rfl, _⟩ := r
    unfold srcItems at e
    dsimp only at e
    split at e
    · rename_i hr
      cases e
      have q := rangeOk_of hr
      refine ⟨n, rfl, q.2.2.1, q.2.2.2, ?_⟩
      have w : WalkD W (Itr 0 n.toNat) [] F (rangeD 0 n) (fun _ _ _ => True) (RpOf W .range1) := by
        have w := walk_range (W := W) (ls := []) (fp := F) (a := 0) (b := n)
        rw [show n - 0 = n by omega] at w
        exact w
      exact k _ _ w trivial
    · cases e
theorem xi_range2 {a b : Expr} {rs : Slots → Sto → Res (List D)} {p : Pos} (hg : Gl X "range") (hm : X.mg "range" = none) (ha : PA X [a, b] (tDs W B rs)) (hs : starEach [a, b] X.env = [(false, eval a X.env), (false, eval b X.env)]) (hs2 : starEach [b] X.env = [(false, eval b X.env)]) :
    PI X tg (.Call (.Name "range" p) [a, b] [] pos) (tI W B .range2 rs) := by
  refine piD (pi_range2 hg hm ha hs hs2) fun σ H R q => step_src q fun ds st vs H1 m F cs xs ls S Rs out fl e k => ?_
  match ds, e with
  | [.int i, .int j], e =>
    obtain ⟨v, w, F1, F2, rfl, _, r1, r2⟩ := two_rep Rs
    obtain ⟨rfl, _⟩ := r1
    obtain ⟨rfl, _⟩ := r2
    unfold srcItems at e
    dsimp only at e
    split at e
    · rename_i hr
      cases e
      exact ⟨i, j, rfl, rangeOk_of hr, k _ _ walk_range trivial⟩
    · cases e
theorem xi_enum {e : Expr} {rs : Slots → Sto → Res (List D)} {p tpos : Pos} {elts : List Expr} {kk : Nat} (hX : Fits X W) (hg : Gl X "enumerate") (hm : X.mg "enumerate" = none) (ha : PA X [e] (tDs W B rs)) (hs : starEach [e] X.env = [(false, eval e X.env)]) :
    PI X (.Tuple elts kk tpos) (.Call (.Name "enumerate" p) [e] [] pos) (tI W B .enum rs) := by
  refine piD (pi_enumA hg hm ha hs) fun σ H R q => step_src q fun ds st vs H1 m F cs xs ls S Rs out fl e k => ?_
  match ds, e with
  | [d], e =>
    obtain ⟨v, rfl, r⟩ := one_rep Rs
    unfold srcItems at e
    dsimp only at e
    obtain ⟨⟨ys, l2⟩, e1, e2⟩ := Option.map_eq_some_iff.mp e
    cases e2
    obtain ⟨a, rfl, o⟩ := seq_ok S r out (fl d (by simp)) e1
    obtain ⟨ws, _, h1, h2⟩ := o.at S
    rw [hX.K]
    refine ⟨a, ws, rfl, ?_⟩
    cases ht : d.isTup with
    | true => rw [ht] at o; exact .inr ⟨h1 ht, k _ _ walk_enumT o⟩
    | false => rw [ht] at o; exact .inl ⟨h2 ht, k _ _ walk_enum o⟩
theorem xi_zip {e e2 : Expr} {rs : Slots → Sto → Res (List D)} {p tpos : Pos} {elts : List Expr} {kk : Nat} (hX : Fits X W) (hg : Gl X "zip") (hm : X.mg "zip" = none) (ha : PA X [e, e2] (tDs W B rs)) (hs : starEach [e, e2] X.env = (false, eval e X.env) :: starEach [e2] X.env) (hpl : (backTo pos (starEach [e2] X.env)).any (·.1) = false) :
    PI X (.Tuple elts kk tpos) (.Call (.Name "zip" p) [e, e2] [] pos) (tI W B .zip rs) := by
  refine piD (RZ.pi_zipA hg hm ha hs hpl) fun σ H R q => step_src q fun ds st vs H1 m F cs xs ls S Rs out fl e k => ?_
  match ds, e with
  | [d, f], e =>
    obtain ⟨v, w, F1, F2, rfl, rfl, r1, r2⟩ := two_rep Rs
    unfold srcItems at e
    dsimp only at e
    split at e
    · rename_i pp qq e1 e2
      split at e
      · rename_i hk
        cases e
        obtain ⟨a, rfl, o1⟩ := seq_ok S r1 (fun a ha => out a (List.mem_append_left _ ha)) (fl d (by simp)) e1
        obtain ⟨b, rfl, o2⟩ := seq_ok S r2 (fun a ha => out a (List.mem_append_right _ ha)) (fl f (by simp)) e2
        obtain ⟨ws, _, h1, h2⟩ := o1.at S
        obtain ⟨us, _, h3, h4⟩ := o2.at S
        have o1' := o1.mono (ls' := pp.2 ++ qq.2) (fp' := F1 ++ F2) (fun l hl => List.mem_append_left _ hl) fun l hl => List.mem_append_left _ hl
        have o2' := o2.mono (ls' := pp.2 ++ qq.2) (fp' := F1 ++ F2) (fun l hl => List.mem_append_right _ hl) fun l hl => List.mem_append_right _ hl
        rw [hX.K]
        refine ⟨a, b, ws, us, rfl, ?_⟩
        cases ht : d.isTup with
        | true =>
          rw [ht] at o1' hk
          rw [← hk] at o2'
          exact .inr ⟨h1 ht, h3 hk.symm, k _ _ walk_zipT ⟨o1', o2'⟩⟩
        | false =>
          rw [ht] at o1' hk
          rw [← hk] at o2'
          exact .inl ⟨h2 ht, h4 hk.symm, k _ _ walk_zip ⟨o1', o2'⟩⟩
      · cases e
    · cases e
/-! ### for -/
/-- a target that gets a walk's items -/
def tGK (W : Wd) (k : SrcK) (ns : List Nat) (t : Tg) : TG := fun v σ H Q => ∃ d s m, RepS W m H s σ ∧ RpOf W k m H d v ∧ match setTo t d s with
  | some s' => ∀ σ', RepS W m H s' σ' → (∀ j, j ∉ ns → σ'[j]? = σ[j]?) → Q σ' H
  | none => False
theorem xs_for {iter : Expr} {body : List Stmt} {k : SrcK} {rs : Slots → Sto → Res (List D)} {rb : Slots → Sto → SRes} {t : Tg} {ns : List Nat} (hp : PassesOwn (model X.prog X.w) X.A X.env X.xe) (hc : X.calm = true) (hi : PI X tg iter (tI W B k rs))
    (hg : PG X tg (tGK W k ns t)) (hb : PSs X body (tDS W B rb)) (hs : ∀ x, foldedSetIterable iter X.env x = pure x) : PS X (.For tg iter body [] pos) (tDS W B fun s st => ((rs s st).bind prepS).stm s fun ds st => match srcItems k ds st with
    | some (xs, ls) => forL t rb ls xs s st
    | none => .bad) := by
  refine psD (ps_for hp hc hi hg hb hs) fun D σ H ⟨s, st, m, cs, RS, S, q⟩ => ?_
  refine ⟨s, st, m, cs, RS, S, ?_⟩
  dsimp only at q
  cases e : (rs s st).bind prepS with
  | bad => rw [e] at q; exact q
  | exc c st1 =>
    rw [e] at q
    exact fun H' m' g' S' => q σ H' m' g' S' (RS.grow S.mut g')
  | ok ds st1 =>
    rw [e] at q
    have q1 : SRP W B cs D m H [] (match srcItems k ds st1 with
      | some (xs, ls) => forL t rb ls xs s st1
      | none => .bad) := q
    show (IP W cs k _).ok m H [] ds st1
    unfold IP
    dsimp only
    cases e2 : srcItems k ds st1 with
    | none => rw [e2] at q1; exact q1
    | some p =>
      obtain ⟨xs, ls⟩ := p
      rw [e2] at q1
      intro J fp ok H1 m1 g1 S1 hfp w o1
      have q2 := SRP.mono (F := []) S1.mut g1 (fun a ha => nomatch ha) q1
      refine ⟨fun i n σ H => n = xs.length - i ∧ i ≤ xs.length ∧ ∃ s st m, RepS W m H s σ ∧ Sat W m cs st H ∧ ok m H st ∧ SRP W B cs D m H [] (forL t rb ls (xs.drop i) s st), ⟨xs.length, rfl, Nat.zero_le _, s, st1, m1, RS.grow S.mut g1, S1, o1, by simpa using q2⟩, ?_⟩
      rintro i n σ H ⟨rfl, hi, s, st, m, RS, S, o, q⟩
      by_cases hlt : i < xs.length
      · refine .inr ⟨w.go S o hlt, fun σ' H' => ∃ s st m, RepS W m H' s σ' ∧ Sat W m cs st H' ∧ ok m H' st ∧ SRP W B cs D m H' [] (forL t rb ls (xs.drop (i + 1)) s st), fun σ' H' z => ⟨xs.length - (i + 1), by omega, rfl, hlt, z⟩, fun x H' y => ?_⟩
        rw [List.drop_eq_getElem_cons hlt] at q
        obtain ⟨g2, S2, R2, o2⟩ := w.yld S o (List.getElem?_eq_getElem hlt) y
        have q3 := SRP.mono (F := []) S2.mut g2 (fun a ha => nomatch ha) q
        unfold forL at q3
        refine ⟨xs[i], s, m, RS.grow S.mut g2, R2, ?_⟩
        cases e3 : setTo t xs[i] s with
        | none => rw [e3] at q3; exact q3
        | some s1 =>
          rw [e3] at q3
          intro σ1 RS1 _
          refine ⟨s1, st, m, cs, RS1, S2, ?_⟩
          have again : ∀ s2 st2, SRP W B cs D m H' [] (if stays ls st st2 then forL t rb ls (xs.drop (i + 1)) s2 st2 else .bad) → ∀ σ' H'' m', Grow m H' m' H'' → Sat W m' cs st2 H'' → RepS W m' H'' s2 σ' →
              ∃ s st m, RepS W m H'' s σ' ∧ Sat W m cs st H'' ∧ ok m H'' st ∧ SRP W B cs D m H'' [] (forL t rb ls (xs.drop (i + 1)) s st) := fun s2 st2 q σ' H'' m' g' S' R' => by
            split at q
            · rename_i hst
              exact ⟨s2, st2, m', R', S', w.keep (ex := fun _ => False) (fun _ _ z => z) (fun _ z => z.elim) S2 g'.toE S' hst o2, by simpa using SRP.mono (F := []) S'.mut g' (fun a ha => nomatch ha) q⟩
            · exact False.elim q
          dsimp only at q3
          cases e4 : rb s1 st with
          | nxt s2 st2 => rw [e4] at q3; exact again s2 st2 q3
          | cnt s2 st2 => rw [e4] at q3; exact again s2 st2 q3
          | brk s2 st2 => rw [e4] at q3; exact fun σ' H' m' g' S' R' => q3 σ' H' m' g' S' R'
          | ret d st2 => rw [e4] at q3; exact fun v H' m' F g' S' R' T => q3 v H' m' F g' S' R' T
          | exc c s2 st2 => rw [e4] at q3; exact fun σ' H' m' g' S' R' => q3 σ' H' m' g' S' R'
          | bad => rw [e4] at q3; exact q3
      · have e : i = xs.length := by omega
        subst e
        refine .inl ⟨w.stop S o rfl, ?_⟩
        rw [List.drop_length] at q
        exact q σ H m .refl S RS
end
end DV
set_option Elab.async false
set_option linter.all false
set_option maxRecDepth 100000
set_option maxHeartbeats 4000000
/-! DK: comprehensions. -/
namespace DV
open PySem PySem.Spec PyProof.Rows L2
/-- the list that a comprehension makes, so far -/
structure AccI (W : Wd) (m0 : List Addr) (H0 : Hp) (L : Addr) (m : List Addr) (H : Hp) (acc : List D) (vs : List V) (F : List Addr) : Prop where
  here : H L = some (.lst vs)
  out : L ∉ m
  new : H0 L = none
  rep : RepVs W m H acc vs F
  nd : F.Nodup
  outs : ∀ a ∈ F, a ∉ m ∧ a ≠ L ∧ H0 a = none
  grow : Grow m0 H0 m H
section
variable {W : Wd} {m0 m m' : List Addr} {H0 H H' : Hp} {L : Addr} {acc : List D} {vs : List V} {F : List Addr}
theorem AccI.next (A : AccI W m0 H0 L m H acc vs F) (M : MutM m H) (g : Grow m H m' H') : AccI W m0 H0 L m' H' acc vs F where
  here := g.keep L _ A.here A.out
  out := g.out A.out A.here
  new := A.new
  rep := A.rep.grow M g fun a ha => (A.outs a ha).1
  nd := A.nd
  outs := fun a ha => by
    obtain ⟨o, e⟩ := A.rep.there a ha
    exact ⟨g.out (A.outs a ha).1 e, (A.outs a ha).2⟩
  grow := A.grow.trans M g
theorem AccI.push (A : AccI W m0 H0 L m H acc vs F) (M : MutM m H) (g : Grow m H m' H') (M' : MutM m' H') {y : D} {v : V} {G : List Addr} (R : RepV W m' H' y v G) (T : Tmp m' H [] G) :
    AccI W m0 H0 L m' (upd H' L (.lst (vs ++ [v]))) (acc ++ [y]) (vs ++ [v]) (F ++ G) := by
  have A' := A.next M g
  have newG : ∀ a ∈ G, H a = none := fun a ha => by
    rcases (T.out a ha).2 with z | z
    · cases z
    · exact z
  have gu : GrowE (· = L) m' H' m' (upd H' L (.lst (vs ++ [v]))) := .upd
  have hl := lists_one A'.here
  have GL : ∀ a ∈ G, a ≠ L := fun a ha z => by
    have := newG a ha
    rw [z, A.here] at this; cases this
  exact {
    here := upd_same
    out := A'.out
    new := A.new
    rep := (A'.rep.growE M' hl gu fun a ha => ⟨(A'.outs a ha).1, (A'.outs a ha).2.1⟩).append (RepVs.one (R.growE M' hl gu fun a ha => ⟨(T.out a ha).1, GL a ha⟩))
    nd := List.nodup_append.mpr ⟨A.nd, T.nd, fun a ha b hb e => by
      subst e
      obtain ⟨o, e⟩ := A.rep.there a ha
      rw [newG a hb] at e; cases e⟩
    outs := fun a ha => by
      rcases List.mem_append.mp ha with z | z
      · exact A'.outs a z
      · exact ⟨(T.out a z).1, GL a z, A.grow.free M (newG a z)⟩
    grow := by
      obtain ⟨n, e, hn⟩ := A'.grow.ext
      refine ⟨⟨n, e, hn⟩, fun a o h1 h2 => ?_⟩
      have hne : a ≠ L := fun z => by rw [z, A.new] at h1; cases h1
      rw [upd_ne hne]
      exact A'.grow.keep a o h1 h2 }
theorem AccI.tmp (A : AccI W m0 H0 L m H acc vs F) : RepV W m H (.tl acc) (.ref L) (F ++ [L]) ∧ Tmp m H0 [] (F ++ [L]) := by
  refine ⟨⟨L, vs, F, rfl, rfl, A.here, A.rep⟩, List.nodup_append.mpr ⟨A.nd, by simp, fun a ha b hb e => ?_⟩, fun a ha => ?_⟩
  · rw [List.mem_singleton.mp hb] at e
    exact (A.outs a ha).2.1 e
  · rcases List.mem_append.mp ha with z | z
    · exact ⟨(A.outs a z).1, .inr (A.outs a z).2.2⟩
    · rw [List.mem_singleton.mp z]
      exact ⟨A.out, .inr A.new⟩
def cmpOk (r : Res (List D)) (K : List D → Sto → Prop) : Prop := match r with
  | .ok ys st => K ys st
  | _ => False
theorem cmpOk_bind {α : Type} {r : Res α} {f : α → Sto → Res (List D)} {K : List D → Sto → Prop} (h : cmpOk (r.bind f) K) : ∃ a st, r = .ok a st ∧ cmpOk (f a st) K := by
  cases r with
  | ok a st => exact ⟨a, st, rfl, h⟩
  | exc c st => exact False.elim h
  | bad => exact False.elim h
theorem lists_there {ex : Addr → Prop} {H : Hp} (h : Lists ex H) : ∀ a, ex a → ∃ o, H a = some o := fun a e => let ⟨ys, z⟩ := h a e; ⟨_, z⟩
theorem comp_loop {J : It} {ls : List Nat} {fp : List Addr} {xs : List D} {ok : List Addr → Hp → Sto → Prop} {k : SrcK} {t : Tg} {b : Slots → Sto → Res (List D)} {s : Slots} {σ : L2.St} {cs : List Nat} {m1 : List Addr} {H1 : Hp} {st1 : Sto} {acc1 : List D} {vs1 : List V} {F1 : List Addr} {Body : V → Hp → (Hp → Prop) → Prop} {End : Hp → Prop} {K : List D → Sto → Prop}
    (w : WalkD W J ls fp xs ok (RpOf W k)) (hfp : ∀ a ∈ fp, a ≠ L)
    (hb : ∀ {d : D} {x : V} {H : Hp} {m : List Addr} {st : Sto} {acc : List D} {vs : List V} {F : List Addr} {Nx : Hp → Prop} {s' : Slots} {K' : List D → Sto → Prop}, Sat W m cs st H → AccI W m0 H0 L m H acc vs F → RepS W m H s σ → RpOf W k m H d x → setTo t d s = some s' → cmpOk (b s' st) K' → (∀ ys st, K' ys st → acc.length + ys.length ≤ sizeLine) →
      (∀ m' H' st' ys vs' F', Sat W m' cs st' H' → AccI W m0 H0 L m' H' (acc ++ ys) vs' F' → GrowE (· = L) m H m' H' → K' ys st' → Nx H') → Body x H Nx)
    (he : ∀ m H st acc vs F, Sat W m cs st H → AccI W m0 H0 L m H acc vs F → GrowE (· = L) m1 H1 m H → K acc st → End H) (hK : ∀ ys st, K ys st → ys.length ≤ sizeLine)
    (S1 : Sat W m1 cs st1 H1) (o1 : ok m1 H1 st1) (RS1 : RepS W m1 H1 s σ) (A1 : AccI W m0 H0 L m1 H1 acc1 vs1 F1) (q : cmpOk (compB t b ls s xs st1) fun ys st' => K (acc1 ++ ys) st') :
    ∃ W' : Nat → Nat → Hp → Prop, (∃ n, W' 0 n H1) ∧ ∀ i n H, W' i n H → (J.stop i H ∧ End H) ∨ (J.go i H ∧ ∃ Nx : Hp → Prop, (∀ H', Nx H' → ∃ n', n' < n ∧ W' (i + 1) n' H') ∧ ∀ x H', J.yld i H x H' → Body x H' Nx) := by
  have fL : ∀ a ∈ fp, ¬ (a = L) := hfp
  refine ⟨fun i n H => n = xs.length - i ∧ i ≤ xs.length ∧ ∃ m st acc vs F, Sat W m cs st H ∧ ok m H st ∧ RepS W m H s σ ∧ AccI W m0 H0 L m H acc vs F ∧ GrowE (· = L) m1 H1 m H ∧ cmpOk (compB t b ls s (xs.drop i) st) fun ys st' => K (acc ++ ys) st',
    ⟨xs.length, rfl, Nat.zero_le _, m1, st1, acc1, vs1, F1, S1, o1, RS1, A1, Grow.refl.toE, by simpa using q⟩, ?_⟩
  rintro i n H ⟨rfl, hi, m, st, acc, vs, F, S, o, RS, A, gE, q⟩
  by_cases hlt : i < xs.length
  · refine .inr ⟨w.go S o hlt, fun H' => ∃ m st acc vs F, Sat W m cs st H' ∧ ok m H' st ∧ RepS W m H' s σ ∧ AccI W m0 H0 L m H' acc vs F ∧ GrowE (· = L) m1 H1 m H' ∧ cmpOk (compB t b ls s (xs.drop (i + 1)) st) fun ys st' => K (acc ++ ys) st',
      fun H' z => ⟨xs.length - (i + 1), by omega, rfl, hlt, z⟩, fun x H' y => ?_⟩
    obtain ⟨g2, S2, R2, o2⟩ := w.yld S o (List.getElem?_eq_getElem hlt) y
    rw [List.drop_eq_getElem_cons hlt] at q
    unfold compB at q
    have A2 := A.next S.mut g2
    have RS2 := RS.grow S.mut g2
    have gE2 : GrowE (· = L) m1 H1 m H' := gE.trans S.mut (lists_there (lists_one A.here)) g2.toE
    cases e3 : setTo t xs[i] s with
    | none => rw [e3] at q; exact False.elim q
    | some s' =>
      rw [e3] at q
      dsimp only at q
      obtain ⟨ys, st2, e4, q⟩ := cmpOk_bind q
      by_cases hst : stays ls st st2 = true
      · rw [if_pos hst] at q
        refine hb (K' := fun ys' st' => ys' = ys ∧ st' = st2) S2 A2 RS2 R2 e3 (by rw [e4]; exact ⟨rfl, rfl⟩) ?_ ?_
        · rintro _ _ ⟨rfl, rfl⟩
          obtain ⟨zs, st3, _, q⟩ := cmpOk_bind q
          have := hK _ _ q
          simp only [List.length_append] at this
          omega
        · rintro m3 H3 st3 ys' vs' F' S3 A3 gE3 ⟨rfl, rfl⟩
          have hl := lists_one A2.here
          refine ⟨m3, st3, acc ++ ys', vs', F', S3, w.keep fL hl S2 gE3 S3 hst o2, RS2.growE S2.mut hl gE3, A3, gE2.trans S2.mut (lists_there (lists_one A2.here)) gE3, ?_⟩
          obtain ⟨zs, st4, e5, q⟩ := cmpOk_bind q
          rw [e5]
          show K (acc ++ ys' ++ zs) st4
          rw [List.append_assoc]
          exact q
      · rw [if_neg hst] at q
        exact False.elim q
  · have e : i = xs.length := by omega
    subst e
    rw [List.drop_length] at q
    refine .inl ⟨w.stop S o rfl, he m H st acc vs F S A gE ?_⟩
    have q' : K (acc ++ []) st := q
    rw [List.append_nil] at q'
    exact q'
end
/-! ### slots of a block -/
theorem wipeD_len (s : Slots) : ∀ vs : List Nat, (wipeD s vs).length = s.length
  | [] => rfl
  | v :: vs => by unfold wipeD; rw [List.length_set, wipeD_len s vs]
theorem wipeD_some {s : Slots} {i : Nat} {d : D} : ∀ {vs : List Nat}, (wipeD s vs)[i]? = some (some d) → s[i]? = some (some d) ∧ i ∉ vs
  | [], h => ⟨h, by simp⟩
  | v :: vs, h => by
    unfold wipeD at h
    by_cases hi : v = i
    · subst hi
      by_cases hv : v < (wipeD s vs).length
      · rw [List.getElem?_set_self hv] at h; cases h
      · rw [List.getElem?_eq_none (by simpa using hv)] at h; cases h
    · rw [List.getElem?_set_ne hi] at h
      obtain ⟨h1, h2⟩ := wipeD_some h
      exact ⟨h1, by simp [h2, Ne.symm hi]⟩
theorem RepS.wipe {W : Wd} {m : List Addr} {H : Hp} {s : Slots} {σ : L2.St} (h : RepS W m H s σ) (vs : List Nat) : RepS W m H (wipeD s vs) (wipe σ vs) := by
  refine ⟨by rw [wipeD_len, wipe_length]; exact h.1, fun i d e => ?_⟩
  obtain ⟨e1, n⟩ := wipeD_some e
  obtain ⟨v, h1, h2⟩ := h.2 i d e1
  exact ⟨v, by rw [wipe_out n]; exact h1, h2⟩
theorem wipe_in {σ : L2.St} {i : Nat} : ∀ {vs : List Nat}, i ∈ vs → i < σ.length → (wipe σ vs)[i]? = some none
  | v :: vs, h, hl => by
    unfold wipe
    by_cases e : v = i
    · subst e
      rw [List.getElem?_set_self (by rw [wipe_length]; exact hl)]
    · rw [List.getElem?_set_ne e]
      exact wipe_in (by simpa [Ne.symm e] using h) hl
theorem wipe_same {σ σ' : L2.St} {ns vs : List Nat} (hl : σ'.length = σ.length) (h : ∀ j, j ∉ ns → σ'[j]? = σ[j]?) (hs : ∀ j ∈ ns, j ∈ vs) : wipe σ' vs = wipe σ vs := by
  refine List.ext_getElem? fun i => ?_
  by_cases hi : i ∈ vs
  · by_cases hlt : i < σ.length
    · rw [wipe_in hi hlt, wipe_in hi (by omega)]
    · rw [List.getElem?_eq_none (by rw [wipe_length]; omega), List.getElem?_eq_none (by rw [wipe_length]; omega)]
  · rw [wipe_out hi, wipe_out hi]
    exact h i fun z => hi (hs i z)
theorem wipe_wipe (σ : L2.St) (vs : List Nat) : L2.wipe (L2.wipe σ vs) vs = L2.wipe σ vs := by
  refine List.ext_getElem? fun i => ?_
  by_cases hi : i ∈ vs
  · by_cases hlt : i < σ.length
    · rw [wipe_in hi hlt, wipe_in hi (by rw [wipe_length]; exact hlt)]
    · rw [List.getElem?_eq_none (by rw [wipe_length, wipe_length]; omega), List.getElem?_eq_none (by rw [wipe_length]; omega)]
  · rw [wipe_out hi]
/-! ### the readings -/
mutual
theorem setTo_len : ∀ {t : Tg} {d : D} {s s' : Slots}, setTo t d s = some s' → s'.length = s.length
  | .nm i, d, s, s', h => by
    simp only [setTo, Option.some.injEq] at h
    rw [← h, List.length_set]
  | .tup ts, d, s, s', h => by
    cases d <;> simp only [setTo] at h <;> first
      | exact setTos_len h
      | cases h
  | .sub _ _, d, s, s', h => by simp [setTo] at h
  | .att _ _, d, s, s', h => by simp [setTo] at h
theorem setTos_len : ∀ {ts : List Tg} {ds : List D} {s s' : Slots}, setTos ts ds s = some s' → s'.length = s.length
  | [], ds, s, s', h => by
    cases ds <;> simp [setTos] at h
    rw [h]
  | t :: ts, ds, s, s', h => by
    cases ds with
    | nil => simp [setTos] at h
    | cons d ds =>
      simp only [setTos] at h
      cases e : setTo t d s with
      | none => rw [e] at h; cases h
      | some s1 =>
        rw [e] at h
        rw [setTos_len h, setTo_len e]
end
abbrev BF : WX := fun _ _ _ _ => False
section
variable {W : Wd} {B : WX} {X : Cx} {pos : Pos}
/-- one clause's turn -/
theorem one_body {m0 : List Addr} {H0 : Hp} {L : Addr} {cs : List Nat} {t : Tg} {k : SrcK} {ns vs : List Nat} {rc : Slots → Sto → Res Bool} {re : Slots → Sto → Res D} {s : Slots} {σ0 : L2.St} (hns : ∀ j ∈ ns, j ∈ vs)
    {d : D} {x : V} {H : Hp} {m : List Addr} {st : Sto} {acc : List D} {us : List V} {F : List Addr} {Nx : Hp → Prop} {s' : Slots} {K' : List D → Sto → Prop} (S : Sat W m cs st H) (A : AccI W m0 H0 L m H acc us F) (RS : RepS W m H s (wipe σ0 vs)) (R : RpOf W k m H d x) (ht : setTo t d s = some s') (q : cmpOk (oneB rc re s' st) K')
    (hlen : ∀ ys st, K' ys st → acc.length + ys.length ≤ sizeLine) (fin : ∀ m' H' st' ys vs' F', Sat W m' cs st' H' → AccI W m0 H0 L m' H' (acc ++ ys) vs' F' → GrowE (· = L) m H m' H' → K' ys st' → Nx H') :
    tGK W k ns t x (wipe σ0 vs) H fun σ2 H2 => wipe σ2 vs = wipe σ0 vs ∧ tDt W BF rc σ2 H2 fun b H3 =>
      if b = true then tD W BF re σ2 H3 fun y H4 => ∃ acc, H4 L = some (.lst acc) ∧ acc.length < sizeLine ∧ Nx (upd H4 L (.lst (acc ++ [y]))) else Nx H3 := by
  refine ⟨d, s, m, RS, R, ?_⟩
  rw [ht]
  intro σ2 RS2 hf
  have hl2 : s'.length = s.length := setTo_len ht
  refine ⟨?_, ?_⟩
  · rw [← wipe_wipe σ0 vs]
    refine wipe_same ?_ hf hns
    rw [← RS2.1, ← RS.1, hl2]
  refine ⟨s', st, m, cs, RS2, S, ?_⟩
  unfold oneB at q
  obtain ⟨b, st1, e, q⟩ := cmpOk_bind q
  rw [e]
  intro H1 m1 g1 S1
  have A1 := A.next S.mut g1
  have RS1 := RS2.grow S.mut g1
  cases b with
  | false =>
    rw [if_neg Bool.false_ne_true]
    rw [if_neg Bool.false_ne_true] at q
    exact fin m1 H1 st1 [] us F S1 (by simpa using A1) g1.toE q
  | true =>
    rw [if_pos rfl]
    rw [if_pos rfl] at q
    obtain ⟨y, st2, e2, q⟩ := cmpOk_bind q
    refine ⟨s', st1, m1, cs, RS1, S1, ?_⟩
    rw [e2]
    intro v H2 m2 G g2 S2 R2 T2
    have q' : K' [y] st2 := q
    have A2 := A1.next S1.mut g2
    refine ⟨us, A2.here, ?_, fin m2 _ st2 [y] _ _ (S2.acc A2.out A2.here) (A1.push S1.mut g2 S2.mut R2 T2) ?_ q'⟩
    · have := hlen _ _ q'
      rw [A.rep.length]
      simp at this
      omega
    · have gg : GrowE (· = L) m H m2 H2 := (g1.trans S1.mut g2).toE
      exact gg.trans S2.mut (lists_there (lists_one A2.here)) .upd
theorem two_body {m0 : List Addr} {H0 : Hp} {L : Addr} {cs : List Nat} {t t1 : Tg} {k k1 : SrcK} {ns vs ns1 vs1 : List Nat} {rc rc1 : Slots → Sto → Res Bool} {rs1 : Slots → Sto → Res (List D)} {re : Slots → Sto → Res D} {s : Slots} {σ0 : L2.St} (hns : ∀ j ∈ ns, j ∈ vs) (hns1 : ∀ j ∈ ns1, j ∈ vs1)
    {d : D} {x : V} {H : Hp} {m : List Addr} {st : Sto} {acc : List D} {us : List V} {F : List Addr} {Nx : Hp → Prop} {s' : Slots} {K' : List D → Sto → Prop} (S : Sat W m cs st H) (A : AccI W m0 H0 L m H acc us F) (RS : RepS W m H s (wipe σ0 vs)) (R : RpOf W k m H d x) (ht : setTo t d s = some s')
    (q : cmpOk (twoB rc (fun s st => (rs1 s st).bind prepS) k1 t1 vs1 (oneB rc1 re) s' st) K')
    (hlen : ∀ ys st, K' ys st → acc.length + ys.length ≤ sizeLine) (fin : ∀ m' H' st' ys vs' F', Sat W m' cs st' H' → AccI W m0 H0 L m' H' (acc ++ ys) vs' F' → GrowE (· = L) m H m' H' → K' ys st' → Nx H') :
    tGK W k ns t x (wipe σ0 vs) H fun σ2 H2 => wipe σ2 vs = wipe σ0 vs ∧ tDt W BF rc σ2 H2 fun b H3 =>
      if b = true then tI W BF k1 rs1 σ2 H3 fun J1 H4 => ∃ W1 : Nat → Nat → Hp → Prop, (∃ m, W1 0 m H4) ∧ ∀ j k H, W1 j k H →
        (J1.stop j H ∧ Nx H) ∨ (J1.go j H ∧ ∃ Nx1 : Hp → Prop, (∀ H', Nx1 H' → ∃ k', k' < k ∧ W1 (j + 1) k' H') ∧ ∀ x H', J1.yld j H x H' → tGK W k1 ns1 t1 x (wipe σ2 vs1) H' fun σ3 H5 => wipe σ3 vs1 = wipe σ2 vs1 ∧ tDt W BF rc1 σ3 H5 fun b H6 =>
          if b = true then tD W BF re σ3 H6 fun y H7 => ∃ acc, H7 L = some (.lst acc) ∧ acc.length < sizeLine ∧ Nx1 (upd H7 L (.lst (acc ++ [y]))) else Nx1 H6)
      else Nx H3 := by
  refine ⟨d, s, m, RS, R, ?_⟩
  rw [ht]
  intro σ2 RS2 hf
  have hl2 : s'.length = s.length := setTo_len ht
  refine ⟨?_, ?_⟩
  · rw [← wipe_wipe σ0 vs]
    refine wipe_same ?_ hf hns
    rw [← RS2.1, ← RS.1, hl2]
  refine ⟨s', st, m, cs, RS2, S, ?_⟩
  unfold twoB at q
  obtain ⟨b, st1, e, q⟩ := cmpOk_bind q
  rw [e]
  intro H1 m1 g1 S1
  have A1 := A.next S.mut g1
  have RS1 := RS2.grow S.mut g1
  cases b with
  | false =>
    rw [if_neg Bool.false_ne_true]
    rw [if_neg Bool.false_ne_true] at q
    exact fin m1 H1 st1 [] us F S1 (by simpa using A1) g1.toE q
  | true =>
    rw [if_pos rfl]
    rw [if_pos rfl] at q
    dsimp only at q
    obtain ⟨ds, st2, e2, q⟩ := cmpOk_bind q
    refine ⟨s', st1, m1, cs, RS1, S1, ?_⟩
    rw [e2]
    show (IP W cs k1 _).ok m1 H1 [] ds st2
    unfold IP
    dsimp only
    cases e3 : srcItems k1 ds st2 with
    | none => rw [e3] at q; exact False.elim q
    | some p =>
      obtain ⟨xs, ls⟩ := p
      rw [e3] at q
      dsimp only at q
      intro J fp ok H2 m2 g2 S2 hfp w o
      have A2 := A1.next S1.mut g2
      refine comp_loop (K := fun ys st => ∃ zs, ys = acc ++ zs ∧ K' zs st) w (fun a ha z => ?_) (fun {d x H m st acc us F Nx s' K'} S A RS R ht q hlen fin => one_body hns1 S A RS R ht q hlen fin) (fun m3 H3 st3 acc3 us3 F3 S3 A3 g3 hz => ?_) (fun ys st hz => ?_) S2 o ((RS1.grow S1.mut g2).wipe vs1) A2 ?_
      · have z1 := (hfp a ha).1
        rw [z, A1.here] at z1
        cases z1
      · obtain ⟨zs, rfl, hz⟩ := hz
        refine fin m3 H3 st3 zs us3 F3 S3 A3 ?_ hz
        exact ((g1.trans S1.mut g2).toE).trans S2.mut (lists_there (lists_one A2.here)) g3
      · obtain ⟨zs, rfl, hz⟩ := hz
        have := hlen _ _ hz
        rw [List.length_append]
        exact this
      · cases e4 : compB t1 (oneB rc1 re) ls (wipeD s' vs1) xs st2 with
        | ok ys st3 => rw [e4] at q; exact ⟨ys, rfl, q⟩
        | exc c st3 => rw [e4] at q; exact False.elim q
        | bad => rw [e4] at q; exact False.elim q
/-- a whole comprehension: from its reading to the walk -/
theorem comp_rd {k : SrcK} {rs : Slots → Sto → Res (List D)} {t : Tg} {vs : List Nat} {b : Slots → Sto → Res (List D)} {σ : L2.St} {H : Hp} {Q : VK} {Body : L2.St → Addr → V → Hp → (Hp → Prop) → Prop}
    (q : tD W B (fun s st => ((rs s st).bind prepS).bind (compR k t b (wipeD s vs))) σ H Q)
    (hb : ∀ {m0 : List Addr} {H0 : Hp} {L : Addr} {cs : List Nat} {s : Slots} {d : D} {x : V} {H : Hp} {m : List Addr} {st : Sto} {acc : List D} {us : List V} {F : List Addr} {Nx : Hp → Prop} {s' : Slots} {K' : List D → Sto → Prop}, Sat W m cs st H → AccI W m0 H0 L m H acc us F → RepS W m H s (wipe σ vs) → RpOf W k m H d x → setTo t d s = some s' → cmpOk (b s' st) K' → (∀ ys st, K' ys st → acc.length + ys.length ≤ sizeLine) →
      (∀ m' H' st' ys vs' F', Sat W m' cs st' H' → AccI W m0 H0 L m' H' (acc ++ ys) vs' F' → GrowE (· = L) m H m' H' → K' ys st' → Nx H') → Body σ L x H Nx) :
    tI W B k rs σ H fun J H1 => ∀ L, H1 L = none → ∃ W' : Nat → Nat → Hp → Prop, (∃ m, W' 0 m (upd H1 L (.lst []))) ∧ ∀ i n H, W' i n H → (J.stop i H ∧ Q (.ref L) H) ∨ (J.go i H ∧ ∃ Nx : Hp → Prop, (∀ H', Nx H' → ∃ n', n' < n ∧ W' (i + 1) n' H') ∧ ∀ x H', J.yld i H x H' → Body σ L x H' Nx) := by
  obtain ⟨s, st, m, cs, RS, S, q⟩ := q
  refine ⟨s, st, m, cs, RS, S, ?_⟩
  dsimp only at q
  cases e : (rs s st).bind prepS with
  | bad => rw [e] at q; exact q
  | exc c st1 => rw [e] at q; exact q
  | ok ds st1 =>
    rw [e] at q
    have q : RP (VP W cs Q) cs (EB B σ) m H [] (compR k t b (wipeD s vs) ds st1) := q
    unfold compR at q
    show (IP W cs k _).ok m H [] ds st1
    unfold IP
    dsimp only
    cases e2 : srcItems k ds st1 with
    | none => rw [e2] at q; exact q
    | some p =>
      obtain ⟨xs, ls⟩ := p
      rw [e2] at q
      dsimp only at q
      intro J fp ok H1 m1 g1 S1 hfp w o1 L hL
      have hL0 : H L = none := g1.free S1.mut hL
      have gL : Grow m1 H1 m1 (upd H1 L (.lst [])) := .new hL
      have oL : L ∉ m1 := fun z => by
        obtain ⟨u, e, _⟩ := S1.mut L z
        rw [hL] at e; cases e
      have SL := S1.new (o := .lst []) hL
      have A : AccI W m H L m1 (upd H1 L (.lst [])) [] [] [] := ⟨upd_same, oL, hL0, ⟨rfl, rfl⟩, List.nodup_nil, fun _ h => (nomatch h), g1.trans S1.mut gL⟩
      refine comp_loop (K := fun ys st => ys.length ≤ line ∧ (VP W cs Q).ok m H [] (.tl ys) st) w (fun a ha z => ?_) (fun {d x H m st acc us F Nx s' K'} S A RS R ht q hlen fin => hb S A RS R ht q hlen fin) (fun m3 H3 st3 acc3 us3 F3 S3 A3 g3 hz => ?_) (fun ys st hz => by rw [← line_eq]; exact hz.1) SL
        (w.keep (ex := fun _ => False) (fun _ _ z => z) (fun _ z => z.elim) S1 gL.toE SL (by simp [stays]) o1) ((RS.grow S.mut (g1.trans S1.mut gL)).wipe vs) A ?_
      · obtain ⟨o, z1⟩ := (hfp a ha).2
        rw [z, hL] at z1
        cases z1
      · obtain ⟨h1, h2⟩ := A3.tmp
        exact hz.2 (.ref L) H3 m3 _ A3.grow S3 h1 h2
      · cases e4 : compB t b ls (wipeD s vs) xs st1 with
        | ok ys st3 =>
          rw [e4] at q
          have q : RP (VP W cs Q) cs (EB B σ) m H [] (lstD ys st3) := q
          unfold lstD at q
          split at q
          · rename_i hl
            exact ⟨hl, q⟩
          · exact False.elim q
        | exc c st3 => rw [e4] at q; exact False.elim q
        | bad => rw [e4] at q; exact False.elim q
/-! ### the rules -/
/-- a comprehension's own context -/
abbrev Blk (X : Cx) (scope : Scope) (P : Cx → Prop) : Prop := ∀ (s : Shared) (H : Hp) (C : Addr) (cl : List (Str × Addr)) (fp : List Addr), P (X.blk s H scope (compEnvC scope cl C X.env) fp)
theorem xd_lc {k : SrcK} {t : Tg} {ns : List Nat} {rs : Slots → Sto → Res (List D)} {rc : Slots → Sto → Res Bool} {re : Slots → Sto → Res D} {elt tg iter : Expr} {ifs : List Expr} {scope : Scope} {own : List (Str × Nat)} (hc : X.calm = true) (hN : X.N.Nodup) (hns : ∀ j ∈ ns, j ∈ own.map (·.2))
    (hi : PI X tg iter (tI W B k rs)) (ok : BlkOk X.N X.env.scope scope own) (hg : Blk X scope fun X => PG X tg (tGK W k ns t)) (ht : Blk X scope fun X => PTs X ifs (tDt W BF rc)) (he : Blk X scope fun X => PE X elt (tD W BF re)) (hs : ∀ x, foldedSetIterable iter X.env x = pure x) :
    PE X (.ListComp elt [⟨tg, iter, ifs, 0⟩] scope pos) (tD W B fun s st => ((rs s st).bind prepS).bind (compR k t (oneB rc re) (wipeD s (own.map (·.2))))) :=
  peD (pe_lc hc hN hi ok hg ht he hs) fun σ H Q q => comp_rd (Body := fun σ L x H Nx => tGK W k ns t x (wipe σ (own.map (·.2))) H fun σ2 H2 => wipe σ2 (own.map (·.2)) = wipe σ (own.map (·.2)) ∧ tDt W BF rc σ2 H2 fun b H3 =>
      if b = true then tD W BF re σ2 H3 fun y H4 => ∃ acc, H4 L = some (.lst acc) ∧ acc.length < sizeLine ∧ Nx (upd H4 L (.lst (acc ++ [y]))) else Nx H3) q fun S A RS R ht q hlen fin => one_body hns S A RS R ht q hlen fin
theorem xd_lc2 {k k1 : SrcK} {t t1 : Tg} {ns ns1 vs1 : List Nat} {rs rs1 : Slots → Sto → Res (List D)} {rc rc1 : Slots → Sto → Res Bool} {re : Slots → Sto → Res D} {elt tg iter tg1 iter1 : Expr} {ifs ifs1 : List Expr} {scope : Scope} {own : List (Str × Nat)} (hc : X.calm = true) (hN : X.N.Nodup) (hns : ∀ j ∈ ns, j ∈ own.map (·.2)) (hns1 : ∀ j ∈ ns1, j ∈ vs1) (hv : ∀ i ∈ vs1, i ∈ own.map (·.2))
    (hi : PI X tg iter (tI W B k rs)) (ok : BlkOk X.N X.env.scope scope own) (hg : Blk X scope fun X => PG X tg (tGK W k ns t)) (ht : Blk X scope fun X => PTs X ifs (tDt W BF rc)) (he : Blk X scope fun X => PE X elt (tD W BF re)) (hs : ∀ x, foldedSetIterable iter X.env x = pure x)
    (hi1 : Blk X scope fun X => PI X tg1 iter1 (tI W BF k1 rs1)) (hg1 : Blk X scope fun X => PG X tg1 (tGK W k1 ns1 t1)) (ht1 : Blk X scope fun X => PTs X ifs1 (tDt W BF rc1)) (hs1 : ∀ env x, foldedSetIterable iter1 env x = pure x) :
    PE X (.ListComp elt [⟨tg, iter, ifs, 0⟩, ⟨tg1, iter1, ifs1, 0⟩] scope pos) (tD W B fun s st => ((rs s st).bind prepS).bind (compR k t (twoB rc (fun s st => (rs1 s st).bind prepS) k1 t1 vs1 (oneB rc1 re)) (wipeD s (own.map (·.2))))) :=
  peD (pe_lc2 hc hN hi ok hv hg ht hi1 hg1 ht1 he hs hs1) fun σ H Q q => comp_rd (Body := fun σ L x H Nx => tGK W k ns t x (wipe σ (own.map (·.2))) H fun σ2 H2 => wipe σ2 (own.map (·.2)) = wipe σ (own.map (·.2)) ∧ tDt W BF rc σ2 H2 fun b H3 =>
      if b = true then tI W BF k1 rs1 σ2 H3 fun J1 H4 => ∃ W1 : Nat → Nat → Hp → Prop, (∃ m, W1 0 m H4) ∧ ∀ j k H, W1 j k H →
        (J1.stop j H ∧ Nx H) ∨ (J1.go j H ∧ ∃ Nx1 : Hp → Prop, (∀ H', Nx1 H' → ∃ k', k' < k ∧ W1 (j + 1) k' H') ∧ ∀ x H', J1.yld j H x H' → tGK W k1 ns1 t1 x (wipe σ2 vs1) H' fun σ3 H5 => wipe σ3 vs1 = wipe σ2 vs1 ∧ tDt W BF rc1 σ3 H5 fun b H6 =>
          if b = true then tD W BF re σ3 H6 fun y H7 => ∃ acc, H7 L = some (.lst acc) ∧ acc.length < sizeLine ∧ Nx1 (upd H7 L (.lst (acc ++ [y]))) else Nx1 H6)
      else Nx H3) q fun S A RS R ht q hlen fin => two_body hns hns1 S A RS R ht q hlen fin
/-- name = [..]: from the statement's reading to the expression's -/
theorem asg_rd {ra : Slots → Sto → Res DV.D} {h : DV.D → Slots → Sto → SRes} (hn : ∀ d s st, match h d s st with | .nxt _ _ => True | .exc _ _ _ => True | .bad => True | _ => False) {D : Ends} {σ : L2.St} {H : Hp} (q : tDS W B (fun s st => (ra s st).stm s fun d st => let p := stl d st; h p.1 s p.2) D σ H) :
    tD W B ra σ H fun v H1 => tGD W B h v σ H1 D.nx := by
  obtain ⟨s, st, m, cs, RS, S, q⟩ := q
  refine stepS S RS .nil q fun d st1 v H1 m1 F1 g1 S1 RS1 R1 T1 P1 q1 => ?_
  obtain ⟨S2, R2⟩ := stl_rep S1 R1 T1.nd fun a ha => (T1.out a ha).1
  have g2 := g1.settle (F := F1) fun a ha => by
    rcases (T1.out a ha).2 with z | z
    · cases z
    · exact z
  have q2 := SRP.mono (F := []) S2.mut g2 (fun a ha => nomatch ha) q1
  refine ⟨(stl d st1).1, s, (stl d st1).2, m1 ++ F1, cs, ⟨RS1.1, fun i e z => ?_⟩, S2, R2, ?_⟩
  · obtain ⟨u, h1, h2⟩ := RS1.2 i e z
    exact ⟨u, h1, h2.app F1⟩
  · have hh := hn (stl d st1).1 s (stl d st1).2
    dsimp only at q2
    cases e : h (stl d st1).1 s (stl d st1).2 with
    | nxt s' st' => rw [e] at q2; exact q2
    | exc c s' st' => rw [e] at q2; exact q2
    | bad => rw [e] at q2; exact q2
    | brk s' st' => rw [e] at hh; exact False.elim hh
    | cnt s' st' => rw [e] at hh; exact False.elim hh
    | ret d st' => rw [e] at hh; exact False.elim hh
theorem tD_imp {ra : Slots → Sto → Res D} {σ : L2.St} {H : Hp} {Q Q' : VK} (q : tD W B ra σ H Q) (h : ∀ v H, Q v H → Q' v H) : tD W B ra σ H Q' := by
  obtain ⟨s, st, m, cs, RS, S, q⟩ := q
  refine ⟨s, st, m, cs, RS, S, ?_⟩
  cases e : ra s st with
  | ok d st1 => rw [e] at q; exact fun v H' m' F g S R T => h _ _ (q v H' m' F g S R T)
  | exc c st1 => rw [e] at q; exact q
  | bad => rw [e] at q; exact q
def nmS (i : Nat) (d : D) (s : Slots) (st : Sto) : SRes := .nxt (s.set i (some d)) st
theorem nm_rd {i : Nat} {v : V} {σ : L2.St} {H : Hp} {Q : L2.St → Hp → Prop} (q : tGD W B (nmS i) v σ H Q) : gName i v σ H Q := by
  obtain ⟨d, s, st, m, cs, RS, S, R, q⟩ := q
  exact q _ H m .refl S (RS.set i R)
theorem xs_lc {i : Nat} {y : Str} {py spos : Pos} {k : SrcK} {t : Tg} {ns : List Nat} {rs : Slots → Sto → Res (List D)} {rc : Slots → Sto → Res Bool} {re : Slots → Sto → Res D} {elt tg iter : Expr} {ifs : List Expr} {scope : Scope} {own : List (Str × Nat)} (hc : X.calm = true) (hN : X.N.Nodup) (hy : X.N[i]? = some y) (hyl : X.env.scope.names.lookup y = some .local)
    (hsw : swapsWith (.ListComp elt [⟨tg, iter, ifs, 0⟩] scope pos) (some (.Name y py)) spos.line X.env = pure true) (hns : ∀ j ∈ ns, j ∈ own.map (·.2))
    (hi : PI X tg iter (tI W B k rs)) (ok : BlkOk X.N X.env.scope scope own) (hg : Blk X scope fun X => PG X tg (tGK W k ns t)) (ht : Blk X scope fun X => PTs X ifs (tDt W BF rc)) (he : Blk X scope fun X => PE X elt (tD W BF re)) (hs : ∀ x, foldedSetIterable iter X.env x = pure x) :
    PS X (.Assign [.Name y py] (.ListComp elt [⟨tg, iter, ifs, 0⟩] scope pos) spos) (tDS W B fun s st => (((rs s st).bind prepS).bind (compR k t (oneB rc re) (wipeD s (own.map (·.2))))).stm s fun d st => let p := stl d st; nmS i p.1 s p.2) :=
  psD (ps_setLc hc hN hy hyl hsw hi ok hg ht he hs) fun D σ H q => comp_rd (Body := fun σ L x H Nx => tGK W k ns t x (wipe σ (own.map (·.2))) H fun σ2 H2 => wipe σ2 (own.map (·.2)) = wipe σ (own.map (·.2)) ∧ tDt W BF rc σ2 H2 fun b H3 =>
      if b = true then tD W BF re σ2 H3 fun y H4 => ∃ acc, H4 L = some (.lst acc) ∧ acc.length < sizeLine ∧ Nx (upd H4 L (.lst (acc ++ [y]))) else Nx H3) (tD_imp (asg_rd (h := nmS i) (fun _ _ _ => trivial) q) fun v H z => nm_rd z) fun S A RS R ht q hlen fin => one_body hns S A RS R ht q hlen fin
theorem xs_lc2 {i : Nat} {y : Str} {py spos : Pos} {k k1 : SrcK} {t t1 : Tg} {ns ns1 vs1 : List Nat} {rs rs1 : Slots → Sto → Res (List D)} {rc rc1 : Slots → Sto → Res Bool} {re : Slots → Sto → Res D} {elt tg iter tg1 iter1 : Expr} {ifs ifs1 : List Expr} {scope : Scope} {own : List (Str × Nat)} (hc : X.calm = true) (hN : X.N.Nodup) (hy : X.N[i]? = some y) (hyl : X.env.scope.names.lookup y = some .local)
    (hsw : swapsWith (.ListComp elt [⟨tg, iter, ifs, 0⟩, ⟨tg1, iter1, ifs1, 0⟩] scope pos) (some (.Name y py)) spos.line X.env = pure true) (hns : ∀ j ∈ ns, j ∈ own.map (·.2)) (hns1 : ∀ j ∈ ns1, j ∈ vs1) (hv : ∀ i ∈ vs1, i ∈ own.map (·.2))
    (hi : PI X tg iter (tI W B k rs)) (ok : BlkOk X.N X.env.scope scope own) (hg : Blk X scope fun X => PG X tg (tGK W k ns t)) (ht : Blk X scope fun X => PTs X ifs (tDt W BF rc)) (he : Blk X scope fun X => PE X elt (tD W BF re)) (hs : ∀ x, foldedSetIterable iter X.env x = pure x)
    (hi1 : Blk X scope fun X => PI X tg1 iter1 (tI W BF k1 rs1)) (hg1 : Blk X scope fun X => PG X tg1 (tGK W k1 ns1 t1)) (ht1 : Blk X scope fun X => PTs X ifs1 (tDt W BF rc1)) (hs1 : ∀ env x, foldedSetIterable iter1 env x = pure x) :
    PS X (.Assign [.Name y py] (.ListComp elt [⟨tg, iter, ifs, 0⟩, ⟨tg1, iter1, ifs1, 0⟩] scope pos) spos) (tDS W B fun s st => (((rs s st).bind prepS).bind (compR k t (twoB rc (fun s st => (rs1 s st).bind prepS) k1 t1 vs1 (oneB rc1 re)) (wipeD s (own.map (·.2))))).stm s fun d st => let p := stl d st; nmS i p.1 s p.2) :=
  psD (ps_setLc2 hc hN hy hyl hsw hi ok hv hg ht hi1 hg1 ht1 he hs hs1) fun D σ H q => comp_rd (Body := fun σ L x H Nx => tGK W k ns t x (wipe σ (own.map (·.2))) H fun σ2 H2 => wipe σ2 (own.map (·.2)) = wipe σ (own.map (·.2)) ∧ tDt W BF rc σ2 H2 fun b H3 =>
      if b = true then tI W BF k1 rs1 σ2 H3 fun J1 H4 => ∃ W1 : Nat → Nat → Hp → Prop, (∃ m, W1 0 m H4) ∧ ∀ j k H, W1 j k H →
        (J1.stop j H ∧ Nx H) ∨ (J1.go j H ∧ ∃ Nx1 : Hp → Prop, (∀ H', Nx1 H' → ∃ k', k' < k ∧ W1 (j + 1) k' H') ∧ ∀ x H', J1.yld j H x H' → tGK W k1 ns1 t1 x (wipe σ2 vs1) H' fun σ3 H5 => wipe σ3 vs1 = wipe σ2 vs1 ∧ tDt W BF rc1 σ3 H5 fun b H6 =>
          if b = true then tD W BF re σ3 H6 fun y H7 => ∃ acc, H7 L = some (.lst acc) ∧ acc.length < sizeLine ∧ Nx1 (upd H7 L (.lst (acc ++ [y]))) else Nx1 H6)
      else Nx H3) (tD_imp (asg_rd (h := nmS i) (fun _ _ _ => trivial) q) fun v H z => nm_rd z) fun S A RS R ht q hlen fin => two_body hns hns1 S A RS R ht q hlen fin
end
end DV
set_option Elab.async false
set_option linter.all false
set_option maxRecDepth 100000
set_option maxHeartbeats 4000000
/-! DL: built-in functions. -/
namespace DV
open PySem PySem.Spec PyProof.Rows L2
section
variable {W : Wd} {B : WX} {X : Cx} {pos : Pos}
theorem rep1 {m : List Addr} {H : Hp} {d : D} {vs : List V} {F : List Addr} (R : RepVs W m H [d] vs F) : ∃ v, vs = [v] ∧ RepV W m H d v F := by
  obtain ⟨v, ws, F1, F2, rfl, rfl, r, rfl, rfl⟩ := R
  exact ⟨v, rfl, by simpa using r⟩
theorem rep2 {m : List Addr} {H : Hp} {d e : D} {vs : List V} {F : List Addr} (R : RepVs W m H [d, e] vs F) : ∃ v w F1 F2, vs = [v, w] ∧ F = F1 ++ F2 ∧ RepV W m H d v F1 ∧ RepV W m H e w F2 := by
  obtain ⟨v, ws, F1, F2, rfl, rfl, r, rs⟩ := R
  obtain ⟨w, rfl, r2⟩ := rep1 rs
  exact ⟨v, w, F1, F2, rfl, rfl, r, r2⟩
/-! ### len -/
theorem leaf_dk {m : List Addr} {H : Hp} {a : Addr} {ks : List D} {ws : List V} (D : DictAt W m H a ks ws) (h : ks.all DV.D.leaf = true) : ∃ kvs : List (Key × V), H a = some (.dK kvs) ∧ ks = kvs.map (fun p => keyD p.1) ∧ ws = kvs.map (·.2) := by
  obtain ⟨o, kks, e, dh, _⟩ := D
  rcases dh with ⟨kvs, rfl, rfl, rfl, rfl⟩ | ⟨kvs, rfl, rfl, rfl, rfl, hz, hs, hne, ht⟩
  · exact ⟨kvs, e, rfl, rfl⟩
  · exfalso
    cases kvs with
    | nil => exact hne rfl
    | cons p q =>
      obtain ⟨⟨l, e2⟩, _⟩ := ht p List.mem_cons_self
      simp [e2, nkD, DV.D.leaf] at h
theorem cd_len (hX : Fits X W) : CallD X W (.builtin "len") lenD := by
  refine ⟨_, (call_len_seq.or call_len_str).or call_lenD, fun {m cs st H ds vs F Q E} S R P q => ?_⟩
  unfold lenD at q
  split at q
  · rename_i d
    obtain ⟨v, rfl, r⟩ := rep1 R
    split at q
    · rename_i x
      obtain ⟨rfl, _⟩ := r
      split at q
      · rename_i hl
        exact .inl (.inr ⟨x, rfl, by rw [← line_eq]; exact hl, VP.flat (d := .int _) S ⟨rfl, rfl⟩ q⟩)
      · exact False.elim q
    · split at q
      · rename_i xs e
        obtain ⟨a, ws, G, rfl, rs, _, kd⟩ := seq_rep S r e
        refine .inl (.inl ⟨a, ws, rfl, ?_, ?_⟩)
        · rw [hX.K]
          rcases kd with ⟨_, h⟩ | ⟨_, h⟩
          · exact .inr h
          · exact .inl h
        · rw [rs.length]
          exact VP.flat (d := .int _) S ⟨rfl, rfl⟩ q
      · split at q
        · rename_i ks xs e
          split at q
          · rename_i hl
            obtain ⟨a, ws, G, rfl, Da, _, _⟩ := dict_rep S r e
            obtain ⟨kvs, h1, h2, _⟩ := leaf_dk Da hl
            refine .inr ⟨a, kvs, rfl, h1, ?_⟩
            rw [h2, List.length_map] at q
            exact VP.flat (d := .int _) S ⟨rfl, rfl⟩ q
          · exact False.elim q
        · exact False.elim q
  · exact False.elim q
/-! ### tuple(x), list(x) -/
theorem cd_tuple (hX : Fits X W) : CallD X W (.type "tuple") tupleD := by
  refine ⟨_, call_tupleF, fun {m cs st H ds vs F Q E} S R P q => ?_⟩
  unfold tupleD at q
  split at q
  · rename_i d
    obtain ⟨v, rfl, r⟩ := rep1 R
    split at q
    · rename_i xs e
      obtain ⟨a, ws, G, rfl, rs, sub, kd⟩ := seq_rep S r e
      refine ⟨a, ws, rfl, ?_⟩
      rw [hX.K]
      rcases kd with ⟨ht, h⟩ | ⟨_, h⟩
      · refine .inr ⟨h, ?_⟩
        cases d <;> simp [DV.D.isTup] at ht
        cases e
        exact VP.put S r P (List.Sublist.refl _) q
      · exact .inl ⟨h, VP.tuple S rs P sub q⟩
    · exact False.elim q
  · exact False.elim q
theorem cd_list (hX : Fits X W) : CallD X W (.type "list") listD := by
  refine ⟨_, call_list_of, fun {m cs st H ds vs F Q E} S R P q => ?_⟩
  unfold listD at q
  split at q
  · rename_i d
    obtain ⟨v, rfl, r⟩ := rep1 R
    split at q
    · rename_i xs e
      obtain ⟨a, ws, G, rfl, rs, sub, kd⟩ := seq_rep S r e
      refine ⟨a, ws, rfl, ?_, fun l hl => VP.list S hl rs P sub q⟩
      rw [hX.K]
      rcases kd with ⟨_, h⟩ | ⟨_, h⟩
      · exact .inr h
      · exact .inl h
    · exact False.elim q
  · exact False.elim q
/-! ### numbers -/
theorem ints_rep {m : List Addr} {H : Hp} : ∀ {xs : List D} {vs : List V} {F : List Addr} {ns : List Int}, mapO intO xs = some ns → RepVs W m H xs vs F → vs = ns.map V.int
  | [], vs, F, ns, h, R => by cases h; exact R.1
  | x :: xs, vs, F, ns, h, R => by
    obtain ⟨v, ws, F1, F2, rfl, _, r, rs⟩ := R
    unfold mapO at h
    cases e : intO x with
    | none => rw [e] at h; cases h
    | some i =>
      rw [e] at h
      obtain ⟨ms, h1, rfl⟩ := Option.map_eq_some_iff.mp h
      rw [ints_rep h1 rs]
      cases x <;> simp [intO] at e
      subst e
      obtain ⟨rfl, _⟩ := r
      rfl
theorem bls_rep {m : List Addr} {H : Hp} : ∀ {xs : List D} {vs : List V} {F : List Addr} {ns : List Bool}, mapO blOf xs = some ns → RepVs W m H xs vs F → vs = ns.map V.bl
  | [], vs, F, ns, h, R => by cases h; exact R.1
  | x :: xs, vs, F, ns, h, R => by
    obtain ⟨v, ws, F1, F2, rfl, _, r, rs⟩ := R
    unfold mapO at h
    cases e : blOf x with
    | none => rw [e] at h; cases h
    | some i =>
      rw [e] at h
      obtain ⟨ms, h1, rfl⟩ := Option.map_eq_some_iff.mp h
      rw [bls_rep h1 rs]
      cases x <;> simp [blOf] at e
      subst e
      obtain ⟨rfl, _⟩ := r
      rfl
theorem intO_rep {m : List Addr} {H : Hp} {d : D} {v : V} {F : List Addr} {i : Int} (h : intO d = some i) (R : RepV W m H d v F) : v = .int i := by
  cases d <;> simp [intO] at h
  subst h
  exact R.1
theorem blO_rep {m : List Addr} {H : Hp} {d : D} {v : V} {F : List Addr} {i : Bool} (h : blOf d = some i) (R : RepV W m H d v F) : v = .bl i := by
  cases d <;> simp [blOf] at h
  subst h
  exact R.1
theorem int1_rep {m : List Addr} {H : Hp} {ds : List D} {vs : List V} {F : List Addr} {f : Int → Res D} {cs : List Nat} {Q : VK} {E : XK} (R : RepVs W m H ds vs F) (q : RP (VP W cs Q) cs E m H F (int1 ds f)) : ∃ i, vs = [.int i] ∧ RP (VP W cs Q) cs E m H F (f i) := by
  unfold int1 at q
  split at q
  · rename_i d
    obtain ⟨v, rfl, r⟩ := rep1 R
    cases e : intO d with
    | none => rw [e] at q; exact False.elim q
    | some i =>
      rw [e] at q
      obtain rfl := intO_rep e r
      exact ⟨i, rfl, q⟩
  · exact False.elim q
theorem int2_rep {m : List Addr} {H : Hp} {ds : List D} {vs : List V} {F : List Addr} {f : Int → Int → Res D} {cs : List Nat} {Q : VK} {E : XK} (R : RepVs W m H ds vs F) (q : RP (VP W cs Q) cs E m H F (int2 ds f)) : ∃ i j, vs = [.int i, .int j] ∧ RP (VP W cs Q) cs E m H F (f i j) := by
  unfold int2 at q
  split at q
  · rename_i d d2
    obtain ⟨v, w, F1, F2, rfl, _, r1, r2⟩ := rep2 R
    cases e : intO d with
    | none => rw [e] at q; exact False.elim q
    | some i =>
      cases e2 : intO d2 with
      | none => rw [e, e2] at q; exact False.elim q
      | some j =>
        rw [e, e2] at q
        obtain rfl := intO_rep e r1
        obtain rfl := intO_rep e2 r2
        exact ⟨i, j, rfl, q⟩
  · exact False.elim q
theorem cd_all (hX : Fits X W) (hc : X.calm = true) : CallD X W (.builtin "all") allD := by
  refine ⟨_, cr_all hc, fun {m cs st H ds vs F Q E} S R P q => ?_⟩
  unfold allD at q
  split at q
  · rename_i d
    obtain ⟨v, rfl, r⟩ := rep1 R
    split at q
    · rename_i xs e
      split at q
      · rename_i bs e2
        obtain ⟨a, ws, G, rfl, rs, _, h⟩ := list_rep S r e
        obtain rfl := bls_rep e2 rs
        exact ⟨a, bs, rfl, by rw [hX.K]; exact h, VP.flat (d := .bl _) S ⟨rfl, rfl⟩ q⟩
      · exact False.elim q
    · exact False.elim q
  · exact False.elim q
theorem cd_sum (hX : Fits X W) (hc : X.calm = true) : CallD X W (.builtin "sum") sumD := by
  refine ⟨_, cr_sum hc, fun {m cs st H ds vs F Q E} S R P q => ?_⟩
  unfold sumD at q
  split at q
  · rename_i d
    obtain ⟨v, rfl, r⟩ := rep1 R
    split at q
    · rename_i xs e
      split at q
      · rename_i bs e2
        obtain ⟨a, ws, G, rfl, rs, _, h⟩ := list_rep S r e
        obtain rfl := ints_rep e2 rs
        exact ⟨a, bs, rfl, by rw [hX.K]; exact h, VP.flat (d := .int _) S ⟨rfl, rfl⟩ q⟩
      · exact False.elim q
    · exact False.elim q
  · exact False.elim q
theorem foldl_max {n : Int} {ns : List Int} {k : Int} (h1 : k ∈ n :: ns) (h2 : ∀ y, y ∈ n :: ns → y ≤ k) : ns.foldl max n = k := by
  have up : ∀ (ns : List Int) (n : Int), (∀ y, y ∈ n :: ns → y ≤ k) → ns.foldl max n ≤ k := by
    intro ns
    induction ns with
    | nil => intro n h; exact h n (by simp)
    | cons y ys ih =>
      intro n h
      refine ih (max n y) fun z hz => ?_
      rcases List.mem_cons.mp hz with rfl | hz
      · have a := h n (by simp)
        have b := h y (by simp)
        omega
      · exact h z (by simp [hz])
  have lo : ∀ (ns : List Int) (n : Int), n ≤ ns.foldl max n ∧ ∀ y ∈ ns, y ≤ ns.foldl max n := by
    intro ns
    induction ns with
    | nil => intro n; simp
    | cons y ys ih =>
      intro n
      obtain ⟨a, b⟩ := ih (max n y)
      refine ⟨by simp only [List.foldl_cons]; omega, fun z hz => ?_⟩
      simp only [List.foldl_cons]
      rcases List.mem_cons.mp hz with rfl | hz
      · omega
      · exact b z hz
  have a := up ns n h2
  obtain ⟨b, c⟩ := lo ns n
  rcases List.mem_cons.mp h1 with rfl | h
  · omega
  · have := c k h
    omega
theorem cd_max1 (hX : Fits X W) (hc : X.calm = true) : CallD X W (.builtin "max") max1D := by
  refine ⟨_, cr_max hc, fun {m cs st H ds vs F Q E} S R P q => ?_⟩
  unfold max1D at q
  split at q
  · rename_i d
    obtain ⟨v, rfl, r⟩ := rep1 R
    split at q
    · rename_i xs e
      split at q
      · rename_i n ns e2
        obtain ⟨a, ws, G, rfl, rs, _, h⟩ := list_rep S r e
        obtain rfl := ints_rep e2 rs
        refine ⟨a, n :: ns, rfl, by rw [hX.K]; exact h, by simp, fun k h1 h2 => ?_⟩
        rw [foldl_max h1 h2] at q
        exact VP.flat (d := .int _) S ⟨rfl, rfl⟩ q
      · exact False.elim q
    · exact False.elim q
  · exact False.elim q
theorem cd_max2 (hX : Fits X W) (hc : X.calm = true) : CallD X W (.builtin "max") max2D := by
  refine ⟨_, call_max2 hc, fun {m cs st H ds vs F Q E} S R P q => ?_⟩
  obtain ⟨i, j, rfl, q⟩ := int2_rep R q
  exact ⟨i, j, rfl, VP.flat (d := .int _) S ⟨rfl, rfl⟩ q⟩
theorem cd_min2 (hX : Fits X W) (hc : X.calm = true) : CallD X W (.builtin "min") min2D := by
  refine ⟨_, call_min2 hc, fun {m cs st H ds vs F Q E} S R P q => ?_⟩
  obtain ⟨i, j, rfl, q⟩ := int2_rep R q
  exact ⟨i, j, rfl, VP.flat (d := .int _) S ⟨rfl, rfl⟩ q⟩
theorem cd_int (hX : Fits X W) : CallD X W (.type "int") toIntD := by
  refine ⟨_, call_int1, fun {m cs st H ds vs F Q E} S R P q => ?_⟩
  unfold toIntD at q
  split at q
  · rename_i d
    obtain ⟨v, rfl, r⟩ := rep1 R
    cases e : intO d with
    | some i =>
      rw [e] at q
      obtain rfl := intO_rep e r
      exact .inl ⟨i, rfl, VP.flat (d := .int _) S ⟨rfl, rfl⟩ q⟩
    | none =>
      cases e2 : blOf d with
      | none => rw [e, e2] at q; exact False.elim q
      | some b =>
        rw [e, e2] at q
        obtain rfl := blO_rep e2 r
        exact .inr ⟨b, rfl, VP.flat (d := .int _) S ⟨rfl, rfl⟩ q⟩
  · exact False.elim q
/-! ### isinstance -/
theorem tyx_rep {m : List Addr} {cs : List Nat} {st : Sto} {H : Hp} {d : D} {v : V} {F : List Addr} (S : Sat W m cs st H) (R : RepV W m H d v F) (h : isOk st d = true) : ∃ T, TyX W.K H v (.type T) ∧ (T = "NoneType" ∧ d = .non ∨ T = "bool" ∧ (∃ b, d = .bl b) ∨ T = "int" ∧ (∃ i, d = .int i) ∨ T = "str" ∧ (∃ x, d = .str x) ∨ T = "tuple" ∧ d.isTup = true ∨ (T = "list" ∨ T = "dict") ∧ d.isTup = false ∧ intO d = none ∧ blOf d = none ∧ ∀ x, d ≠ .str x) := by
  cases d with
  | non => obtain ⟨rfl, _⟩ := R; exact ⟨_, .base .non, .inl ⟨rfl, rfl⟩⟩
  | bl b => obtain ⟨rfl, _⟩ := R; exact ⟨_, .base (.bl b), .inr (.inl ⟨rfl, b, rfl⟩)⟩
  | int b => obtain ⟨rfl, _⟩ := R; exact ⟨_, .base (.int b), .inr (.inr (.inl ⟨rfl, b, rfl⟩))⟩
  | str b => obtain ⟨rfl, _⟩ := R; exact ⟨_, .base (.str b), .inr (.inr (.inr (.inl ⟨rfl, b, rfl⟩)))⟩
  | exn c => exact False.elim R
  | tup xs =>
    obtain ⟨a, vs, rfl, t, r⟩ := R
    refine ⟨"tuple", ?_, .inr (.inr (.inr (.inr (.inl ⟨rfl, rfl⟩))))⟩
    rcases t with ⟨o, e, _⟩ | ⟨o, its, n, e, _, c, _⟩
    · exact .fTuple e
    · exact .kTuple e c
  | tl xs =>
    obtain ⟨a, vs, G, rfl, rfl, e, r⟩ := R
    exact ⟨"list", .base (.lst e), .inr (.inr (.inr (.inr (.inr ⟨.inl rfl, rfl, rfl, rfl, fun _ z => nomatch z⟩))))⟩
  | fro xs =>
    obtain ⟨a, vs, rfl, rfl, e, r⟩ := R
    refine ⟨"list", ?_, .inr (.inr (.inr (.inr (.inr ⟨.inl rfl, rfl, rfl, rfl, fun _ z => nomatch z⟩))))⟩
    rcases e with ⟨o, e⟩ | e
    · exact .base (.frz e)
    · rcases e with (e | ⟨o, e⟩) | ⟨o, its, n, e, c, _⟩
      · cases e
      · cases e
      · exact .kList e c
  | td ks xs =>
    have hl : ks.all DV.D.leaf = true := h
    obtain ⟨a, o, kks, vs, G, rfl, rfl, e, dh, rk, r⟩ := R
    obtain ⟨kvs, e2, _⟩ := leaf_dk (ws := vs) ⟨o, kks, e, dh, rk⟩ hl
    exact ⟨"dict", .base (.dK e2), .inr (.inr (.inr (.inr (.inr ⟨.inr rfl, rfl, rfl, rfl, fun _ z => nomatch z⟩))))⟩
  | loc l =>
    obtain ⟨a, rfl, hm, rfl⟩ := R
    have hlen : l < st.objs.length := by rw [← S.len]; exact (List.getElem?_eq_some_iff.mp hm).1
    have e0 := List.getElem?_eq_getElem hlen
    have R0 := S.obj l a _ hm e0
    cases eo : st.objs[l] with
    | lst xs =>
      rw [eo] at R0
      obtain ⟨vs, e, _⟩ := R0
      exact ⟨"list", .base (.lst e), .inr (.inr (.inr (.inr (.inr ⟨.inl rfl, rfl, rfl, rfl, fun _ z => nomatch z⟩))))⟩
    | dic ks xs =>
      rw [eo] at R0 e0
      have hl : ks.all DV.D.leaf = true := by
        unfold isOk Sto.dict at h
        dsimp only at h
        rw [e0] at h
        exact h
      obtain ⟨o, kks, vs, e, dh, rk, _⟩ := R0
      obtain ⟨kvs, e2, _⟩ := leaf_dk (ws := vs) ⟨o, kks, e, dh, rk⟩ hl
      exact ⟨"dict", .base (.dK e2), .inr (.inr (.inr (.inr (.inr ⟨.inr rfl, rfl, rfl, rfl, fun _ z => nomatch z⟩))))⟩
    | ins c fs => rw [eo] at R0; exact False.elim R0
def IsT.name : IsT → String
  | .int => "int"
  | .bool => "bool"
  | .str => "str"
  | .tuple => "tuple"
theorem kit_facts (t : IsT) : kitB "NoneType" t.name = some false ∧ kitB "bool" t.name = some (decide (t = .int) || decide (t = .bool)) ∧ kitB "int" t.name = some (decide (t = .int)) ∧ kitB "str" t.name = some (decide (t = .str)) ∧ kitB "tuple" t.name = some (decide (t = .tuple)) ∧ kitB "list" t.name = some false ∧ kitB "dict" t.name = some false := by
  cases t <;> decide +kernel
def rIsD (W : Wd) (t : IsT) : List V → Hp → VK → Prop := fun xs H Q => ∃ (x : V) (T : String) (b : Bool), xs = [x, .ty t.name] ∧ TyX W.K H x (.type T) ∧ kitB T t.name = some b ∧ Q (.bl b) H
theorem call_isD (hX : Fits X W) (t : IsT) : CallR X (.builtin "isinstance") (rIsD W t) := by
  intro pins s σ H xs us Q I r ⟨x, T, b, ex, ty, e, q⟩
  exact call_isi pins s σ H xs us Q I r ⟨x, _, _, _, b, ex, .ty _, by rw [hX.K]; exact ty, kit_ty e, q⟩
theorem is_rep (t : IsT) {m : List Addr} {cs : List Nat} {st : Sto} {H : Hp} {d : D} {v : V} {F : List Addr} (S : Sat W m cs st H) (R : RepV W m H d v F) (h : isOk st d = true) : ∃ T, TyX W.K H v (.type T) ∧ kitB T t.name = some (isT t d) := by
  obtain ⟨k1, k2, k3, k4, k5, k6, k7⟩ := kit_facts t
  obtain ⟨T, ty, hT⟩ := tyx_rep S R h
  refine ⟨T, ty, ?_⟩
  rcases hT with ⟨rfl, rfl⟩ | ⟨rfl, b, rfl⟩ | ⟨rfl, b, rfl⟩ | ⟨rfl, b, rfl⟩ | ⟨rfl, hd⟩ | ⟨hT, h1, h2, h3, h4⟩
  · rw [k1]; cases t <;> rfl
  · rw [k2]; cases t <;> rfl
  · rw [k3]; cases t <;> rfl
  · rw [k4]; cases t <;> rfl
  · rw [k5]
    cases d <;> simp [DV.D.isTup] at hd
    cases t <;> rfl
  · have e : isT t d = false := by
      cases t with
      | int => simp [isT, h2, h3]
      | bool => simp [isT, h3]
      | str =>
        cases d with
        | str x => exact absurd rfl (h4 x)
        | _ => rfl
      | tuple => exact h1
    rw [e]
    rcases hT with rfl | rfl
    · exact k6
    · exact k7
end
end DV
set_option Elab.async false
set_option linter.all false
set_option maxRecDepth 100000
set_option maxHeartbeats 4000000
/-! DM: sorted, min, repr, ranges. -/
namespace DV
open PySem PySem.Spec PyProof.Rows L2
/-! ### sorted -/
theorem size_keep {h h' : Heap} (k : ∀ b o, h.get? b = some o → h'.get? b = some o) : h.objs.size ≤ h'.objs.size ∨ ∃ b, b < h.objs.size ∧ h.get? b = none := by
  by_cases hz : h.objs.size ≤ h'.objs.size
  · exact .inl hz
  · refine .inr ⟨h'.objs.size, by omega, ?_⟩
    cases e : h.get? h'.objs.size with
    | none => rfl
    | some o => exact absurd (Heap.lt_size (k _ o e)) (Nat.lt_irrefl _)
open PySem.Calls PySem.W in
theorem sorted_tup {P : Program} {w : World} {A : Around} {E : Value → Shared → Prop} {s : Shared} {β : Type} {vs : List Value} {bs : List β} {enc : β → PyData} {R : Value → β → Prop} {l : Addr} {Q : Value → Shared → Prop} (hl : s.heap.IsTuple l vs.toArray) (e : EachIs R vs bs) (er : EachIs (fun v b => ∃ as, Reads s.heap v (enc b) as) vs bs) (hal : AllAlike (bs.map enc)) (hk : Sortable (bs.map enc)) (hL : bs.length ≤ sizeLine)
    (hu : ∀ b, b ∈ bs → A.units + 2 + (enc b).depth < cLine) (h : ∀ (h' : Heap) (L : Addr) (out : List Value) (c : Nat), (∀ b o, s.heap.get? b = some o → h'.get? b = some o) → s.heap.get? L = none → h'.get? L = some (seqObj "list" out.toArray c) → EachIs R out (bs.mergeSort (dataLe false enc)) → Q (.ref L) { s with heap := h' }) :
    wpAny (model P w) A (call (.builtin "sorted") [.ref l]) Q E s := by
  have hlen : vs.length ≤ sizeLine := by rw [e.length]; exact hL
  refine call_function_entry_kw kind_sorted plain_sorted entry_sorted (args_sorted1 _) ?_
  unfold Builtin.«sorted»
  refine wpAny_bind (m := checkCount "sorted" 1 1 _) (wpAny_pure ?_)
  obtain ⟨o, ho, hc, n, hd⟩ := hl
  refine wpAny_bind (wpAny_collect_seq l (.inr rfl) ho hc hd (fun h1 k1 => ?_) (by simpa using hlen))
  refine wpAny_bind (wpAny_newList ?_ (by simpa using hlen))
  have at1 : (h1.push (seqObj "list" vs.toArray 0)).get? h1.objs.size = some (seqObj "list" vs.toArray 0) := Heap.get?_push_size _ rfl
  have k2 : ∀ b o, s.heap.get? b = some o → (h1.push (seqObj "list" vs.toArray 0)).get? b = some o := fun b o q => Heap.get?_push_of_some _ (k1 b o q)
  have apart : s.heap.get? h1.objs.size = none := by
    cases q : s.heap.get? h1.objs.size with
    | none => rfl
    | some u => exact absurd (Heap.lt_size (k1 _ u q)) (Nat.lt_irrefl _)
  have nb : ∀ b o, s.heap.get? b = some o → b ≠ h1.objs.size := fun b o q z => by rw [z, apart] at q; cases q
  have er' : EachIs (fun v b => ∃ as, Reads (sortingHeap (h1.push (seqObj "list" vs.toArray 0)) h1.objs.size vs) v (enc b) as) vs bs := er.mono fun _ _ ⟨as, r⟩ => ⟨as, PyProof.Rows.Reads.keeps (fun b o q => sortingHeap_old (nb b o q) (k2 b o q)) r⟩
  have S : SortsAt P w A.in1.in1 { s with heap := sortingHeap (h1.push (seqObj "list" vs.toArray 0)) h1.objs.size vs } _ vs := SortsAt.data (s := { s with heap := sortingHeap (h1.push (seqObj "list" vs.toArray 0)) h1.objs.size vs }) (each_map (R := fun v d => ∃ as, Reads (sortingHeap (h1.push (seqObj "list" vs.toArray 0)) h1.objs.size vs) v d as) enc er') hal hk (bound_map hu)
  refine wpAny_bind (wpAny_holding (wpAny_call_entry_kw slot_list_sort ⟨_, at1, rfl⟩ entry_list_sort ?_ (args_list_sort _)))
  refine list_sort_vals (s := { s with heap := h1.push (seqObj "list" vs.toArray 0) }) at1 S hlen ?_
  refine ⟨_, rfl, wpAny_pure ⟨_, rfl, ?_⟩⟩
  obtain ⟨c, hcc⟩ := sortedHeap_at (out := (sortVals (dataKind (sortingHeap (h1.push (seqObj "list" vs.toArray 0)) h1.objs.size vs) (bs.map enc)) false vs vs).toArray) at1
  exact h _ h1.objs.size _ c (fun b o q => (sortedHeap_old (nb b o q) (Heap.lt_size (k2 b o q))).trans (k2 b o q)) apart hcc (sortVals_data false e er' hal)
section
variable {W : Wd} {B : WX} {X : Cx} {pos : Pos}
def rSortD (W : Wd) : List V → Hp → VK → Prop := fun vs H Q => ∃ a m ds ws ps, vs = [.ref a] ∧ (SqL W.K H a ws ∨ SqT W.K H a ws) ∧ RepVs W m H ds ws [] ∧ DpAll W.K H ws ps ∧ (∀ p ∈ ps, p.depth ≤ tops) ∧ alikeB ps = true ∧ (ps.all tupleB || ps.all otherB) = true ∧ ds.length ≤ sizeLine ∧ ds.length = ps.length ∧
  ∀ p ws', H p = none → RepVs W m H (((ds.zip ps).mergeSort (PySem.W.dataLe false Prod.snd)).map Prod.fst) ws' [] → Q (.ref p) (upd H p (.lst ws'))
theorem alike_all {ps : List PyData} (h : alikeB ps = true) : PySem.W.AllAlike ps := by
  intro d hd e he
  unfold alikeB at h
  rw [List.all_eq_true] at h
  have := h d hd
  rw [List.all_eq_true] at this
  exact this e he
theorem sortable_all {ps : List PyData} (h : (ps.all tupleB || ps.all otherB) = true) : PySem.W.Sortable ps := by
  rw [Bool.or_eq_true] at h
  rcases h with h | h
  · refine .inl fun d hd => ?_
    rw [List.all_eq_true] at h
    have := h d hd
    cases d <;> simp [tupleB] at this
    rename_i xs
    cases xs with
    | nil => cases this
    | cons x r => exact ⟨x, r, rfl⟩
  · refine .inr fun d hd => ?_
    rw [List.all_eq_true] at h
    have := h d hd
    cases d <;> simp [otherB] at this <;> exact ⟨by simp, by simp⟩
/-- what an item's value is known to be -/
def ItemR (W : Wd) (m : List Addr) (H : Hp) (u : Value) (b : D × PyData) : Prop := ∃ v, RelV v u ∧ RepV W m H b.1 v []
theorem items_each {m : List Addr} {H : Hp} {pins : List (Addr × Obj)} {σ : L2.St} {s : Shared} (hX : Fits X W) (I : Inv X pins σ H s) : ∀ {ds : List D} {ws : List V} {ps : List PyData} {us : List Value}, RepVs W m H ds ws [] → DpAll W.K H ws ps → Vals ws us → PySem.W.EachIs (ItemR W m H) us (ds.zip ps) ∧ PySem.W.EachIs (fun v b => ∃ as, Reads s.heap v (Prod.snd b) as) us (ds.zip ps)
  | [], ws, ps, us, R, Dw, r => by
    obtain ⟨rfl, _⟩ := R
    cases r
    exact ⟨.nil, .nil⟩
  | d :: ds, ws, ps, us, R, Dw, r => by
    obtain ⟨v, ws', F1, F2, rfl, e2, r1, rs⟩ := R
    obtain ⟨rfl, rfl⟩ := List.append_eq_nil_iff.mp e2.symm
    cases Dw with
    | cons p q =>
      cases r with
      | cons a b =>
        obtain ⟨h1, h2⟩ := items_each hX I rs q b
        obtain ⟨as, hr⟩ := Dp.reads I _ _ _ (by rw [hX.K]; exact p) a
        exact ⟨.cons ⟨v, a, r1⟩ h1, .cons ⟨as, hr⟩ h2⟩
theorem each_back {m : List Addr} {H : Hp} : ∀ {bs : List (D × PyData)} {us : List Value}, PySem.W.EachIs (ItemR W m H) us bs → ∃ ws, Vals ws us ∧ RepVs W m H (bs.map Prod.fst) ws []
  | _, _, .nil => ⟨[], .nil, rfl, rfl⟩
  | _, _, .cons ⟨v, r, R⟩ t => by
    obtain ⟨ws, h1, h2⟩ := each_back t
    exact ⟨v :: ws, .cons r h1, v, ws, [], [], rfl, rfl, R, h2⟩
theorem zip_snd {α β : Type} : ∀ {xs : List α} {ys : List β}, xs.length = ys.length → (xs.zip ys).map Prod.snd = ys
  | [], [], _ => rfl
  | x :: xs, y :: ys, h => by simp [zip_snd (xs := xs) (ys := ys) (by simpa using h)]
theorem call_sortD (hX : Fits X W) (hu : X.A.units + 65 < cLine) : CallR X (.builtin "sorted") (rSortD W) := by
  intro pins s σ H xs us Q I r ⟨a, m, ds, ws, ps, ex, sq, R, Dw, hd, hal, hk, hL, hlen, q⟩
  subst ex
  obtain ⟨u, rfl, rx⟩ := vals1 r
  cases rx
  have zs := zip_snd hlen
  have zl : (ds.zip ps).length ≤ sizeLine := by simp; omega
  have A1 : PySem.W.AllAlike ((ds.zip ps).map Prod.snd) := by rw [zs]; exact alike_all hal
  have A2 : PySem.W.Sortable ((ds.zip ps).map Prod.snd) := by rw [zs]; exact sortable_all hk
  have room : ∀ b, b ∈ ds.zip ps → X.A.units + 2 + b.2.depth < cLine := fun b hb => by
    have h1 : b.2 ∈ ps := by rw [← zs]; exact List.mem_map_of_mem hb
    have := hd _ h1
    unfold tops at this
    omega
  rcases sq with sq | sq
  · obtain ⟨its, rv, pl, hz⟩ := I.list (by rw [hX.K]; exact sq)
    obtain ⟨e1, e2⟩ := items_each hX I R Dw rv
    refine PySem.W.sorted_data pl.isList e1 e2 A1 A2 zl room fun out ho eo => ?_
    obtain ⟨ws', v1, R1⟩ := each_back eo
    obtain ⟨c, hc⟩ := PyProof.Rows.sortedAll_at s.heap its out.toArray
    have fr : H (s.heap.objs.size + 1) = none := I.hok.fresh (Nat.le_succ _)
    refine ⟨.ref (s.heap.objs.size + 1), upd H (s.heap.objs.size + 1) (.lst ws'), I.laid (t' := s.toks) (fun b u e => PyProof.Rows.sortedAll_old e) (Nat.le_succ _) (show ObjOk X.prog X.w _ _ _ (.lst ws') from ⟨?_, out, c, v1, hc⟩), rfl, q _ ws' fr R1⟩
    rw [v1.length, ho]; exact zl
  · obtain ⟨its, rv, pt, hz⟩ := I.tuple (by rw [hX.K]; exact sq)
    obtain ⟨e1, e2⟩ := items_each hX I R Dw rv
    refine sorted_tup pt e1 e2 A1 A2 zl room fun h' L out c hk' hL' hc eo => ?_
    obtain ⟨ws', v1, R1⟩ := each_back eo
    have fr : H L = none := I.hok.gone hL'
    refine ⟨.ref L, upd H L (.lst ws'), I.laidN (t' := s.toks) hk' hL' fr (show ObjOk X.prog X.w _ _ _ (.lst ws') from ⟨?_, out, c, v1, hc⟩), rfl, q _ ws' fr R1⟩
    rw [v1.length, eo.length]
    simpa using zl
theorem dpAll_depth {H : Hp} {K : PySem.W.Frag} : ∀ {ps : List PyData} {k : Nat}, PyData.depthAll ps ≤ k → ∀ p ∈ ps, p.depth ≤ k
  | [], _, _ => fun _ h => nomatch h
  | p :: ps, k, h => by
    simp only [PyData.depthAll] at h
    intro x hx
    rcases List.mem_cons.mp hx with rfl | hx
    · omega
    · exact dpAll_depth (K := K) (H := H) (by omega) x hx
theorem mapO_len {α β : Type} {f : α → Option β} : ∀ {xs : List α} {ys : List β}, mapO f xs = some ys → xs.length = ys.length
  | [], ys, h => by cases h; rfl
  | x :: xs, ys, h => by
    unfold mapO at h
    cases e : f x with
    | none => rw [e] at h; cases h
    | some y =>
      rw [e] at h
      obtain ⟨zs, h1, rfl⟩ := Option.map_eq_some_iff.mp h
      simp [mapO_len h1]
theorem cd_sorted (hX : Fits X W) (hu : X.A.units + 65 < cLine) : CallD X W (.builtin "sorted") sortedD := by
  refine ⟨_, call_sortD hX hu, fun {m cs st H ds vs F Q E} S R P q => ?_⟩
  unfold sortedD at q
  split at q
  · rename_i d
    obtain ⟨v, rfl, r⟩ := rep1 R
    split at q
    · rename_i xs e
      unfold sortD at q
      cases e2 : mapO st.data xs with
      | none => rw [e2] at q; exact False.elim q
      | some ps =>
        rw [e2] at q
        dsimp only at q
        by_cases hc : (alikeB ps && (ps.all tupleB || ps.all otherB) && decide (xs.length ≤ line) && DV.D.noTs xs) = true
        · rw [if_pos hc] at q
          simp only [Bool.and_eq_true, decide_eq_true_eq] at hc
          obtain ⟨⟨⟨c1, c2⟩, c3⟩, c4⟩ := hc
          obtain ⟨a, ws, G, rfl, rs, sub, kd⟩ := seq_rep S r e
          obtain rfl := rs.noT c4
          obtain ⟨d1, _, _, d4⟩ := datas_of S e2 rs
          refine ⟨a, m, xs, ws, ps, rfl, ?_, rs, d1, dpAll_depth (K := W.K) (H := H) d4, c1, c2, by rw [← line_eq]; exact c3, mapO_len e2, fun p ws' hp R' => VP.list S hp R' P (List.nil_sublist _) q⟩
          rcases kd with ⟨_, h⟩ | ⟨_, h⟩
          · exact .inr h
          · exact .inl h
        · rw [if_neg hc] at q
          exact False.elim q
    · exact False.elim q
  · exact False.elim q
/-! ### min -/
mutual
theorem fromP_pure {o : List MO} : ∀ (k : Nat) {d : D} {p : PyData}, d.pure = true → toP o k d = some p → fromP p = d
  | 0, _, _, _, h => by cases h
  | k + 1, .non, p, _, h => by cases h; rfl
  | k + 1, .bl b, p, _, h => by cases h; rfl
  | k + 1, .int b, p, _, h => by cases h; rfl
  | k + 1, .str b, p, _, h => by
    unfold toP at h
    dsimp only at h
    split at h
    · cases h; rfl
    · cases h
  | k + 1, .tup xs, p, hp, h => by
    unfold toP at h
    dsimp only at h
    obtain ⟨qs, h1, rfl⟩ := Option.map_eq_some_iff.mp h
    simp only [fromP]
    rw [fromPs_pure k (by simpa [DV.D.pure] using hp) h1]
  | k + 1, .exn _, p, hp, _ => by cases hp
  | k + 1, .tl _, p, hp, _ => by cases hp
  | k + 1, .td _ _, p, hp, _ => by cases hp
  | k + 1, .loc _, p, hp, _ => by cases hp
  | k + 1, .fro _, p, hp, _ => by cases hp
theorem fromPs_pure {o : List MO} : ∀ (k : Nat) {ds : List D} {ps : List PyData}, DV.D.pures ds = true → mapO (toP o k) ds = some ps → fromPs ps = ds
  | k, [], ps, _, h => by cases h; rfl
  | k, d :: ds, ps, hp, h => by
    simp only [DV.D.pures, Bool.and_eq_true] at hp
    unfold mapO at h
    cases e : toP o k d with
    | none => rw [e] at h; cases h
    | some p =>
      rw [e] at h
      obtain ⟨qs, h1, rfl⟩ := Option.map_eq_some_iff.mp h
      simp only [fromPs]
      rw [fromP_pure k hp.1 e, fromPs_pure k hp.2 h1]
end
mutual
theorem pure_noT : ∀ {d : D}, d.pure = true → d.noT = true
  | .non, _ => rfl
  | .bl _, _ => rfl
  | .int _, _ => rfl
  | .str _, _ => rfl
  | .tup xs, h => by simpa [DV.D.noT] using pures_noTs (ds := xs) (by simpa [DV.D.pure] using h)
  | .exn _, h => by cases h
  | .tl _, h => by cases h
  | .td _ _, h => by cases h
  | .loc _, h => by cases h
  | .fro _, h => by cases h
theorem pures_noTs : ∀ {ds : List D}, DV.D.pures ds = true → DV.D.noTs ds = true
  | [], _ => rfl
  | x :: xs, h => by
    simp only [DV.D.pures, Bool.and_eq_true] at h
    simp [DV.D.noTs, pure_noT h.1, pures_noTs h.2]
end
def rMinDD (W : Wd) : List V → Hp → VK → Prop := fun vs H Q => ∃ (a : Addr) (ws : List V) (p : PyData) (ps : List PyData), vs = [.ref a] ∧ SqL W.K H a ws ∧ DpAll W.K H ws (p :: ps) ∧ PyData.depthAll (p :: ps) ≤ tops ∧ PyData.canLayAll0 (p :: ps) = true ∧ PySem.W.AlikeAll (p :: ps) ∧
  ∀ (i : Nat) (v : V), (ws : List V)[i]? = some v → (p :: ps)[i]? = some (PySem.W.minD p ps) → Q v H
theorem reads_get {h : Heap} : ∀ {us : List Value} {ps : List PyData} {as : List Addr} {i : Nat} {u : Value}, ReadsAll h us ps as → us[i]? = some u → ∃ p bs, ps[i]? = some p ∧ Reads h u p bs
  | [], _, _, _, _, _, e => by simp at e
  | u' :: us, _, _, 0, u, .cons r rs, e => by
    simp at e; subst e
    exact ⟨_, _, rfl, r⟩
  | u' :: us, _, _, i + 1, u, .cons r rs, e => by
    obtain ⟨p, bs, h1, h2⟩ := reads_get rs (i := i) (by simpa using e)
    exact ⟨p, bs, by simpa using h1, h2⟩
theorem canLay_get {ps : List PyData} {i : Nat} {p : PyData} (h : PyData.canLayAll0 ps = true) (e : ps[i]? = some p) : p.canLay0 = true := by
  induction ps generalizing i with
  | nil => simp at e
  | cons q qs ih =>
    simp only [PyData.canLayAll0, Bool.and_eq_true] at h
    cases i with
    | zero => simp at e; rw [← e]; exact h.1
    | succ i => exact ih h.2 (by simpa using e)
theorem call_minDD (hX : Fits X W) (hc : X.calm = true) (hu : X.A.units + 65 < cLine) : CallR X (.builtin "min") (rMinDD W) := by
  intro pins s σ H xs us Q I r ⟨a, ws, p, ps, ex, sq, Dw, hd, hl, hal, q⟩
  subst ex
  obtain ⟨u, rfl, rx⟩ := vals1 r
  cases rx
  obtain ⟨its, rv, pl, hz⟩ := I.list (by rw [hX.K]; exact sq)
  obtain ⟨as, hr⟩ := Dp.readsAll I _ _ _ (by rw [hX.K]; exact Dw) rv
  refine PySem.W.min_list_data (I.ok.hd hc) pl.isList (by simpa using hr) hal (by unfold tops at hd; omega) fun i v h' tk bs hv rd k => ?_
  have hv' : its[i]? = some v := by simpa using hv
  obtain ⟨p', bs', h1, h2⟩ := reads_get hr hv'
  have e : p' = PySem.W.minD p ps := PySem.SeqAt.Reads.unique _ _ _ _ _ (canLay_get hl h1) (PyProof.Rows.Reads.keeps k h2) rd
  have hi : i < ws.length := by
    have := (List.getElem?_eq_some_iff.mp hv').1
    rw [rv.length]; exact this
  obtain ⟨u, hu1, hu2⟩ := rv.get (List.getElem?_eq_getElem hi)
  rw [hv'] at hu1
  cases hu1
  exact ⟨_, H, I.kept (t' := tk) k, hu2, q i _ (List.getElem?_eq_getElem hi) (by rw [h1, e])⟩
theorem mapO_get {α β : Type} {f : α → Option β} : ∀ {xs : List α} {ys : List β} {i : Nat} {y : β}, mapO f xs = some ys → ys[i]? = some y → ∃ x, xs[i]? = some x ∧ f x = some y
  | [], ys, i, y, h, e => by cases h; simp at e
  | x :: xs, ys, i, y, h, e => by
    unfold mapO at h
    cases e2 : f x with
    | none => rw [e2] at h; cases h
    | some z =>
      rw [e2] at h
      obtain ⟨zs, h1, rfl⟩ := Option.map_eq_some_iff.mp h
      cases i with
      | zero => simp at e; subst e; exact ⟨x, rfl, e2⟩
      | succ i =>
        obtain ⟨w, k1, k2⟩ := mapO_get h1 (i := i) (by simpa using e)
        exact ⟨w, by simpa using k1, k2⟩
theorem pures_get {xs : List D} {i : Nat} {x : D} (h : DV.D.pures xs = true) (e : xs[i]? = some x) : x.pure = true := by
  induction xs generalizing i with
  | nil => simp at e
  | cons q qs ih =>
    simp only [DV.D.pures, Bool.and_eq_true] at h
    cases i with
    | zero => simp at e; rw [← e]; exact h.1
    | succ i => exact ih h.2 (by simpa using e)
theorem cd_min1 (hX : Fits X W) (hc : X.calm = true) (hu : X.A.units + 65 < cLine) : CallD X W (.builtin "min") min1D := by
  refine ⟨_, call_minDD hX hc hu, fun {m cs st H ds vs F Q E} S R P q => ?_⟩
  unfold min1D at q
  split at q
  · rename_i d
    obtain ⟨v, rfl, r⟩ := rep1 R
    split at q
    · rename_i xs e
      unfold minD at q
      cases e2 : mapO st.data xs with
      | none => rw [e2] at q; exact False.elim q
      | some ps =>
        rw [e2] at q
        cases ps with
        | nil => exact False.elim q
        | cons p ps =>
          dsimp only at q
          by_cases hh : (alikeB (p :: ps) && ((p :: ps).all tupleB || (p :: ps).all otherB) && DV.D.pures xs) = true
          · rw [if_pos hh] at q
            simp only [Bool.and_eq_true] at hh
            obtain ⟨⟨c1, c2⟩, c4⟩ := hh
            obtain ⟨a, ws, G, rfl, rs, sub, sq⟩ := list_rep S r e
            obtain rfl := rs.noT (pures_noTs c4)
            obtain ⟨d1, _, d3, d4⟩ := datas_of S e2 rs
            refine ⟨a, ws, p, ps, rfl, sq, d1, d4, d3, ⟨alike_all c1, fun x hx z => ?_⟩, fun i v h1 h2 => ?_⟩
            · subst z
              rcases sortable_all c2 with h | h
              · obtain ⟨_, _, h⟩ := h _ hx; cases h
              · exact (h _ hx).1 rfl
            · obtain ⟨x, k1, k2⟩ := mapO_get e2 h2
              obtain ⟨w, k3, k4⟩ := rs.get k1
              rw [h1] at k3
              cases k3
              have hx : fromP (PySem.W.minD p ps) = x := fromP_pure tops (pures_get c4 k1) k2
              have hq : (VP W cs Q).ok m H F (fromP (PySem.W.minD p ps)) st := q
              rw [hx] at hq
              exact VP.flat S k4 hq
          · rw [if_neg hh] at q
            exact False.elim q
    · exact False.elim q
  · exact False.elim q
/-! ### repr -/
def rReprD (W : Wd) : List V → Hp → VK → Prop := fun vs H Q => ∃ a p, vs = [.ref a] ∧ Dp W.K H (.ref a) p ∧ p.canLay0 = true ∧ p.depth ≤ tops ∧ p.showable = true ∧ p.shown.length ≤ sizeLine ∧ Q (.str p.shown) H
theorem call_reprD (hX : Fits X W) (hg : X.A.guards = some []) (hu : X.A.units + 65 < cLine) : CallR X (.builtin "repr") (rReprD W) := by
  intro pins s σ H xs us Q I r ⟨a, p, ex, Dw, hl, hd, hs, hz, q⟩
  subst ex
  obtain ⟨u, rfl, rx⟩ := vals1 r
  cases rx
  obtain ⟨as, hr⟩ := Dp.reads I p (.ref a) (.ref a) (by rw [hX.K]; exact Dw) rfl
  exact repr_of_reads' hr hs (PyData.noDict_hsm (PyData.hasDict_of_canLay _ hl)) hg (by unfold tops at hd; omega) (fun _ _ e => e) (fun h' u tk k => ⟨.str p.shown, H, I.kept (t' := tk) k, ⟨u, rfl⟩, q⟩) hz
def rReprA (W : Wd) : List V → Hp → VK → Prop := fun vs H Q => rReprD W vs H Q ∨ (∃ i : Int, vs = [.int i] ∧ i.natAbs.log2 < 1920 ∧ Q (.str (PyData.int i).shown) H) ∨ (∃ b : Bool, vs = [.bl b] ∧ Q (.str (PyData.bool b).shown) H) ∨ (vs = [.non] ∧ Q (.str PyData.none.shown) H)
theorem call_reprA (hX : Fits X W) (hg : X.A.guards = some []) (hu : X.A.units + 65 < cLine) : CallR X (.builtin "repr") (rReprA W) := by
  intro pins s σ H xs us Q I r h
  rcases h with h | ⟨i, rfl, hz, q⟩ | ⟨b, rfl, q⟩ | ⟨rfl, q⟩
  · exact call_reprD hX hg hu pins s σ H xs us Q I r h
  · obtain ⟨u, rfl, t, rfl⟩ := vals1 r
    exact PySem.P.repr_of_int hz ⟨.str _, H, I.tok _, ⟨_, rfl⟩, q⟩
  · obtain ⟨u, rfl, rx⟩ := vals1 r
    cases rx
    exact PySem.P.repr_of_bool ⟨.str _, H, I.tok _, ⟨_, rfl⟩, q⟩
  · obtain ⟨u, rfl, rx⟩ := vals1 r
    cases rx
    exact PySem.P.repr_of_none ⟨.str _, H, I.tok _, ⟨_, rfl⟩, q⟩
theorem cd_repr (hX : Fits X W) (hg : X.A.guards = some []) (hu : X.A.units + 65 < cLine) : CallD X W (.builtin "repr") reprD := by
  refine ⟨_, call_reprA hX hg hu, fun {m cs st H ds vs F Q E} S R P q => ?_⟩
  unfold reprD at q
  split at q
  · rename_i d
    obtain ⟨v, rfl, r⟩ := rep1 R
    split at q
    · rename_i xs p e1 e2
      by_cases hh : (p.showable && decide (p.shown.length ≤ line)) = true
      · rw [if_pos hh] at q
        simp only [Bool.and_eq_true, decide_eq_true_eq] at hh
        obtain ⟨a, ws, G, rfl, _⟩ := seq_rep S r e1
        obtain ⟨k1, k2, k3⟩ := dp_of S _ e2 r
        exact .inl ⟨a, p, rfl, k1, k2, k3, hh.1, by rw [← line_eq]; exact hh.2, VP.flat (d := .str _) S ⟨rfl, rfl⟩ q⟩
      · rw [if_neg hh] at q
        exact False.elim q
    · split at q
      · rename_i _ i _
        by_cases hz : i.natAbs.log2 < 1920
        · rw [if_pos hz] at q
          obtain ⟨rfl, rfl⟩ := r
          exact .inr (.inl ⟨i, rfl, hz, VP.flat (d := .str _) S ⟨rfl, rfl⟩ q⟩)
        · rw [if_neg hz] at q
          exact False.elim q
      · rename_i _ b _
        obtain ⟨rfl, rfl⟩ := r
        exact .inr (.inr (.inl ⟨b, rfl, VP.flat (d := .str _) S ⟨rfl, rfl⟩ q⟩))
      · obtain ⟨rfl, rfl⟩ := r
        exact .inr (.inr (.inr ⟨rfl, VP.flat (d := .str _) S ⟨rfl, rfl⟩ q⟩))
      · exact False.elim q
    · exact False.elim q
  · exact False.elim q
/-! ### list(range(..)), tuple(range(..)) -/
theorem rgV_rep {m : List Addr} {H : Hp} (a b : Int) : RepVs W m H (rangeD a b) (rgV a b) [] := by
  unfold rangeD rgV
  generalize List.range (b - a).toNat = l
  induction l with
  | nil => exact ⟨rfl, rfl⟩
  | cons x xs ih => exact ⟨_, _, [], [], rfl, rfl, ⟨rfl, rfl⟩, ih⟩
theorem rg_ok {a b : Int} (h : (rangeOk a b && decide (b - a ≤ line)) = true) : RgOk a b := by
  simp only [Bool.and_eq_true, decide_eq_true_eq] at h
  have h1 := h.1
  unfold rangeOk at h1
  simp only [Bool.and_eq_true, decide_eq_true_eq] at h1
  have h2 := h.2
  unfold line at h2
  refine ⟨by omega, by omega, by omega, by omega, by omega⟩
def tTupRgF (te : L2.St → Hp → (Int → Int → Hp → Prop) → Prop) : TE := fun σ H Q => te σ H fun a b H1 => RgOk a b ∧ NewT H1 (rgV a b) Q
theorem pe_tupRgF {e : Expr} {te : L2.St → Hp → (Int → Int → Hp → Prop) → Prop} {p pos : Pos} (hc : X.calm = true) (hg : Gl X "tuple") (hm : X.mg "tuple" = none) (he : PRg X e te) (na : starEach [e] X.env = (false, eval e X.env) :: starEach [] X.env) : PE X (.Call (.Name "tuple" p) [e] [] pos) (tTupRgF te) := by
  refine ⟨fun pins s σ H Q I h => ?_⟩
  refine Call_ (ld_blt I hg hm boot_tuple (PyProof.Rows.callWith_type1 (args_cons (thn (he pins s σ H _ I h) fun x s1 ⟨r, a, b, t, u, v, H1, ex, hr, I1, ok, q⟩ => args_nil ?_) na) na))
  subst ex
  obtain ⟨b1, b2, b3, b4, b5⟩ := ok
  refine call_tuple_range (n := (b - a).toNat) (I1.ok.hd hc) hr (small_one b1 b2 b3 b4) (rangeSize_nat a b) b5 fun h1 tk acc hk hi => ?_
  have I2 : Inv X pins σ H1 { s1 with heap := h1, toks := tk } := I1.kept hk
  have z := tup_end (Q := Q) I2 (xs := rgV a b) (its := acc.toList) (vals_rg hi) (by rw [rgV_length, sizeLine_eq]; omega) q
  rw [Array.toArray_toList] at z
  exact z
variable {a b : Expr} {ra rb : Slots → Sto → Res D}
theorem RepVs.one' {m : List Addr} {H : Hp} {d : D} {v : V} {F : List Addr} (r : RepV W m H d v F) : RepVs W m H [d] [v] ([] ++ F) := ⟨v, [], F, [], rfl, by simp, r, rfl, rfl⟩
theorem rg1_rd {f : List D → Sto → Res D} {g : Int → Sto → Res D} (hf : ∀ ds st, f ds st = int1 ds fun n => g n st) {σ : L2.St} {H : Hp} {Q : VK} (q : tD W B (fun s st => (ra s st).bind fun x st => f [x] st) σ H Q) :
    tRg1 (tD W B ra) σ H fun a b H1 => a = 0 ∧ ∃ st m cs F, Sat W m cs st H1 ∧ Pend m H1 F ∧ RP (VP W cs Q) cs (EB B σ) m H1 F (g b st) := by
  obtain ⟨s, st, m, cs, RS, S, q⟩ := q
  refine stepD S RS .nil q fun d st1 v H1 m1 F1 g1 S1 RS1 R1 P1 q1 => ?_
  rw [hf] at q1
  obtain ⟨i, e, q2⟩ := int1_rep (RepVs.one' R1) q1
  cases e
  exact ⟨i, rfl, rfl, st1, m1, cs, _, S1, P1, q2⟩
theorem rg2_rd {g : Int → Int → Sto → Res D} {f : List D → Sto → Res D} (hf : ∀ ds st, f ds st = int2 ds fun i j => g i j st) {σ : L2.St} {H : Hp} {Q : VK} (q : tD W B (fun s st => (ra s st).bind fun x st => (rb s st).bind fun y st => f [x, y] st) σ H Q) :
    tRg2 (tD W B ra) (tD W B rb) σ H fun a b H1 => ∃ st m cs F, Sat W m cs st H1 ∧ Pend m H1 F ∧ RP (VP W cs Q) cs (EB B σ) m H1 F (g a b st) := by
  obtain ⟨s, st, m, cs, RS, S, q⟩ := q
  refine stepD S RS .nil q fun d st1 v H1 m1 F1 g1 S1 RS1 R1 P1 q1 => ?_
  refine stepD S1 RS1 P1 q1 fun e st2 u H2 m2 F2 g2 S2 RS2 R2 P2 q2 => ?_
  rw [hf] at q2
  have R1' := R1.grow S1.mut g2 fun a ha => (P1.out a (by simpa using ha)).1
  have R3 : RepVs W m2 H2 [d, e] [v, u] ([] ++ F1 ++ F2) := ⟨v, [u], F1, F2, rfl, by simp, R1', u, [], F2, [], rfl, by simp, R2, rfl, rfl⟩
  obtain ⟨i, j, e1, q3⟩ := int2_rep R3 q2
  cases e1
  exact ⟨i, j, rfl, rfl, st2, m2, cs, _, S2, P2, q3⟩
theorem tD_mono {σ : L2.St} {H : Hp} {Q Q' : VK} (q : tD W B ra σ H Q) (h : ∀ v H, Q v H → Q' v H) : tD W B ra σ H Q' := by
  obtain ⟨s, st, m, cs, RS, S, q⟩ := q
  refine ⟨s, st, m, cs, RS, S, ?_⟩
  cases e : ra s st with
  | ok d st1 => rw [e] at q; exact fun v H' m' F g S R T => h _ _ (q v H' m' F g S R T)
  | exc c st1 => rw [e] at q; exact q
  | bad => rw [e] at q; exact q
theorem tRg1_mono {σ : L2.St} {H : Hp} {R R' : Int → Int → Hp → Prop} (q : tRg1 (tD W B ra) σ H R) (h : ∀ a b H, R a b H → R' a b H) : tRg1 (tD W B ra) σ H R' :=
  tD_mono q fun v H ⟨n, e, z⟩ => ⟨n, e, h _ _ _ z⟩
variable {p p2 pos2 : Pos}
theorem xd_listR1 (hc : X.calm = true) (hg : Gl X "list") (hm : X.mg "list" = none) (hg2 : Gl X "range") (hm2 : X.mg "range" = none) (ha : PE X a (tD W B ra)) (na : starEach [a] X.env = (false, eval a X.env) :: starEach [] X.env)
    (na2 : starEach [.Call (.Name "range" p2) [a] [] pos2] X.env = (false, eval (.Call (.Name "range" p2) [a] [] pos2) X.env) :: starEach [] X.env) : PE X (.Call (.Name "list" p) [.Call (.Name "range" p2) [a] [] pos2] [] pos) (tD W B fun s st => (ra s st).bind fun x st => listR1 [x] st) := by
  refine peD (pe_listRg hc hg hm (prg_1 hg2 hm2 ha na) na2) fun σ H Q q => ?_
  refine tRg1_mono (rg1_rd (fun _ _ => rfl) q) fun i j H1 ⟨e, st, m, cs, F, S, P, q⟩ => ?_
  subst e
  split at q
  · rename_i h
    exact ⟨rg_ok (by simpa using h), fun l hl => VP.list S hl (rgV_rep 0 j) P (List.nil_sublist _) q⟩
  · exact False.elim q
theorem xd_tupR1 (hc : X.calm = true) (hg : Gl X "tuple") (hm : X.mg "tuple" = none) (hg2 : Gl X "range") (hm2 : X.mg "range" = none) (ha : PE X a (tD W B ra)) (na : starEach [a] X.env = (false, eval a X.env) :: starEach [] X.env)
    (na2 : starEach [.Call (.Name "range" p2) [a] [] pos2] X.env = (false, eval (.Call (.Name "range" p2) [a] [] pos2) X.env) :: starEach [] X.env) : PE X (.Call (.Name "tuple" p) [.Call (.Name "range" p2) [a] [] pos2] [] pos) (tD W B fun s st => (ra s st).bind fun x st => tupR1 [x] st) := by
  refine peD (pe_tupRgF hc hg hm (prg_1 hg2 hm2 ha na) na2) fun σ H Q q => ?_
  refine tRg1_mono (rg1_rd (fun _ _ => rfl) q) fun i j H1 ⟨e, st, m, cs, F, S, P, q⟩ => ?_
  subst e
  split at q
  · rename_i h
    exact ⟨rg_ok (by simpa using h), VP.tuple S (rgV_rep 0 j) P (List.nil_sublist _) q⟩
  · exact False.elim q
theorem tRg2_mono {σ : L2.St} {H : Hp} {R R' : Int → Int → Hp → Prop} (q : tRg2 (tD W B ra) (tD W B rb) σ H R) (h : ∀ a b H, R a b H → R' a b H) : tRg2 (tD W B ra) (tD W B rb) σ H R' :=
  tD_mono q fun v H z => tD_mono z fun w H ⟨i, j, e1, e2, z⟩ => ⟨i, j, e1, e2, h _ _ _ z⟩
theorem xd_listR2 (hc : X.calm = true) (hg : Gl X "list") (hm : X.mg "list" = none) (hg2 : Gl X "range") (hm2 : X.mg "range" = none) (ha : PE X a (tD W B ra)) (hb : PE X b (tD W B rb)) (na : starEach [a, b] X.env = (false, eval a X.env) :: starEach [b] X.env) (nb : starEach [b] X.env = (false, eval b X.env) :: starEach [] X.env) (hpl : (backTo pos2 (starEach [b] X.env)).any (·.1) = false)
    (na2 : starEach [.Call (.Name "range" p2) [a, b] [] pos2] X.env = (false, eval (.Call (.Name "range" p2) [a, b] [] pos2) X.env) :: starEach [] X.env) : PE X (.Call (.Name "list" p) [.Call (.Name "range" p2) [a, b] [] pos2] [] pos) (tD W B fun s st => (ra s st).bind fun x st => (rb s st).bind fun y st => listR2 [x, y] st) := by
  refine peD (pe_listRg hc hg hm (prg_2 hg2 hm2 ha hb na nb hpl) na2) fun σ H Q q => ?_
  refine tRg2_mono (rg2_rd (fun _ _ => rfl) q) fun i j H1 ⟨st, m, cs, F, S, P, q⟩ => ?_
  split at q
  · rename_i h
    exact ⟨rg_ok h, fun l hl => VP.list S hl (rgV_rep i j) P (List.nil_sublist _) q⟩
  · exact False.elim q
theorem xd_tupR2 (hc : X.calm = true) (hg : Gl X "tuple") (hm : X.mg "tuple" = none) (hg2 : Gl X "range") (hm2 : X.mg "range" = none) (ha : PE X a (tD W B ra)) (hb : PE X b (tD W B rb)) (na : starEach [a, b] X.env = (false, eval a X.env) :: starEach [b] X.env) (nb : starEach [b] X.env = (false, eval b X.env) :: starEach [] X.env) (hpl : (backTo pos2 (starEach [b] X.env)).any (·.1) = false)
    (na2 : starEach [.Call (.Name "range" p2) [a, b] [] pos2] X.env = (false, eval (.Call (.Name "range" p2) [a, b] [] pos2) X.env) :: starEach [] X.env) : PE X (.Call (.Name "tuple" p) [.Call (.Name "range" p2) [a, b] [] pos2] [] pos) (tD W B fun s st => (ra s st).bind fun x st => (rb s st).bind fun y st => tupR2 [x, y] st) := by
  refine peD (pe_tupRgF hc hg hm (prg_2 hg2 hm2 ha hb na nb hpl) na2) fun σ H Q q => ?_
  refine tRg2_mono (rg2_rd (fun _ _ => rfl) q) fun i j H1 ⟨st, m, cs, F, S, P, q⟩ => ?_
  split at q
  · rename_i h
    exact ⟨rg_ok h, VP.tuple S (rgV_rep i j) P (List.nil_sublist _) q⟩
  · exact False.elim q
/-- isinstance(x, T) -/
theorem xd_is (t : IsT) {e : Expr} {re : Slots → Sto → Res D} {p3 : Pos} (hX : Fits X W) (hg : Gl X "isinstance") (hm : X.mg "isinstance" = none) (hgt : Gl X (Str.ofString t.name)) (hmt : X.mg (Str.ofString t.name) = none) (he : PE X e (tD W B re))
    (h1 : starEach (e :: [.Name (Str.ofString t.name) p3]) X.env = (false, eval e X.env) :: starEach [.Name (Str.ofString t.name) p3] X.env) (h2 : starEach [.Name (Str.ofString t.name) p3] X.env = (false, eval (.Name (Str.ofString t.name) p3) X.env) :: starEach [] X.env) (hpl : (backTo pos (starEach [.Name (Str.ofString t.name) p3] X.env)).any (·.1) = false) :
    PE X (.Call (.Name "isinstance" p) [e, .Name (Str.ofString t.name) p3] [] pos) (tD W B fun s st => (re s st).bind fun x st => isD t [x] st) := by
  have hv : bootBuiltins (Str.ofString t.name) = some (.type t.name) ∧ Str.ofString t.name ≠ "__name__" ∧ (Str.ofString t.name == ("__debug__" : Str)) = false := by cases t <;> decide +kernel
  have hc : PE X (.Name (Str.ofString t.name) p3) (tC (.ty t.name)) := pe_bltn hgt hmt hv.1 rfl hv.2.1 hv.2.2
  refine peD (pe_callB (call_isD hX t) hg hm (by decide +kernel) (pa_cons he (pa_cons hc pa_nil h2) h1) (by decide) (by decide) h1 hpl) fun σ H Q q => ?_
  obtain ⟨s, st, m, cs, RS, S, q⟩ := q
  refine stepD S RS .nil q fun d st1 v H1 m1 F1 g1 S1 RS1 R1 P1 q1 => ?_
  unfold isD at q1
  dsimp only at q1
  split at q1
  · rename_i h
    obtain ⟨T, ty, k⟩ := is_rep t S1 R1 h
    exact ⟨v, T, _, rfl, ty, k, VP.flat (d := .bl _) S1 ⟨rfl, rfl⟩ q1⟩
  · exact False.elim q1
end
end DV
set_option Elab.async false
set_option linter.all false
set_option autoImplicit false
set_option maxRecDepth 100000
set_option maxHeartbeats 4000000
/-! DN: methods. -/
namespace DV
open PySem PySem.Spec PyProof.Rows L2
/-- the value is of that built-in type and has no dict -/
def TyAt (X : Cx) (T : String) (x : V) (H : Hp) : Prop := ∀ (pins : List (Addr × Obj)) (σ : L2.St) (s : Shared) (u : Value), Inv X pins σ H s → RelV x u → s.TypeIs u T ∧ ∀ a, u = .ref a → ∃ ob, s.heap.get? a = some ob ∧ ob.dict = none
structure Mt (X : Cx) (name : Str) (T id : String) (r : V → List V → Hp → VK → Prop) : Prop where
  pa : PlainAttrs T
  slot : Slot T name id
  ty : typeOf (.builtin id) = pure (.type "method_descriptor")
  run : MtR X id r
section
variable {W : Wd} {B : WX} {X : Cx} {pos : Pos}
theorem ty_list {H : Hp} {a : Addr} {xs : List V} (h : SqL X.K H a xs) : TyAt X "list" (.ref a) H := fun pins σ s u I r => tyV_is I r (.inl ⟨rfl, xs, h⟩)
theorem ty_tup {H : Hp} {a : Addr} {xs : List V} (h : TupR X.K H a xs) : TyAt X "tuple" (.ref a) H := fun pins σ s u I r => by
  cases r
  rcases h with ⟨o, e, d⟩ | ⟨o, its, n, e, d, c, _⟩
  · obtain ⟨e1, z, its, rv, o2, e2, c, _⟩ := I.hok a _ e
    rw [e1] at e2
    cases e2
    refine ⟨⟨o, e1, c⟩, fun b q => ?_⟩
    cases q
    exact ⟨o, e1, d⟩
  · refine ⟨⟨o, I.kIn a o e, c⟩, fun b q => ?_⟩
    cases q
    exact ⟨o, I.kIn _ o e, d⟩
theorem ty_dict {m : List Addr} {H : Hp} {a : Addr} {ks : List D} {ws : List V} (hX : Fits X W) (D : DictAt W m H a ks ws) : TyAt X "dict" (.ref a) H := fun pins σ s u I r => by
  cases r
  obtain ⟨h1, h2, _⟩ := dict_type (X := X) I D
  exact ⟨h1, h2⟩
variable {o e : Expr} {es : List Expr} {name : Str} {apos cpos : Pos}
theorem pe_dyn {to : TE} {t : TA} (ho : PE X o to) (ha : PA X (e :: es) t) (hbase : attributeBase o name X.env (eval o X.env) = eval o X.env)
    (hfew : ((backTo cpos (starEach (e :: es) X.env)).all (fun x => !x.1) && (backToKw cpos (keywordEach [] X.env)).all (fun x => x.1.isSome)
      && decide ((e :: es).length + ([] : List Keyword).length + (if ([] : List Keyword).isEmpty then 0 else 1) < 30)) = true)
    (hline : (apos.endLine == cpos.line) = true) (hs : starEach (e :: es) X.env = (false, eval e X.env) :: starEach es X.env) (hplain : (backTo cpos (starEach es X.env)).any (·.1) = false) :
    PE X (.Call (.Attribute o name apos) (e :: es) [] cpos) (fun σ H Q => to σ H fun x H1 => ∃ T id r, Mt X name T id r ∧ TyAt X T x H1 ∧ t σ H1 fun xs H2 => r x xs H2 Q) := by
  refine ⟨fun pins s σ H Q I h => ?_⟩
  refine wpAny_Call_method_late hbase hfew hline rfl (thn (ho.run pins s σ H _ I h) fun v s1 ⟨x, H1, I1, r1, T, id, r, M, ty, q1⟩ => ?_)
  obtain ⟨h1, h2⟩ := ty pins σ s1 v I1 r1
  refine ⟨T, id, M.pa, M.slot, M.ty, h1, h2, ?_⟩
  have hA := ha.run cpos pins s1 σ H1 _ I1 q1
  rw [hs] at hA ⊢
  refine Calls.callWith_builtin (by show (false || (backTo cpos (starEach es X.env)).any (·.1)) = false; rw [hplain] <;> rfl) (Calls.evalArgs_plain ?_)
  exact thn hA fun us s2 ⟨vs, H2, I2, r2, q2⟩ => M.run pins s2 σ H2 x vs v us Q I2 r1 r2 q2
theorem pe_dyn0 {to : TE} (ho : PE X o to) (hbase : attributeBase o name X.env (eval o X.env) = eval o X.env) (hline : (apos.endLine == cpos.line) = true) :
    PE X (.Call (.Attribute o name apos) [] [] cpos) (fun σ H Q => to σ H fun x H1 => ∃ T id r, Mt X name T id r ∧ TyAt X T x H1 ∧ r x [] H1 Q) := by
  refine ⟨fun pins s σ H Q I h => ?_⟩
  refine wpAny_Call_method0_late hbase hline (thn (ho.run pins s σ H _ I h) fun v s1 ⟨x, H1, I1, r1, T, id, r, M, ty, q1⟩ => ?_)
  obtain ⟨h1, h2⟩ := ty pins σ s1 v I1 r1
  exact ⟨T, id, M.pa, M.slot, M.ty, h1, h2, Calls.callWith_builtin rfl (PySem.evalArgs_none (M.run pins s1 σ H1 x [] v [] Q I1 r1 .nil q1))⟩
/-- a method on deep values; (m0, H0): the state ahead of the whole -/
def MthD (X : Cx) (W : Wd) (name : Str) (ok : D → Sto → Bool) (g : D → List D → Sto → Res D) : Prop :=
  ∀ {m : List Addr} {cs : List Nat} {st : Sto} {H : Hp} {d : D} {v : V} {F : List Addr}, Sat W m cs st H → RepV W m H d v F → ok d st = true → ∃ T id r, Mt X name T id r ∧ TyAt X T v H ∧
    ∀ {m0 : List Addr} {H0 : Hp} {m' : List Addr} {cs' : List Nat} {st' : Sto} {H' : Hp} {ds : List D} {vs : List V} {F' : List Addr} {Q : VK} {E : XK}, Grow m0 H0 m' H' → Sat W m' cs' st' H' → RepV W m' H' d v F → RepVs W m' H' ds vs F' → Tmp m' H0 [] (F ++ F') →
      RP (VP W cs' Q) cs' E m0 H0 [] (g d ds st') → r v vs H' Q
theorem xd_mth {ok : D → Sto → Bool} {g : D → List D → Sto → Res D} {ro : Slots → Sto → Res D} {rs : Slots → Sto → Res (List D)} (hM : MthD X W name ok g) (ho : PE X o (tD W B ro)) (ha : PA X (e :: es) (tDs W B rs)) (hbase : attributeBase o name X.env (eval o X.env) = eval o X.env)
    (hfew : ((backTo cpos (starEach (e :: es) X.env)).all (fun x => !x.1) && (backToKw cpos (keywordEach [] X.env)).all (fun x => x.1.isSome)
      && decide ((e :: es).length + ([] : List Keyword).length + (if ([] : List Keyword).isEmpty then 0 else 1) < 30)) = true)
    (hline : (apos.endLine == cpos.line) = true) (hs : starEach (e :: es) X.env = (false, eval e X.env) :: starEach es X.env) (hplain : (backTo cpos (starEach es X.env)).any (·.1) = false) :
    PE X (.Call (.Attribute o name apos) (e :: es) [] cpos) (tD W B fun s st => (ro s st).bind fun x st => if ok x st then (rs s st).bind fun ds st => g x ds st else .bad) := by
  refine peD (pe_dyn ho ha hbase hfew hline hs hplain) fun σ H Q ⟨s, st, m, cs, RS, S, q⟩ => ?_
  refine ⟨s, st, m, cs, RS, S, ?_⟩
  dsimp only at q
  cases e1 : ro s st with
  | bad => rw [e1] at q; exact q
  | exc c st1 => rw [e1] at q; exact q
  | ok x st1 =>
    rw [e1] at q
    intro v H1 m1 F1 g1 S1 R1 T1
    have q : RP (VP W cs Q) cs (EB B σ) m H [] (if ok x st1 then (rs s st1).bind fun ds st => g x ds st else .bad) := q
    split at q
    · rename_i hk
      obtain ⟨T, id, r, M, ty, fin⟩ := hM S1 R1 hk
      refine ⟨T, id, r, M, ty, s, st1, m1, cs, RS.grow S.mut g1, S1, ?_⟩
      cases e2 : rs s st1 with
      | bad => rw [e2] at q; exact q
      | exc c st2 =>
        rw [e2] at q
        exact fun H' m' g' S' => q H' m' (g1.trans S1.mut g') S'
      | ok ds st2 =>
        rw [e2] at q
        intro vs H2 m2 F2 g2 S2 R2 T2
        have P1 : Pend m1 H1 F1 := ⟨T1.nd, fun a ha => ⟨(T1.out a ha).1, R1.there a ha⟩⟩
        have P2 := P1.add (W := W) g2 T2 R2.there
        refine fin (g1.trans S1.mut g2) S2 (R1.grow S1.mut g2 fun a ha => (T1.out a ha).1) R2 ⟨P2.nd, fun a ha => ⟨(P2.out a ha).1, .inr ?_⟩⟩ q
        rcases List.mem_append.mp ha with z | z
        · rcases (T1.out a z).2 with y | y
          · cases y
          · exact y
        · rcases (T2.out a z).2 with y | y
          · cases y
          · exact g1.free S1.mut y
    · exact False.elim q
theorem xd_mth0 {ok : D → Sto → Bool} {g : D → List D → Sto → Res D} {ro : Slots → Sto → Res D} (hM : MthD X W name ok g) (ho : PE X o (tD W B ro)) (hbase : attributeBase o name X.env (eval o X.env) = eval o X.env) (hline : (apos.endLine == cpos.line) = true) :
    PE X (.Call (.Attribute o name apos) [] [] cpos) (tD W B fun s st => (ro s st).bind fun x st => if ok x st then g x [] st else .bad) := by
  refine peD (pe_dyn0 ho hbase hline) fun σ H Q ⟨s, st, m, cs, RS, S, q⟩ => ?_
  refine ⟨s, st, m, cs, RS, S, ?_⟩
  dsimp only at q
  cases e1 : ro s st with
  | bad => rw [e1] at q; exact q
  | exc c st1 => rw [e1] at q; exact q
  | ok x st1 =>
    rw [e1] at q
    intro v H1 m1 F1 g1 S1 R1 T1
    have q : RP (VP W cs Q) cs (EB B σ) m H [] (if ok x st1 then g x [] st1 else .bad) := q
    split at q
    · rename_i hk
      obtain ⟨T, id, r, M, ty, fin⟩ := hM S1 R1 hk
      exact ⟨T, id, r, M, ty, fin (F' := []) g1 S1 R1 RepVs.nil_nil (by simpa using T1) q⟩
    · exact False.elim q
/-! ### the store's lists change -/
mutual
theorem settle_pre : ∀ (d : D) (o : List MO), ∃ n, (settle d o).2 = o ++ n
  | .non, o => ⟨[], by simp [settle]⟩
  | .bl _, o => ⟨[], by simp [settle]⟩
  | .int _, o => ⟨[], by simp [settle]⟩
  | .str _, o => ⟨[], by simp [settle]⟩
  | .exn _, o => ⟨[], by simp [settle]⟩
  | .loc _, o => ⟨[], by simp [settle]⟩
  | .fro _, o => ⟨[], by simp [settle]⟩
  | .tup xs, o => by obtain ⟨n, e⟩ := settles_pre xs o; exact ⟨n, by simp [settle, e]⟩
  | .tl xs, o => by obtain ⟨n, e⟩ := settles_pre xs o; exact ⟨n ++ [.lst (settles xs o).1], by simp [settle, e]⟩
  | .td ks xs, o => by obtain ⟨n, e⟩ := settles_pre xs o; exact ⟨n ++ [.dic ks (settles xs o).1], by simp [settle, e]⟩
theorem settles_pre : ∀ (ds : List D) (o : List MO), ∃ n, (settles ds o).2 = o ++ n
  | [], o => ⟨[], by simp [settles]⟩
  | x :: xs, o => by
    obtain ⟨n, e⟩ := settle_pre x o
    obtain ⟨n2, e2⟩ := settles_pre xs (settle x o).2
    exact ⟨n ++ n2, by simp only [settles]; rw [e2, e, List.append_assoc]⟩
end
theorem stl_get {d : D} {st : Sto} {l : Nat} {o : MO} (h : st.objs[l]? = some o) : (stl d st).2.objs[l]? = some o := by
  unfold stl
  split
  · exact h
  · obtain ⟨n, e⟩ := settle_pre d st.objs
    show (settle d st.objs).2[l]? = some o
    rw [e, List.getElem?_append_left (List.getElem?_eq_some_iff.mp h).1]
    exact h
theorem prep_get {d : D} {st : Sto} {l : Nat} {o : MO} (h : st.objs[l]? = some o) : (prep d st).2.objs[l]? = some o := by
  unfold prep
  split
  · split
    · exact h
    · exact stl_get h
  · exact stl_get h
theorem lst_at {m : List Addr} {cs : List Nat} {st : Sto} {H : Hp} {d : D} {v : V} {F : List Addr} (S : Sat W m cs st H) (R : RepV W m H d v F) (h : isLst d st = true) : ∃ l a xs vs, d = .loc l ∧ v = .ref a ∧ F = [] ∧ m[l]? = some a ∧ st.objs[l]? = some (.lst xs) ∧ H a = some (.lst vs) ∧ RepVs W m H xs vs [] := by
  unfold isLst at h
  split at h
  · rename_i l
    split at h
    · rename_i xs e
      obtain ⟨a, rfl, hm, rfl⟩ := R
      obtain ⟨vs, h1, h2⟩ := S.obj l a _ hm e
      exact ⟨l, a, xs, vs, rfl, rfl, rfl, hm, e, h1, h2⟩
    · cases h
  · cases h
theorem onList_loc {st : Sto} {l : Nat} {xs : List D} {k : Nat → List D → Res D} (h : st.objs[l]? = some (.lst xs)) : onList st (.loc l) k = k l xs := by
  unfold onList
  dsimp only
  rw [h]
theorem onList_bad {st : Sto} {d : D} {k : Nat → List D → Res D} {Z : Post W D} {cs : List Nat} {E : XK} {m : List Addr} {H : Hp} {G : List Addr} (h : RP Z cs E m H G (onList st d k)) : ∃ l xs, d = .loc l ∧ st.objs[l]? = some (.lst xs) ∧ RP Z cs E m H G (k l xs) := by
  unfold onList at h
  split at h
  · rename_i l
    split at h
    · rename_i xs e
      exact ⟨l, xs, rfl, e, h⟩
    · exact False.elim h
  · exact False.elim h
/-- a list of the store gets other items -/
theorem lst_set {m0 m : List Addr} {H0 H : Hp} {cs : List Nat} {st : Sto} {l : Nat} {a : Addr} {xs ys : List D} {ws : List V} {ok : Bool} {Q : VK} {v : V} {d : D} (g : Grow m0 H0 m H) (S : Sat W m cs st H) (hm : m[l]? = some a) (e : st.objs[l]? = some (.lst xs)) (R : RepVs W m H ys ws [])
    (hok : ok = true → ∀ n, DV.D.unds n xs = true → DV.D.unds n ys = true) (Rv : RepV W m H d v []) (q : (VP W cs Q).ok m0 H0 [] d (st.put l (.lst ys) ok)) : Q v (upd H a (.lst ws)) := by
  have mem : a ∈ m := List.mem_of_getElem? hm
  have gm : Grow m H m (upd H a (.lst ws)) := .mut mem
  exact q v _ m [] (g.trans S.mut gm) (S.set hm e ⟨ws, upd_same, R.grow S.mut gm (by simp)⟩ hok) (Rv.grow S.mut gm (by simp)) ⟨List.nodup_nil, fun _ h => nomatch h⟩
theorem md_append (hX : Fits X W) : MthD X W "append" isLst appendD := by
  intro m cs st H d v F S R hk
  obtain ⟨l, a, xs0, vs0, rfl, rfl, rfl, hm, e0, hH, rs0⟩ := lst_at S R hk
  refine ⟨"list", _, _, ⟨PySem.F.plainAttrs_list, PySem.F.slot_list_append, PySem.F.type_list_append, mt_append⟩, ty_list (.inl (.inl hH)), fun {m0 H0 m' cs' st' H' ds vs F' Q E} g S' R' Rs T q => ?_⟩
  unfold appendD at q
  split at q
  · rename_i x
    obtain ⟨y, rfl, ry⟩ := rep1 Rs
    obtain ⟨l', xs, e1, e, q⟩ := onList_bad q
    cases e1
    obtain ⟨a', ea, hm', _⟩ := R'
    cases ea
    obtain ⟨ws, hH', rs⟩ := S'.obj l a _ hm' e
    split at q
    · rename_i hl
      have hF : ∀ b ∈ F', b ∉ m' := fun b hb => (T.out b (by simpa using hb)).1
      obtain ⟨S2, R2⟩ := stl_rep S' ry (by simpa using T.nd) hF
      have g2 := g.settle (F := F') fun b hb => by
        rcases (T.out b (by simpa using hb)).2 with z | z
        · cases z
        · exact z
      refine ⟨a, ws, y, rfl, rfl, hH', by rw [rs.length, ← line_eq]; exact hl, ?_⟩
      refine lst_set (ys := xs ++ [(stl x st').1]) g2 S2 (by rw [List.getElem?_append_left (List.getElem?_eq_some_iff.mp hm').1]; exact hm') (stl_get e) ((rs.app F').snoc R2) (fun hn n hu => unds_snoc hu hn) (d := .non) ⟨rfl, rfl⟩ q
    · exact False.elim q
  · exact False.elim q
theorem unds_sub {n : Nat} {xs ys : List D} (h : ∀ d ∈ ys, d ∈ xs) (hu : DV.D.unds n xs = true) : DV.D.unds n ys = true := by
  rw [unds_iff] at hu ⊢
  exact fun d hd => hu d (h d hd)
theorem unds_app {n : Nat} {xs ys : List D} (hu : DV.D.unds n xs = true) (hy : DV.D.noLs ys = true) : DV.D.unds n (xs ++ ys) = true := by
  rw [unds_iff] at hu ⊢
  rw [noLs_iff] at hy
  intro d hd
  rcases List.mem_append.mp hd with z | z
  · exact hu d z
  · exact noL_und n (hy d z)
theorem RepVs.erase {m : List Addr} {H : Hp} : ∀ {ds : List D} {vs : List V} (j : Nat), RepVs W m H ds vs [] → RepVs W m H (ds.eraseIdx j) (vs.eraseIdx j) []
  | [], vs, j, h => by obtain ⟨rfl, _⟩ := h; exact ⟨rfl, rfl⟩
  | d :: ds, vs, j, h => by
    obtain ⟨v, ws, F1, F2, rfl, e2, r, rs⟩ := h
    obtain ⟨rfl, rfl⟩ := List.append_eq_nil_iff.mp e2.symm
    cases j with
    | zero => exact rs
    | succ j => exact ⟨v, ws.eraseIdx j, [], [], rfl, rfl, r, RepVs.erase j rs⟩
theorem RepVs.drop1 {m : List Addr} {H : Hp} {ds : List D} {vs : List V} (h : RepVs W m H ds vs []) : RepVs W m H ds.dropLast vs.dropLast [] := by
  have e1 : ∀ {α : Type} (l : List α), l.dropLast = l.eraseIdx (l.length - 1) := fun l => by
    rw [List.eraseIdx_eq_take_drop_succ, List.dropLast_eq_take]
    rcases l.eq_nil_or_concat with rfl | ⟨ys, y, rfl⟩
    · rfl
    · simp
  rw [e1, e1, h.length]
  exact h.erase _
theorem md_pop0 (hX : Fits X W) : MthD X W "pop" isLst pop0D := by
  intro m cs st H d v F S R hk
  obtain ⟨l, a, xs0, vs0, rfl, rfl, rfl, hm, e0, hH, rs0⟩ := lst_at S R hk
  refine ⟨"list", _, _, ⟨PySem.F.plainAttrs_list, PySem.F.slot_list_pop, PySem.F.type_list_pop, mt_pop⟩, ty_list (.inl (.inl hH)), fun {m0 H0 m' cs' st' H' ds vs F' Q E} g S' R' Rs T q => ?_⟩
  unfold pop0D at q
  split at q
  · obtain ⟨rfl, _⟩ := Rs
    obtain ⟨l', xs, e1, e, q⟩ := onList_bad q
    cases e1
    obtain ⟨a', ea, hm', _⟩ := R'
    cases ea
    obtain ⟨ws, hH', rs⟩ := S'.obj l a _ hm' e
    split at q
    · rename_i y hy
      obtain ⟨w, h1, h2⟩ := rs.get hy
      refine ⟨a, ws, w, rfl, rfl, hH', by rw [rs.length]; exact h1, ?_⟩
      exact lst_set g S' hm' e rs.drop1 (fun _ n hu => unds_sub (fun d hd => List.dropLast_subset _ hd) hu) h2 q
    · exact False.elim q
  · exact False.elim q
theorem ixOf_seq {n : Nat} {i : Int} {j : Nat} (h : ixOf n i = some j) : seqIndex? i n = some j ∧ j < n := by
  have e : ixN n i = some j := h
  obtain ⟨h1, h2, h3, h4⟩ := ixN_seq e
  exact ⟨h1, h2⟩
theorem md_pop1 (hX : Fits X W) : MthD X W "pop" isLst pop1D := by
  intro m cs st H d v F S R hk
  obtain ⟨l, a, xs0, vs0, rfl, rfl, rfl, hm, e0, hH, rs0⟩ := lst_at S R hk
  refine ⟨"list", _, _, ⟨PySem.F.plainAttrs_list, PySem.F.slot_list_pop, PySem.F.type_list_pop, mt_popAt⟩, ty_list (.inl (.inl hH)), fun {m0 H0 m' cs' st' H' ds vs F' Q E} g S' R' Rs T q => ?_⟩
  unfold pop1D int1 at q
  split at q
  · rename_i x
    obtain ⟨y, rfl, ry⟩ := rep1 Rs
    cases ei : intO x with
    | none => rw [ei] at q; exact False.elim q
    | some i =>
      rw [ei] at q
      obtain rfl := intO_rep ei ry
      obtain ⟨l', xs, e1, e, q⟩ := onList_bad q
      cases e1
      obtain ⟨a', ea, hm', _⟩ := R'
      cases ea
      obtain ⟨ws, hH', rs⟩ := S'.obj l a _ hm' e
      split at q
      · rename_i hb
        simp only [Bool.and_eq_true, decide_eq_true_eq] at hb
        split at q
        · rename_i j hj
          split at q
          · rename_i y hy
            obtain ⟨w, h1, h2⟩ := rs.get hy
            refine ⟨a, ws, i, j, w, rfl, rfl, hH', by omega, by omega, by rw [rs.length]; exact (ixOf_seq hj).1, h1, ?_⟩
            exact lst_set g S' hm' e (rs.erase j) (fun _ n hu => unds_sub (fun d hd => List.mem_of_mem_eraseIdx hd) hu) h2 q
          · exact False.elim q
        · exact False.elim q
      · exact False.elim q
  · exact False.elim q
/-- what prep leaves is flat -/
def flat' : D → Bool
  | .tl xs => DV.D.noTs xs
  | _ => true
theorem prep_rep' {m : List Addr} {cs : List Nat} {H : Hp} {d : D} {st : Sto} {v : V} {F : List Addr} (S : Sat W m cs st H) (R : RepV W m H d v F) (P : F.Nodup) (out : ∀ a ∈ F, a ∉ m) :
    flat' (prep d st).1 = true ∧ ∃ F1 F2, Sat W (m ++ F1) cs (prep d st).2 H ∧ RepV W (m ++ F1) H (prep d st).1 v F2 ∧ ((F1 = F ∧ F2 = []) ∨ (F1 = [] ∧ F2 = F)) := by
  obtain ⟨h, r⟩ := prep_rep S R P out
  refine ⟨?_, r⟩
  generalize (prep d st).1 = x at h
  cases x <;> first
    | exact h
    | rfl
theorem md_extend (hX : Fits X W) : MthD X W "extend" isLst extendD := by
  intro m cs st H d v F S R hk
  obtain ⟨l, a, xs0, vs0, rfl, rfl, rfl, hm, e0, hH, rs0⟩ := lst_at S R hk
  refine ⟨"list", _, _, ⟨PySem.F.plainAttrs_list, PySem.F.slot_list_extend, PySem.F.type_list_extend, mt_extend⟩, ty_list (.inl (.inl hH)), fun {m0 H0 m' cs' st' H' ds vs F' Q E} g S' R' Rs T q => ?_⟩
  unfold extendD at q
  split at q
  · rename_i x
    obtain ⟨y, rfl, ry⟩ := rep1 Rs
    obtain ⟨l', xs, e1, e, q⟩ := onList_bad q
    cases e1
    obtain ⟨a', ea, hm', _⟩ := R'
    cases ea
    obtain ⟨ws, hH', rs⟩ := S'.obj l a _ hm' e
    have newF : ∀ b ∈ F', H0 b = none := fun b hb => by
      rcases (T.out b (by simpa using hb)).2 with z | z
      · cases z
      · exact z
    have hF : ∀ b ∈ F', b ∉ m' := fun b hb => (T.out b (by simpa using hb)).1
    obtain ⟨fl, F1, F2, S2, R2, hs⟩ := prep_rep' S' ry (by simpa using T.nd) hF
    have F1s : ∀ b ∈ F1, b ∈ F' := fun b hb => by
      rcases hs with ⟨z, _⟩ | ⟨z, _⟩
      · rw [← z]; exact hb
      · rw [z] at hb; cases hb
    have g2 := g.settle (F := F1) fun b hb => newF b (F1s b hb)
    have hm2 : (m' ++ F1)[l]? = some a := by rw [List.getElem?_append_left (List.getElem?_eq_some_iff.mp hm').1]; exact hm'
    dsimp only at q
    split at q
    · exact False.elim q
    · rename_i hne
      split at q
      · rename_i ys ey
        split at q
        · rename_i hl
          -- the other list
          have ob : ∃ b zs, y = .ref b ∧ H' b = some (.lst zs) ∧ RepVs W (m' ++ F1) H' ys zs [] := by
            generalize hp : (prep x st').1 = p at *
            cases p with
            | tl ys' =>
              cases ey
              obtain ⟨b, zs, G, e3, _, e4, r⟩ := R2
              obtain rfl := r.noT (by simpa [flat'] using fl)
              exact ⟨b, zs, e3, e4, r⟩
            | loc l2 =>
              obtain ⟨b, e3, e4, _⟩ := R2
              unfold Sto.own at ey
              dsimp only at ey
              split at ey
              · rename_i e5
                cases ey
                obtain ⟨zs, e6, r⟩ := S2.obj l2 b _ e4 e5
                exact ⟨b, zs, e3, e6, r⟩
              · cases ey
            | _ => cases ey
          obtain ⟨b, zs, rfl, hb, rz⟩ := ob
          refine ⟨a, b, ws, zs, rfl, rfl, hH', hb, by rw [rs.length, rz.length, ← line_eq]; exact hl, ?_⟩
          refine lst_set (ys := xs ++ ys) g2 S2 hm2 (prep_get e) ?_ (fun hn n hu => unds_app hu hn) (d := .non) ⟨rfl, rfl⟩ q
          simpa using (rs.app F1).append rz
        · exact False.elim q
      · exact False.elim q
  · exact False.elim q
/-! ### by == -/
/-- the items as values that compare by their data -/
structure Hits (X : Cx) (H : Hp) (s : Shared) (its : List Value) (ds : List PyData) (u : Value) (d : PyData) : Prop where
  len : its.length = ds.length
  at_ : ∀ (m : Nat) (hm : m < its.toArray.size) (z : PyData), ds[m]? = some z → SeqAt.readOf s.heap its.toArray[m] = z
  eq : ∀ y, y ∈ its.toArray → SeqAt.EqAt X.A.in1 s y u (PyData.eqv (SeqAt.readOf s.heap y) d)
  all : its.map (SeqAt.readOf s.heap) = ds
theorem hits_of {m : List Addr} {cs : List Nat} {st : Sto} {H : Hp} {xs : List D} {vs : List V} {F F2 : List Addr} {ps : List PyData} {x : D} {y : V} {p : PyData} {pins : List (Addr × Obj)} {σ : L2.St} {s : Shared} {its : List Value} {u : Value} (hX : Fits X W) (hu : X.A.units + 65 < cLine) (S : Sat W m cs st H) (h1 : mapO st.data xs = some ps) (h2 : st.data x = some p) (R : RepVs W m H xs vs F) (R2 : RepV W m H x y F2) (I : Inv X pins σ H s) (rv : Vals vs its) (ru : RelV y u) : Hits X H s its ps u p := by
  obtain ⟨d1, _, d3, d4⟩ := datas_of S h1 R
  obtain ⟨k1, k2, k3⟩ := dp_of S _ h2 R2
  obtain ⟨as, hr⟩ := Dp.readsAll I _ _ _ (by rw [hX.K]; exact d1) rv
  obtain ⟨bs, hx⟩ := Dp.reads I _ _ _ (by rw [hX.K]; exact k1) ru
  have hn : its.length = ps.length := SeqAt.ReadsAll.length ps its as hr
  have hmap : its.map (SeqAt.readOf s.heap) = ps := SeqAt.readsAll_map ps its as d3 hr
  refine ⟨hn, fun j hj z hz => ?_, ?_, hmap⟩
  · have hml : j < its.length := by simpa using hj
    rw [← hmap, List.getElem?_map, List.getElem?_eq_getElem hml] at hz
    have e1 : SeqAt.readOf s.heap its[j] = z := Option.some.inj (show some (SeqAt.readOf s.heap its[j]) = some z from hz)
    simpa using e1
  · have room : X.A.units + 1 + min (PyData.depthAll ps) p.depth < cLine := by
      have := Nat.min_le_right (PyData.depthAll ps) p.depth
      unfold tops at k3
      omega
    exact SeqAt.items_eqAt (vs := its.toArray) (by simpa using hr) hx d3 k2 room
theorem Hits.found {H : Hp} {s : Shared} {its : List Value} {ds : List PyData} {u : Value} {d : PyData} {j : Nat} (h : Hits X H s its ds u d) (e : ds.findIdx? (fun z => PyData.eqv z d) = some j) :
    ∃ hj : j < its.toArray.size, PyData.eqv (SeqAt.readOf s.heap its.toArray[j]) d = true ∧ ∀ m (hm : m < its.toArray.size), m < j → PyData.eqv (SeqAt.readOf s.heap its.toArray[m]) d = false := by
  obtain ⟨h1, h2, h3⟩ := List.findIdx?_eq_some_iff_getElem.mp e
  have hl := h.len
  have hj : j < its.toArray.size := by rw [List.size_toArray]; omega
  refine ⟨hj, ?_, fun m hm hmj => ?_⟩
  · rw [h.at_ j hj _ (List.getElem?_eq_getElem h1)]
    exact h2
  · rw [List.size_toArray] at hm
    have hmd : m < ds.length := by omega
    rw [h.at_ m (by rw [List.size_toArray]; exact hm) _ (List.getElem?_eq_getElem hmd)]
    simpa using h3 m hmj
/-- l.remove(x), l.index(x), l.count(x), t.index(x), t.count(x): what is there -/
def rFind (W : Wd) (tp : Bool) (k : V → List V → Nat → List PyData → PyData → Hp → VK → Prop) : V → List V → Hp → VK → Prop := fun x vs H Q => ∃ (a : Addr) (y : V) (m : List Addr) (cs : List Nat) (st : Sto) (xs : List D) (ws : List V) (F F2 : List Addr) (ps : List PyData) (d : D) (p : PyData), x = .ref a ∧ vs = [y] ∧ Sat W m cs st H ∧ mapO st.data xs = some ps ∧ st.data d = some p ∧ RepVs W m H xs ws F ∧ RepV W m H d y F2 ∧
  (if tp then SqT W.K H a ws else SqL W.K H a ws) ∧ k x ws a ps p H Q
def kIdx : V → List V → Nat → List PyData → PyData → Hp → VK → Prop := fun _ _ _ ps p H Q => ∃ j, ps.findIdx? (fun z => PyData.eqv z p) = some j ∧ Q (.int (j : Nat)) H
def kCnt : V → List V → Nat → List PyData → PyData → Hp → VK → Prop := fun _ _ _ ps p H Q => Q (.int ((ps.countP fun z => PyData.eqv z p : Nat) : Int)) H
def kRem : V → List V → Nat → List PyData → PyData → Hp → VK → Prop := fun _ ws a ps p H Q => H a = some (.lst ws) ∧ ∃ j, ps.findIdx? (fun z => PyData.eqv z p) = some j ∧ Q .non (upd H a (.lst (ws.eraseIdx j)))
theorem mt_idxL (hX : Fits X W) (hu : X.A.units + 65 < cLine) : MtR X "list.index" (rFind W false kIdx) := by
  intro pins s σ H x xs v us Q I rx rxs ⟨a, y, m, cs, st, ds, ws, F, F2, ps, d, p, ex, exs, S, e1, e2, R, R2, sq, j, hj, q⟩
  subst ex exs
  cases rx
  obtain ⟨u, rfl, ru⟩ := rxs.one
  rw [if_neg Bool.false_ne_true, ← hX.K] at sq
  obtain ⟨its, rv, ⟨⟨cls, dd, data, sl⟩, n, ho, hc, hdn, hdt⟩, hlen⟩ := I.list sq
  simp only at hc hdt
  subst hc hdt
  have hh := hits_of hX hu S e1 e2 R R2 I rv ru
  obtain ⟨hj', hit, hno⟩ := hh.found hj
  have hsl := sizeLine_eq
  have hvl := rv.length
  exact call_meets PySem.F.slot_list_index ⟨_, ho, rfl⟩ PySem.F.entry_list_index (PySem.F.args_list_index_2 _ _)
    (SeqAt.list_indexAt a its.toArray n dd sl u (fun u => PyData.eqv (SeqAt.readOf s.heap u) p) j hj' (by rw [List.size_toArray] at hj'; omega) hit hno) ⟨ho, hh.eq, ⟨.int (j : Nat), H, I.tok _, ⟨_, rfl⟩, q⟩⟩
theorem mt_idxT (hX : Fits X W) (hu : X.A.units + 65 < cLine) : MtR X "tuple.index" (rFind W true kIdx) := by
  intro pins s σ H x xs v us Q I rx rxs ⟨a, y, m, cs, st, ds, ws, F, F2, ps, d, p, ex, exs, S, e1, e2, R, R2, sq, j, hj, q⟩
  subst ex exs
  cases rx
  obtain ⟨u, rfl, ru⟩ := rxs.one
  rw [if_pos rfl, ← hX.K] at sq
  obtain ⟨its, rv, ⟨⟨cls, dd, data, sl⟩, ho, hc, n, hdt⟩, hlen⟩ := I.tuple sq
  simp only at hc hdt
  subst hc hdt
  have hh := hits_of hX hu S e1 e2 R R2 I rv ru
  obtain ⟨hj', hit, hno⟩ := hh.found hj
  exact call_meets PySem.F.slot_tuple_index ⟨_, ho, rfl⟩ PySem.F.entry_tuple_index (PySem.F.args_tuple_index_2 _ _)
    (TI.tuple_indexAt a its.toArray n dd sl u (fun u => PyData.eqv (SeqAt.readOf s.heap u) p) j hj' hit hno) ⟨ho, hh.eq, ⟨.int (j : Nat), H, I.tok _, ⟨_, rfl⟩, q⟩⟩
theorem cnt_eq {H : Hp} {s : Shared} {its : List Value} {ds : List PyData} {u : Value} {d : PyData} (h : Hits X H s its ds u d) : its.toArray.toList.countP (fun u => PyData.eqv (SeqAt.readOf s.heap u) d) = ds.countP fun z => PyData.eqv z d := by
  rw [← h.all, List.countP_map]
  rfl
theorem mt_cntL (hX : Fits X W) (hu : X.A.units + 65 < cLine) : MtR X "list.count" (rFind W false kCnt) := by
  intro pins s σ H x xs v us Q I rx rxs ⟨a, y, m, cs, st, ds, ws, F, F2, ps, d, p, ex, exs, S, e1, e2, R, R2, sq, q⟩
  subst ex exs
  cases rx
  obtain ⟨u, rfl, ru⟩ := rxs.one
  rw [if_neg Bool.false_ne_true, ← hX.K] at sq
  obtain ⟨its, rv, ⟨⟨cls, dd, data, sl⟩, n, ho, hc, hdn, hdt⟩, hlen⟩ := I.list sq
  simp only at hc hdt
  subst hc hdt
  have hh := hits_of hX hu S e1 e2 R R2 I rv ru
  refine call_meets PySem.F.slot_list_count ⟨_, ho, rfl⟩ PySem.F.entry_list_count (PySem.F.args_list_count_2 _ _)
    (SeqAt.list_countAt a its.toArray n dd sl u (fun u => PyData.eqv (SeqAt.readOf s.heap u) p)) ⟨ho, hh.eq, ⟨.int _, H, I.tok _, ⟨_, rfl⟩, ?_⟩⟩
  rw [cnt_eq hh]
  exact q
theorem mt_cntT (hX : Fits X W) (hu : X.A.units + 65 < cLine) : MtR X "tuple.count" (rFind W true kCnt) := by
  intro pins s σ H x xs v us Q I rx rxs ⟨a, y, m, cs, st, ds, ws, F, F2, ps, d, p, ex, exs, S, e1, e2, R, R2, sq, q⟩
  subst ex exs
  cases rx
  obtain ⟨u, rfl, ru⟩ := rxs.one
  rw [if_pos rfl, ← hX.K] at sq
  obtain ⟨its, rv, ⟨⟨cls, dd, data, sl⟩, ho, hc, n, hdt⟩, hlen⟩ := I.tuple sq
  simp only at hc hdt
  subst hc hdt
  have hh := hits_of hX hu S e1 e2 R R2 I rv ru
  refine call_meets PySem.F.slot_tuple_count ⟨_, ho, rfl⟩ PySem.F.entry_tuple_count (PySem.F.args_tuple_count_2 _ _)
    (SeqAt.tuple_countAt a its.toArray n dd sl u (fun u => PyData.eqv (SeqAt.readOf s.heap u) p)) ⟨ho, hh.eq, ⟨.int _, H, I.tok _, ⟨_, rfl⟩, ?_⟩⟩
  rw [cnt_eq hh]
  exact q
theorem mt_rem (hX : Fits X W) (hu : X.A.units + 65 < cLine) : MtR X "list.remove" (rFind W false kRem) := by
  intro pins s σ H x xs v us Q I rx rxs ⟨a, y, m, cs, st, ds, ws, F, F2, ps, d, p, ex, exs, S, e1, e2, R, R2, sq, hH, j, hj, q⟩
  subst ex exs
  cases rx
  obtain ⟨u, rfl, ru⟩ := rxs.one
  obtain ⟨z, its, n, rv, hl, e⟩ := I.lstM hH
  have hh := hits_of hX hu S e1 e2 R R2 I rv ru
  obtain ⟨hj', hit, hno⟩ := hh.found hj
  refine call_meets PySem.F.slot_list_remove ⟨_, e, rfl⟩ PySem.F.entry_list_remove (PySem.F.args_list_remove_2 _ _)
    (PySem.SeqAt.list_removeAt a its.toArray n none #[] u (fun u => PyData.eqv (SeqAt.readOf s.heap u) p) j hj' hit hno (by rw [List.size_toArray]; omega)) ⟨e, hh.eq, ?_⟩
  refine ⟨.non, _, I.lset (its' := its.eraseIdx j) (t' := s.toks) hH e ?_ (rv.eraseIdx j) ?_, rfl, q⟩
  · show its.toArray.eraseIdxIfInBounds j = (its.eraseIdx j).toArray
    rw [List.eraseIdxIfInBounds_toArray]
  · have := len_erase ws j
    omega
theorem md_index (hX : Fits X W) (hu : X.A.units + 65 < cLine) : MthD X W "index" (fun x st => (st.seq x).isSome) indexD := by
  intro m cs st H d v F S R hk
  obtain ⟨xs0, e0⟩ := Option.isSome_iff_exists.mp hk
  obtain ⟨a, ws, G, rfl, rs, sub, kd⟩ := seq_rep S R e0
  have fin : ∀ (tp : Bool), d.isTup = tp → ∀ {m0 : List Addr} {H0 : Hp} {m' : List Addr} {cs' : List Nat} {st' : Sto} {H' : Hp} {ds : List D} {vs : List V} {F' : List Addr} {Q : VK} {E : XK}, Grow m0 H0 m' H' → Sat W m' cs' st' H' → RepV W m' H' d (.ref a) F → RepVs W m' H' ds vs F' → Tmp m' H0 [] (F ++ F') →
      RP (VP W cs' Q) cs' E m0 H0 [] (indexD d ds st') → rFind W tp kIdx (.ref a) vs H' Q := by
    intro tp htp m0 H0 m' cs' st' H' ds vs F' Q E g S' R' Rs T q
    unfold indexD at q
    split at q
    · rename_i x
      obtain ⟨y, rfl, ry⟩ := rep1 Rs
      split at q
      · rename_i xs e
        split at q
        · rename_i j ej
          obtain ⟨a', us, G', ea, rs', _, kd'⟩ := seq_rep S' R' e
          cases ea
          unfold dataFind at ej
          split at ej
          · rename_i ps p h1 h2
            cases ej2 : (ps.findIdx? fun z => PyData.eqv z p) with
            | none => rw [ej2] at ej; cases ej
            | some j' =>
              rw [ej2] at ej
              cases ej
              refine ⟨a, y, m', cs', st', xs, us, G', _, ps, x, p, rfl, rfl, S', h1, h2, rs', ry, ?_, j, ej2, ?_⟩
              · rcases kd' with ⟨h, k⟩ | ⟨h, k⟩
                · rw [← htp, h]; exact k
                · rw [← htp, h]; exact k
              · exact q _ H' m' [] g S' ⟨rfl, rfl⟩ ⟨List.nodup_nil, fun _ h => nomatch h⟩
          · cases ej
        · exact False.elim q
      · exact False.elim q
    · exact False.elim q
  rcases kd with ⟨ht, sq⟩ | ⟨ht, sq⟩
  · have tr : ∃ us, TupR W.K H a us := by
      cases d <;> simp [DV.D.isTup] at ht
      obtain ⟨a', vs, ea, t, r⟩ := R
      cases ea
      exact ⟨vs, t⟩
    obtain ⟨us, tr⟩ := tr
    exact ⟨"tuple", _, _, ⟨PySem.F.plainAttrs_tuple, PySem.F.slot_tuple_index, PySem.F.type_tuple_index, mt_idxT hX hu⟩, ty_tup (by rw [hX.K]; exact tr), fun {m0 H0 m' cs' st' H' ds vs F' Q E} => fin true ht⟩
  · exact ⟨"list", _, _, ⟨PySem.F.plainAttrs_list, PySem.F.slot_list_index, PySem.F.type_list_index, mt_idxL hX hu⟩, ty_list (by rw [hX.K]; exact sq), fun {m0 H0 m' cs' st' H' ds vs F' Q E} => fin false ht⟩
theorem md_count (hX : Fits X W) (hu : X.A.units + 65 < cLine) : MthD X W "count" (fun x st => (st.seq x).isSome) countD := by
  intro m cs st H d v F S R hk
  obtain ⟨xs0, e0⟩ := Option.isSome_iff_exists.mp hk
  obtain ⟨a, ws, G, rfl, rs, sub, kd⟩ := seq_rep S R e0
  have fin : ∀ (tp : Bool), d.isTup = tp → ∀ {m0 : List Addr} {H0 : Hp} {m' : List Addr} {cs' : List Nat} {st' : Sto} {H' : Hp} {ds : List D} {vs : List V} {F' : List Addr} {Q : VK} {E : XK}, Grow m0 H0 m' H' → Sat W m' cs' st' H' → RepV W m' H' d (.ref a) F → RepVs W m' H' ds vs F' → Tmp m' H0 [] (F ++ F') →
      RP (VP W cs' Q) cs' E m0 H0 [] (countD d ds st') → rFind W tp kCnt (.ref a) vs H' Q := by
    intro tp htp m0 H0 m' cs' st' H' ds vs F' Q E g S' R' Rs T q
    unfold countD at q
    split at q
    · rename_i x
      obtain ⟨y, rfl, ry⟩ := rep1 Rs
      split at q
      · rename_i xs e
        split at q
        · rename_i j ej
          obtain ⟨a', us, G', ea, rs', _, kd'⟩ := seq_rep S' R' e
          cases ea
          unfold dataCount at ej
          split at ej
          · rename_i ps p h1 h2
            cases ej
            refine ⟨a, y, m', cs', st', xs, us, G', _, ps, x, p, rfl, rfl, S', h1, h2, rs', ry, ?_, ?_⟩
            · rcases kd' with ⟨h, k⟩ | ⟨h, k⟩
              · rw [← htp, h]; exact k
              · rw [← htp, h]; exact k
            · exact q _ H' m' [] g S' ⟨rfl, rfl⟩ ⟨List.nodup_nil, fun _ h => nomatch h⟩
          · cases ej
        · exact False.elim q
      · exact False.elim q
    · exact False.elim q
  rcases kd with ⟨ht, sq⟩ | ⟨ht, sq⟩
  · have tr : ∃ us, TupR W.K H a us := by
      cases d <;> simp [DV.D.isTup] at ht
      obtain ⟨a', vs, ea, t, r⟩ := R
      cases ea
      exact ⟨vs, t⟩
    obtain ⟨us, tr⟩ := tr
    exact ⟨"tuple", _, _, ⟨PySem.F.plainAttrs_tuple, PySem.F.slot_tuple_count, PySem.F.type_tuple_count, mt_cntT hX hu⟩, ty_tup (by rw [hX.K]; exact tr), fun {m0 H0 m' cs' st' H' ds vs F' Q E} => fin true ht⟩
  · exact ⟨"list", _, _, ⟨PySem.F.plainAttrs_list, PySem.F.slot_list_count, PySem.F.type_list_count, mt_cntL hX hu⟩, ty_list (by rw [hX.K]; exact sq), fun {m0 H0 m' cs' st' H' ds vs F' Q E} => fin false ht⟩
theorem md_remove (hX : Fits X W) (hu : X.A.units + 65 < cLine) : MthD X W "remove" isLst removeD := by
  intro m cs st H d v F S R hk
  obtain ⟨l, a, xs0, vs0, rfl, rfl, rfl, hm, e0, hH, rs0⟩ := lst_at S R hk
  refine ⟨"list", _, _, ⟨PySem.F.plainAttrs_list, PySem.F.slot_list_remove, PySem.F.type_list_remove, mt_rem hX hu⟩, ty_list (.inl (.inl hH)), fun {m0 H0 m' cs' st' H' ds vs F' Q E} g S' R' Rs T q => ?_⟩
  unfold removeD at q
  split at q
  · rename_i x
    obtain ⟨y, rfl, ry⟩ := rep1 Rs
    obtain ⟨l', xs, e1, e, q⟩ := onList_bad q
    cases e1
    obtain ⟨a', ea, hm', _⟩ := R'
    cases ea
    obtain ⟨ws, hH', rs⟩ := S'.obj l a _ hm' e
    split at q
    · rename_i j ej
      unfold dataFind at ej
      split at ej
      · rename_i ps p h1 h2
        cases ej2 : (ps.findIdx? fun z => PyData.eqv z p) with
        | none => rw [ej2] at ej; cases ej
        | some j' =>
          rw [ej2] at ej
          cases ej
          refine ⟨a, y, m', cs', st', xs, ws, [], _, ps, x, p, rfl, rfl, S', h1, h2, rs, ry, ?_, hH', j, ej2, ?_⟩
          · rw [if_neg Bool.false_ne_true]
            exact .inl (.inl hH')
          · exact lst_set g S' hm' e (rs.erase j) (fun _ n hu => unds_sub (fun d hd => List.mem_of_mem_eraseIdx hd) hu) (d := .non) ⟨rfl, rfl⟩ q
      · cases ej
    · exact False.elim q
  · exact False.elim q
/-! ### d.get(k, x) -/
def rGet2 (W : Wd) : V → List V → Hp → VK → Prop := fun x vs H Q => ∃ (a : Addr) (y z : V) (m : List Addr) (ks : List D) (ws : List V) (k : D), x = .ref a ∧ vs = [y, z] ∧ DictAt W m H a ks ws ∧ ks.length = ws.length ∧ keyOk ks k = true ∧ RepV W m H k y [] ∧
  match ks.findIdx? fun z => decide (z = k) with
  | some j => ∃ w, ws[j]? = some w ∧ Q w H
  | none => Q z H
theorem mt_get2 (hX : Fits X W) (hu : X.A.units + 65 < cLine) : MtR X "dict.get" (rGet2 W) := by
  intro pins s σ H x xs v us Q I rx rxs ⟨a, y, z, m, ks, ws, k, ex, exs, D, hl, ok, R, q⟩
  subst ex exs
  cases rx
  obtain ⟨u, w, rfl, ru, rw'⟩ := rxs.two
  rcases dict_kinds hX I D ok R ru with ⟨kvs, kk, e, rfl, rfl, rfl, rfl⟩ | ⟨b, nk, ys, rfl, rfl, N, _⟩
  · refine d_get2 (by omega) I (DGet.k e) ru rw' fun w' s' I' r' => ⟨_, H, I', r', ?_⟩
    rw [leaf_at]
    cases ej : ((kvs.map fun p => keyD p.1).findIdx? fun z => decide (z = keyD kk)) with
    | none => rw [ej] at q; exact q
    | some j =>
      rw [ej] at q
      obtain ⟨w2, h1, q⟩ := q
      show Q (((kvs.map (·.2))[j]?).getD z) H
      rw [h1]
      exact q
  · cases ru
    have hn := nest_at N
    refine call_meetsIn PySem.F.slot_dict_get N.dict.typeIs PySem.F.entry_dict_get (PySem.F.args_dict_get_3 _ _ _) (meetsH_dict_get_default (nestedKind X.prog X.w) a b N.sys w) ⟨by show X.A.units + 1 + 8 < cLine; omega, nk, ys, N.key, N.dict, ?_⟩
    rw [hn]
    cases ej : (ks.findIdx? fun z => decide (z = nkD nk)) with
    | none => rw [ej] at q; exact ⟨z, H, I.tok _, rw', q⟩
    | some j =>
      rw [ej] at q
      obtain ⟨w2, h1, q⟩ := q
      obtain ⟨w3, h2, r3⟩ := N.vals.get h1
      show EP X pins σ Q (((ys.map (·.2.2))[j]?).getD w) _
      rw [h2]
      exact ⟨w2, H, I.tok _, r3, q⟩
theorem md_get2 (hX : Fits X W) (hu : X.A.units + 65 < cLine) : MthD X W "get" (fun x st => (st.dict x).isSome) get2D := by
  intro m cs st H d v F S R hk
  obtain ⟨⟨ks0, xs0⟩, e0⟩ := Option.isSome_iff_exists.mp hk
  obtain ⟨a, ws0, G0, rfl, D0, _⟩ := dict_rep S R e0
  refine ⟨"dict", _, _, ⟨PySem.F.plainAttrs_dict, PySem.F.slot_dict_get, PySem.F.type_dict_get, mt_get2 hX hu⟩, ty_dict hX D0, fun {m0 H0 m' cs' st' H' ds vs F' Q E} g S' R' Rs T q => ?_⟩
  unfold get2D at q
  split at q
  · rename_i k d2
    obtain ⟨y, z, F1, F2, rfl, rfl, r1, r2⟩ := rep2 Rs
    split at q
    · rename_i ks xs e
      obtain ⟨a', ws, G, ea, D', rs, sub⟩ := dict_rep S' R' e
      cases ea
      have nd := T.nd
      have base := RP.mono (F := F ++ (F1 ++ F2)) S'.mut g (fun b hb => by
        rcases (T.out b hb).2 with y | y
        · cases y
        · exact y) q
      unfold dictLook dictFind at q
      by_cases ok : keyOk ks k = true
      · rw [if_pos ok] at q
        obtain rfl := leaf_key ok r1
        have hl : ks.length = ws.length := by
          obtain ⟨o, kks, _, dh, _⟩ := D'
          exact dh.lens
        refine ⟨a, y, z, m', ks, ws, k, rfl, rfl, D', hl, ok, r1, ?_⟩
        cases ej : (ks.findIdx? fun z => decide (z = k)) with
        | none =>
          rw [ej] at q
          refine q z H' m' F2 g S' r2 ⟨?_, fun b hb => ⟨(T.out b (by simp [hb])).1, (T.out b (by simp [hb])).2⟩⟩
          have := (List.nodup_append.mp nd).2.1
          simpa using this
        | some j =>
          rw [ej] at q
          dsimp only at q
          cases ev : xs[j]? with
          | none => rw [ev] at q; exact False.elim q
          | some dv =>
            rw [ev] at q
            obtain ⟨w, G2, h1, h2, h3⟩ := rs.getF ev
            refine ⟨w, h1, q w H' m' G2 g S' h2 ⟨((List.nodup_append.mp nd).1).sublist (h3.trans sub), fun b hb => ?_⟩⟩
            have := (h3.trans sub).subset hb
            exact ⟨(T.out b (by simp [this])).1, (T.out b (by simp [this])).2⟩
      · rw [if_neg ok] at q
        exact False.elim q
    · exact False.elim q
  · exact False.elim q
end
end DV
set_option Elab.async false
set_option linter.all false
set_option autoImplicit false
set_option maxRecDepth 100000
set_option maxHeartbeats 4000000
/-! DO: the end of a call; calls. -/
namespace DV
open PySem PySem.Spec PyProof.Rows L2
section
variable {W : Wd}
/-! ### values of fewer objects -/
mutual
theorem RepV.und {m : List Addr} {H : Hp} : ∀ {d : D} {v : V} {F : List Addr}, RepV W m H d v F → d.und m.length = true
  | .non, _, _, _ => rfl
  | .bl _, _, _, _ => rfl
  | .int _, _, _, _ => rfl
  | .str _, _, _, _ => rfl
  | .exn _, _, _, _ => rfl
  | .tup xs, v, F, h => by
    obtain ⟨a, vs, e, s, r⟩ := h
    simpa [D.und] using r.und
  | .tl xs, v, F, h => by
    obtain ⟨a, vs, G, e, eF, s, r⟩ := h
    simpa [D.und] using r.und
  | .td ks xs, v, F, h => by
    obtain ⟨a, o, kks, vs, G, e, eF, s, dh, rk, r⟩ := h
    simp [D.und, rk.und, r.und]
  | .loc l, v, F, h => by
    obtain ⟨a, e, s, eF⟩ := h
    simpa [D.und] using (List.getElem?_eq_some_iff.mp s).1
  | .fro xs, v, F, h => by
    obtain ⟨a, vs, e, eF, s, r⟩ := h
    simpa [D.und] using r.und
theorem RepVs.und {m : List Addr} {H : Hp} : ∀ {ds : List D} {vs : List V} {F : List Addr}, RepVs W m H ds vs F → D.unds m.length ds = true
  | [], _, _, _ => rfl
  | x :: xs, vs, F, h => by
    obtain ⟨v, ws, F1, F2, e1, e2, r, rs⟩ := h
    simp [D.unds, r.und, rs.und]
end
theorem RepO.und {m : List Addr} {H : Hp} {a : Addr} {o : MO} (h : RepO W m H a o) : o.und m.length = true := by
  cases o with
  | lst xs => obtain ⟨vs, _, r⟩ := h; exact r.und
  | dic ks xs =>
    obtain ⟨o, kks, vs, _, _, rk, r⟩ := h
    simp [MO.und, rk.und, r.und]
  | ins c fs => exact False.elim h
mutual
theorem RepV.cut {m n : List Addr} {H : Hp} : ∀ {d : D} {v : V} {F : List Addr}, RepV W (m ++ n) H d v F → d.und m.length = true → RepV W m H d v F
  | .non, _, _, h, _ => h
  | .bl _, _, _, h, _ => h
  | .int _, _, _, h, _ => h
  | .str _, _, _, h, _ => h
  | .exn _, _, _, h, _ => h
  | .tup xs, v, F, h, u => by
    obtain ⟨a, vs, e, s, r⟩ := h
    exact ⟨a, vs, e, s, RepVs.cut r (by simpa [D.und] using u)⟩
  | .tl xs, v, F, h, u => by
    obtain ⟨a, vs, G, e, eF, s, r⟩ := h
    exact ⟨a, vs, G, e, eF, s, RepVs.cut r (by simpa [D.und] using u)⟩
  | .td ks xs, v, F, h, u => by
    obtain ⟨a, o, kks, vs, G, e, eF, s, dh, rk, r⟩ := h
    simp only [D.und, Bool.and_eq_true] at u
    exact ⟨a, o, kks, vs, G, e, eF, s, dh, RepVs.cut rk u.1, RepVs.cut r u.2⟩
  | .loc l, v, F, h, u => by
    obtain ⟨a, e, s, eF⟩ := h
    have hl : l < m.length := by simpa [D.und] using u
    rw [List.getElem?_append_left hl] at s
    exact ⟨a, e, s, eF⟩
  | .fro xs, v, F, h, u => by
    obtain ⟨a, vs, e, eF, s, r⟩ := h
    exact ⟨a, vs, e, eF, s, RepVs.cut r (by simpa [D.und] using u)⟩
theorem RepVs.cut {m n : List Addr} {H : Hp} : ∀ {ds : List D} {vs : List V} {F : List Addr}, RepVs W (m ++ n) H ds vs F → D.unds m.length ds = true → RepVs W m H ds vs F
  | [], _, _, h, _ => h
  | x :: xs, vs, F, h, u => by
    obtain ⟨v, ws, F1, F2, e1, e2, r, rs⟩ := h
    simp only [D.unds, Bool.and_eq_true] at u
    exact ⟨v, ws, F1, F2, e1, e2, RepV.cut r u.1, RepVs.cut rs u.2⟩
end
theorem RepO.cut {m n : List Addr} {H : Hp} {a : Addr} {o : MO} (h : RepO W (m ++ n) H a o) (u : o.und m.length = true) : RepO W m H a o := by
  cases o with
  | lst xs => obtain ⟨vs, e, r⟩ := h; exact ⟨vs, e, r.cut u⟩
  | dic ks xs =>
    obtain ⟨o, kks, vs, e, dh, rk, r⟩ := h
    simp only [MO.und, Bool.and_eq_true] at u
    exact ⟨o, kks, vs, e, dh, rk.cut u.1, r.cut u.2⟩
  | ins c fs => exact False.elim h
/-! ### the store ahead of a call, behind it -/
def cutsOf (n : Nat) (e : Option Nat) (cs : List Nat) : List Nat := n :: cs.filter fun k => cleanAt e k
theorem Sat.begin {m : List Addr} {cs : List Nat} {st : Sto} {H : Hp} (S : Sat W m cs st H) : Sat W m (cutsOf st.objs.length st.esc cs) st.bare H := by
  refine ⟨S.len, S.nd, S.obj, fun n hn => ?_⟩
  rcases List.mem_cons.mp hn with rfl | hn
  · refine ⟨Nat.le_refl _, fun _ l o hl ho => ?_⟩
    have ho' : st.objs[l]? = some o := ho
    have hm : l < m.length := by rw [S.len]; exact hl
    have r := (S.obj l _ o (List.getElem?_eq_getElem hm) ho').und
    rw [S.len] at r
    exact r
  · obtain ⟨h1, h2⟩ := List.mem_filter.mp hn
    obtain ⟨k1, k2⟩ := S.cut n h1
    exact ⟨k1, fun _ => k2 h2⟩
theorem cleanAt_esc {a b : Option Nat} {n : Nat} (h : cleanAt (escMin a b) n = true) : cleanAt a n = true ∧ cleanAt b n = true := by
  cases a with
  | none =>
    cases b with
    | none => exact ⟨rfl, rfl⟩
    | some k => exact ⟨rfl, h⟩
  | some j =>
    cases b with
    | none => exact ⟨h, rfl⟩
    | some k =>
      have h' : n ≤ min j k := by simpa [escMin, cleanAt] using h
      have := Nat.min_le_left j k
      have := Nat.min_le_right j k
      exact ⟨by simp [cleanAt]; omega, by simp [cleanAt]; omega⟩
theorem Sat.back {m0 m : List Addr} {cs : List Nat} {st0 st : Sto} {H0 H : Hp} (S0 : Sat W m0 cs st0 H0) (S : Sat W m (cutsOf st0.objs.length st0.esc cs) st H) : Sat W m cs (st.back st0.esc) H := by
  refine ⟨S.len, S.nd, S.obj, fun n hn => ?_⟩
  have big : n ≤ st.objs.length := Nat.le_trans (S0.cut n hn).1 (S.cut st0.objs.length (by simp [cutsOf])).1
  refine ⟨big, fun hc => ?_⟩
  obtain ⟨h1, h2⟩ := cleanAt_esc (show cleanAt (escMin st0.esc st.esc) n = true from hc)
  exact (S.cut n (by simp [cutsOf, hn, h1])).2 h2
theorem cleanAt_le {e : Option Nat} {n k : Nat} (h : cleanAt e n = true) (hk : k ≤ n) : cleanAt e k = true := by
  cases e with
  | none => rfl
  | some j =>
    have : n ≤ j := by simpa [cleanAt] using h
    simp [cleanAt]; omega
theorem Sat.trunc {m0 n : List Addr} {cs : List Nat} {st0 st : Sto} {H0 H : Hp} (S0 : Sat W m0 cs st0 H0) (S : Sat W (m0 ++ n) (cutsOf st0.objs.length st0.esc cs) st H) (hc : cleanAt st.esc st0.objs.length = true) : Sat W m0 cs (st.trunc st0.objs.length st0.esc) H := by
  have hn := S.cut st0.objs.length (by simp [cutsOf])
  have hl : (st.objs.take st0.objs.length).length = st0.objs.length := by rw [List.length_take]; omega
  have get : ∀ l o, (st.objs.take st0.objs.length)[l]? = some o → l < st0.objs.length ∧ st.objs[l]? = some o := fun l o e => by
    have h1 := (List.getElem?_eq_some_iff.mp e).1
    rw [hl] at h1
    rw [List.getElem?_take_of_lt h1] at e
    exact ⟨h1, e⟩
  have und := hn.2 hc
  refine ⟨by show m0.length = (st.objs.take st0.objs.length).length; rw [hl]; exact S0.len, S0.nd, fun l a o h1 h2 => ?_, fun k hk => ?_⟩
  · obtain ⟨h3, h4⟩ := get l o h2
    have hm : l < m0.length := (List.getElem?_eq_some_iff.mp h1).1
    refine (S.obj l a o (by rw [List.getElem?_append_left hm]; exact h1) h4).cut ?_
    rw [S0.len]
    exact und l o h3 h4
  · obtain ⟨k1, k2⟩ := S0.cut k hk
    refine ⟨by show k ≤ (st.objs.take st0.objs.length).length; rw [hl]; exact k1, fun hck l o hl2 ho => ?_⟩
    obtain ⟨h3, h4⟩ := get l o ho
    exact (S.cut k (by simp [cutsOf, hk]; exact .inr hck)).2 (cleanAt_le hc k1) l o hl2 h4
/-! ### new ones again -/
def adr (m : List Addr) (l : Nat) : Addr := m.getD l 0
theorem demL_rep {m n : List Addr} {H : Hp} {f : D → Option (D × List Nat)} (hf : ∀ {d : D} {v : V} {F : List Addr} {d' : D} {L : List Nat}, f d = some (d', L) → RepV W (m ++ n) H d v F → ∃ F', RepV W m H d' v F' ∧ F'.Perm (F ++ L.map (adr (m ++ n))) ∧ ∀ l ∈ L, m.length ≤ l ∧ l < (m ++ n).length) :
    ∀ {ds : List D} {vs : List V} {F : List Addr} {ds' : List D} {L : List Nat}, demL f ds = some (ds', L) → RepVs W (m ++ n) H ds vs F → ∃ F', RepVs W m H ds' vs F' ∧ F'.Perm (F ++ L.map (adr (m ++ n))) ∧ ∀ l ∈ L, m.length ≤ l ∧ l < (m ++ n).length
  | [], vs, F, ds', L, h, R => by
    cases h
    obtain ⟨rfl, rfl⟩ := R
    exact ⟨[], ⟨rfl, rfl⟩, .refl _, fun _ h => nomatch h⟩
  | d :: ds, vs, F, ds', L, h, R => by
    obtain ⟨v, ws, F1, F2, rfl, rfl, r, rs⟩ := R
    unfold demL at h
    cases e1 : f d with
    | none => rw [e1] at h; cases h
    | some p =>
      rw [e1] at h
      dsimp only at h
      cases e2 : demL f ds with
      | none => rw [e2] at h; cases h
      | some q =>
        rw [e2] at h
        cases h
        obtain ⟨G1, R1, P1, b1⟩ := hf (d' := p.1) (L := p.2) e1 r
        obtain ⟨G2, R2, P2, b2⟩ := demL_rep hf (ds' := q.1) (L := q.2) e2 rs
        refine ⟨G1 ++ G2, ⟨v, ws, G1, G2, rfl, rfl, R1, R2⟩, ?_, fun l hl => ?_⟩
        · refine (P1.append P2).trans ?_
          rw [List.map_append, List.append_assoc, List.append_assoc]
          refine List.Perm.append_left _ ?_
          rw [← List.append_assoc, ← List.append_assoc]
          exact List.Perm.append_right _ List.perm_append_comm
        · rcases List.mem_append.mp hl with z | z
          · exact b1 l z
          · exact b2 l z
theorem dem_rep {m n : List Addr} {cs : List Nat} {st : Sto} {H : Hp} (S : Sat W (m ++ n) cs st H) : ∀ (k : Nat) {d : D} {v : V} {F : List Addr} {d' : D} {L : List Nat}, dem st.objs m.length k d = some (d', L) → RepV W (m ++ n) H d v F → ∃ F', RepV W m H d' v F' ∧ F'.Perm (F ++ L.map (adr (m ++ n))) ∧ ∀ l ∈ L, m.length ≤ l ∧ l < (m ++ n).length
  | 0, _, _, _, _, _, h, _ => by cases h
  | k + 1, d, v, F, d', L, h, R => by
    unfold dem at h
    by_cases hn : d.noL = true
    · rw [if_pos hn] at h
      cases h
      exact ⟨F, R.cut (noL_und _ hn), by simp, fun _ h => nomatch h⟩
    · rw [if_neg hn] at h
      have ih := fun {d : D} {v : V} {F : List Addr} {d' : D} {L : List Nat} => dem_rep S k (d := d) (v := v) (F := F) (d' := d') (L := L)
      cases d with
      | tup xs =>
        dsimp only at h
        obtain ⟨p, h1, h2⟩ := Option.map_eq_some_iff.mp h
        cases h2
        obtain ⟨a, vs, e, s, r⟩ := R
        obtain ⟨F', R', P, b⟩ := demL_rep ih (ds' := p.1) (L := p.2) h1 r
        exact ⟨F', ⟨a, vs, e, s, R'⟩, P, b⟩
      | tl xs =>
        dsimp only at h
        obtain ⟨p, h1, h2⟩ := Option.map_eq_some_iff.mp h
        cases h2
        obtain ⟨a, vs, G, e, rfl, s, r⟩ := R
        obtain ⟨F', R', P, b⟩ := demL_rep ih (ds' := p.1) (L := p.2) h1 r
        refine ⟨F' ++ [a], ⟨a, vs, F', e, rfl, s, R'⟩, ?_, b⟩
        refine (P.append_right [a]).trans ?_
        rw [List.append_assoc, List.append_assoc]
        exact List.Perm.append_left _ List.perm_append_comm
      | td ks xs =>
        dsimp only at h
        split at h
        · rename_i hk
          obtain ⟨p, h1, h2⟩ := Option.map_eq_some_iff.mp h
          cases h2
          obtain ⟨a, o, kks, vs, G, e, rfl, s, dh, rk, r⟩ := R
          obtain ⟨F', R', P, b⟩ := demL_rep ih (ds' := p.1) (L := p.2) h1 r
          refine ⟨F' ++ [a], ⟨a, o, kks, vs, F', e, rfl, s, dh, rk.cut (noLs_unds _ hk), R'⟩, ?_, b⟩
          refine (P.append_right [a]).trans ?_
          rw [List.append_assoc, List.append_assoc]
          exact List.Perm.append_left _ List.perm_append_comm
        · cases h
      | loc l =>
        obtain ⟨a, e, s, rfl⟩ := R
        dsimp only at h
        split at h
        · rename_i hl
          cases h
          rw [List.getElem?_append_left hl] at s
          exact ⟨[], ⟨a, e, s, rfl⟩, by simp, fun _ h => nomatch h⟩
        · rename_i hl
          have ha : adr (m ++ n) l = a := by unfold adr; rw [List.getD_eq_getElem?_getD, s]; rfl
          have hlt : l < (m ++ n).length := (List.getElem?_eq_some_iff.mp s).1
          split at h
          · rename_i xs e0
            obtain ⟨p, h1, h2⟩ := Option.map_eq_some_iff.mp h
            cases h2
            obtain ⟨vs, eH, r⟩ := S.obj l a _ s e0
            obtain ⟨F', R', P, b⟩ := demL_rep ih (ds' := p.1) (L := p.2) h1 r
            refine ⟨F' ++ [a], ⟨a, vs, F', e, rfl, eH, R'⟩, ?_, fun l' hl' => ?_⟩
            · rw [List.map_append, List.map_cons, ha, List.map_nil]
              exact (P.append_right [a]).trans (by simp)
            · rcases List.mem_append.mp hl' with z | z
              · exact b l' z
              · rw [List.mem_singleton.mp z]; exact ⟨by omega, hlt⟩
          · rename_i ks xs e0
            split at h
            · rename_i hk
              obtain ⟨p, h1, h2⟩ := Option.map_eq_some_iff.mp h
              cases h2
              obtain ⟨o, kks, vs, eH, dh, rk, r⟩ := S.obj l a _ s e0
              obtain ⟨F', R', P, b⟩ := demL_rep ih (ds' := p.1) (L := p.2) h1 r
              refine ⟨F' ++ [a], ⟨a, o, kks, vs, F', e, rfl, eH, dh, rk.cut (noLs_unds _ hk), R'⟩, ?_, fun l' hl' => ?_⟩
              · rw [List.map_append, List.map_cons, ha, List.map_nil]
                exact (P.append_right [a]).trans (by simp)
              · rcases List.mem_append.mp hl' with z | z
                · exact b l' z
                · rw [List.mem_singleton.mp z]; exact ⟨by omega, hlt⟩
            · cases h
          · cases h
      | _ => cases h
theorem adr_get {m : List Addr} {l : Nat} (h : l < m.length) : m[l]? = some (adr m l) := by
  unfold adr
  rw [List.getD_eq_getElem?_getD, List.getElem?_eq_getElem h]
  rfl
theorem fin_use {m0 m : List Addr} {H0 H : Hp} {cs : List Nat} {st0 st : Sto} {d : D} {v : V} {F : List Addr} {Q : VK} {E : XK} (S0 : Sat W m0 cs st0 H0) (g : Grow m0 H0 m H) (S : Sat W m (cutsOf st0.objs.length st0.esc cs) st H) (R : RepV W m H d v F) (T : Tmp m H0 [] F)
    (q : RP (VP W cs Q) cs E m0 H0 [] (fin st0.objs.length st0.esc d st)) : Q v H := by
  have plain : RP (VP W cs Q) cs E m0 H0 [] (Res.ok d (st.back st0.esc)) → Q v H := fun q => q v H m F g (S0.back S) R T
  unfold fin at q
  split at q
  · rename_i hc
    split at q
    · rename_i d' L hd
      split at q
      · rename_i hL
        have g0 := g
        obtain ⟨n, rfl, hn⟩ := g.ext
        have hlen : st0.objs.length = m0.length := S0.len.symm
        obtain ⟨F', R', P, b⟩ := dem_rep S 40 (d := d) (d' := d') (L := L) (by rw [← hlen]; exact hd) R
        have inn : ∀ l ∈ L, adr (m0 ++ n) l ∈ n ∧ adr (m0 ++ n) l ∉ m0 := fun l hl => by
          obtain ⟨b1, b2⟩ := b l hl
          have e := adr_get b2
          rw [List.getElem?_append_right b1] at e
          have hm := List.mem_of_getElem? e
          refine ⟨hm, fun z => ?_⟩
          exact (List.nodup_append.mp S.nd).2.2 _ z _ hm rfl
        have nodupL : (L.map (adr (m0 ++ n))).Nodup := by
          refine List.pairwise_map.mpr (List.Pairwise.imp_of_mem (fun {x y} hx hy hne e => hne ?_) hL)
          have e1 := adr_get (b x hx).2
          have e2 := adr_get (b y hy).2
          rw [e] at e1
          exact (List.getElem?_inj (b x hx).2 S.nd).mp (e1.trans e2.symm)
        refine q v H m0 F' ⟨⟨[], by simp, by simp⟩, g0.keep⟩ (S0.trunc S hc) R' ⟨?_, fun a ha => ?_⟩
        · refine P.nodup_iff.mpr (List.nodup_append.mpr ⟨T.nd, nodupL, fun a ha c hc' e => ?_⟩)
          subst e
          obtain ⟨l, hl, rfl⟩ := List.mem_map.mp hc'
          exact (T.out _ ha).1 (List.mem_append_right _ (inn l hl).1)
        · rcases List.mem_append.mp (P.mem_iff.mp ha) with z | z
          · exact ⟨fun y => (T.out a z).1 (List.mem_append_left _ y), (T.out a z).2⟩
          · obtain ⟨l, hl, rfl⟩ := List.mem_map.mp z
            exact ⟨(inn l hl).2, .inr (hn _ (inn l hl).1)⟩
      · exact plain q
    · exact plain q
  · exact plain q
theorem finX_use {m0 m : List Addr} {H0 H : Hp} {cs : List Nat} {st0 st : Sto} {c : Nat} {E : XK} {Q : VK} (S0 : Sat W m0 cs st0 H0) (g : Grow m0 H0 m H) (S : Sat W m (cutsOf st0.objs.length st0.esc cs) st H)
    (q : RP (VP W cs Q) cs E m0 H0 [] (.exc c (finX st0.objs.length st0.esc st))) : E (W.exc c) none H := by
  unfold finX at q
  split at q
  · rename_i hc
    obtain ⟨n, rfl, hn⟩ := id g.ext
    exact q H m0 ⟨⟨[], by simp, by simp⟩, g.keep⟩ (S0.trunc S hc)
  · exact q H m g (S0.back S)
end
/-! ### arguments, each laid into the store -/
section
variable {W : Wd} {B : WX} {X : Cx} {pos : Pos}
def A0P (W : Wd) (cs : List Nat) (Q : List V → Hp → Prop) : Post W (List D) where
  ok m H G ds st' := ∀ vs H' m', Grow m H m' H' → Sat W m' cs st' H' → RepVs W m' H' ds vs [] → Q vs H'
  mono := fun M g hF h vs H' m' g' S R => h vs H' m' (g.trans M g') S R
def tAs (W : Wd) (B : WX) (r : Slots → Sto → Res (List D)) : TA := fun σ H Q =>
  ∃ s st m cs, RepS W m H s σ ∧ Sat W m cs st H ∧ RP (A0P W cs Q) cs (EB B σ) m H [] (r s st)
theorem xa_nil : PA X [] (tAs W B fun _ st => .ok [] st) := by
  refine paD pa_nil fun σ H Q ⟨s, st, m, cs, RS, S, q⟩ => ?_
  exact q [] H m .refl S ⟨rfl, rfl⟩
theorem xa_cons {e : Expr} {es : List Expr} {ra : Slots → Sto → Res D} {rs : Slots → Sto → Res (List D)} (ha : PE X e (tD W B ra)) (hr : PA X es (tAs W B rs)) (hs : starEach (e :: es) X.env = (false, eval e X.env) :: starEach es X.env) :
    PA X (e :: es) (tAs W B fun s st => (ra s st).bind fun d st => let p := stl d st; (rs s p.2).bind fun ds st => .ok (p.1 :: ds) st) := by
  refine paD (pa_cons ha hr hs) fun σ H Q ⟨s, st, m, cs, RS, S, q⟩ => ?_
  refine ⟨s, st, m, cs, RS, S, ?_⟩
  dsimp only at q
  cases e1 : ra s st with
  | bad => rw [e1] at q; exact q
  | exc c st1 => rw [e1] at q; exact q
  | ok d st1 =>
    rw [e1] at q
    intro v H1 m1 F1 g1 S1 R1 T1
    obtain ⟨S2, R2⟩ := stl_rep S1 R1 T1.nd fun a ha => (T1.out a ha).1
    have g2 := g1.settle (F := F1) fun a ha => by
      rcases (T1.out a ha).2 with z | z
      · cases z
      · exact z
    have q : RP (A0P W cs Q) cs (EB B σ) m H [] ((rs s (stl d st1).2).bind fun ds st => .ok ((stl d st1).1 :: ds) st) := q
    refine ⟨s, (stl d st1).2, m1 ++ F1, cs, ⟨RS.1, fun i e z => ?_⟩, S2, ?_⟩
    · obtain ⟨u, h1, h2⟩ := (RS.grow S.mut g1).2 i e z
      exact ⟨u, h1, h2.app F1⟩
    · cases e2 : rs s (stl d st1).2 with
      | bad => rw [e2] at q; exact q
      | exc c st2 =>
        rw [e2] at q
        exact fun H' m' g' S' => q H' m' (g2.trans S2.mut g') S'
      | ok ds st2 =>
        rw [e2] at q
        intro vs H2 m2 g3 S3 R3
        exact q (v :: vs) H2 m2 (g2.trans S2.mut g3) S3 ⟨v, vs, [], [], rfl, rfl, R2.grow S2.mut g3 (by simp), R3⟩
/-! ### what a def promises -/
def spD (W : Wd) (r : List D → Sto → Res D) : Sp := fun vs H Q E => ∃ ds st m cs, RepVs W m H ds vs [] ∧ Sat W m cs st H ∧ RP (VP W cs Q) cs E m H [] (r ds st)
/-- a def, called with room for k calls and no text under way -/
structure FnD (P : Program) (w : World) (K : PySem.W.Frag) (mg : Str → Option Value) (base : Heap) (CX : CXT) (k : Nat) (f : Addr) (fd : FuncData) (ps : List Str) (sp : Sp) : Prop where
  len : ∀ vs H Q E, sp vs H Q E → vs.length = ps.length
  run : ∀ (A : Around) (outer : List PySem.Env) (s : Shared) (H : Hp) (args : Args) (us : List Value) (vs : List V) (Q : VK) (E : XK), Room k A → A.guards = some [] → Env0 P w K mg base A outer s H → BindsTo s fd args (ps.zip us) → Vals vs us → sp vs H Q E →
    codeAny (model P w) A (.call (.ref f) args) (CR CX outer P w H s Q E) s
theorem FnD.mono {P : Program} {w : World} {K : PySem.W.Frag} {mg : Str → Option Value} {base : Heap} {CX : CXT} {j k : Nat} {f : Addr} {fd : FuncData} {ps : List Str} {sp : Sp} (F : FnD P w K mg base CX j f fd ps sp) (h : j ≤ k) : FnD P w K mg base CX k f fd ps sp :=
  ⟨F.len, fun A outer s H args us vs Q E hr => F.run A outer s H args us vs Q E (hr.mono h)⟩
theorem fnD_of {CX : CXT} {P : Program} {w : World} {K : PySem.W.Frag} {mg : Str → Option Value} {base : Heap} {k : Nat} {f : Addr} {name qual : Str} {params : Arguments} {body : List Stmt} {scope : Scope} {dV kV doc pm cdv ct oc : Value} {an od : Option Addr}
    {osl : Array (Option Value)} {N ps : List Str} {sp : Sp} (look : K.lookup f = some ⟨oc, od, .func (PySem.W.fnOf name qual params body scope dV kV doc pm an cdv ct), osl⟩) (code : PySem.W.codeIn K cdv qual = true) (S : FnScope N ps scope)
    (len : ∀ vs H Q E, sp vs H Q E → vs.length = ps.length)
    (inner : ∀ (A : Around) (outer : List PySem.Env) (s : Shared) (H : Hp) (vs : List V) (Q : VK) (E : XK), Room k (A.deeper (envOfC qual scope s.heap.objs.size f cdv)) → (A.deeper (envOfC qual scope s.heap.objs.size f cdv)).guards = some [] → A.frames = some outer → sp vs H Q E →
      ∃ t, PSs (cxOf CX P w K mg base N qual scope f cdv A outer s H E) body t ∧ t { nx := fun _ H' => Q .non H', rt := Q } (start N vs) H) :
    FnD P w K mg base CX (k + 1) f (PySem.W.fnOf name qual params body scope dV kV doc pm an cdv ct) ps sp := by
  refine ⟨len, fun A outer s H args us vs Q E room gd e0 bnd r promised => ?_⟩
  have count := len _ _ _ _ promised
  have kin : K.In s.heap := e0.mod.kin.keeps fun b o e => (e0.bs b o e).1
  have nolim : s.heap.NoLimit := e0.mod.nolimit.keeps fun b o e => (e0.bs b o e).1
  have kinds : ∀ y ∈ ps.zip us, scope.names.lookup y.1 = some .local ∨ (scope.names.lookup y.1 = some .cell ∧ ((cellsFrom (s.heap.objs.size + 1) scope.names []).lookup y.1).isSome = true) := fun ⟨n, v⟩ hy => by
    rcases S.par n (List.of_mem_zip hy).1 with z | z
    · exact .inl z
    · exact .inr ⟨z, PySem.W.cellsFrom_some _ _ _ (.inl z)⟩
  refine codeAny_call_function room.depth (kin _ _ look) rfl S.co S.gen rfl (PySem.W.codeRec_of kin code) (bnd _ _ _ _ ?_)
  refine wpAny_newFunctionEnv_cells S.kind kinds fun env he s1 x => ?_
  subst he
  refine ⟨nolim.keeps x.toInCall.keep, codeAny_func ?_⟩
  obtain ⟨t, body_ok, wish⟩ := inner A outer s H vs Q E (room.deeper _) gd e0.frames promised
  have I := inv_start (CX := CX) (E := E) S room.hd e0 count r x
  refine wpAny_mono (body_ok.run [] s1 (start N vs) H _ I wish) (fun fl s2 hs => ?_) fun e s2 hs => hs
  cases fl with
  | ret u =>
    obtain ⟨v, σ2, H2, J, rv, z⟩ := hs
    exact ⟨v, H2, J.os, J.bare, J.base, J.hok, rv, z⟩
  | next =>
    obtain ⟨σ2, H2, J, z⟩ := hs
    exact ⟨V.non, H2, J.os, J.bare, J.base, J.hok, rfl, z⟩
  | brk =>
    obtain ⟨_, _, _, z⟩ := hs
    exact False.elim z
  | cont =>
    obtain ⟨_, _, _, z⟩ := hs
    exact False.elim z
/-! ### a call of a def of the text -/
variable {CX : CXT} {k : Nat} {f : Addr} {fd : FuncData} {ps : List Str} {x : Str} {p : Pos} {e : Expr} {es : List Expr}
theorem run_fnD {sp : Sp} {E : L2.St → XK} {pins : List (Addr × Obj)} {σ : L2.St} {H : Hp} {s : Shared} {Q : VK} {us : List Value} {vs : List V} (F : FnD X.prog X.w X.K X.mg X.base CX k f fd ps sp) (hr : Room k X.A) (hg : X.A.guards = some []) (hb : Binds X.K fd ps []) (hx : PassesAt CX X σ (E σ))
    (I : Inv X pins σ H s) (r : Vals vs us) (h : sp vs H Q (E σ)) : wpAny (model X.prog X.w) X.A (call (.ref f) us) (EP X pins σ Q) X.xe s := by
  have n1 : us.length = ps.length := by rw [← r.length]; exact F.len _ _ _ _ h
  have b := hb s us I.kIn (by rw [List.append_nil]; exact n1)
  rw [List.append_nil] at b
  refine wpAny_call (codeAny_mono (F.run X.A X.stack s H ⟨us, []⟩ us vs Q (E σ) hr hg I.env0 b r h) fun r s2 hq => ?_)
  cases r with
  | error e => exact hx pins H s e s2 I hq
  | ok fl =>
    cases fl with
    | ret u => exact I.after hq
    | next => exact False.elim hq
    | brk => exact False.elim hq
    | cont => exact False.elim hq
theorem pe_callD {sp : Sp} {E : L2.St → XK} {t : TA} (F : FnD X.prog X.w X.K X.mg X.base CX k f fd ps sp) (hr : Room k X.A) (hgd : X.A.guards = some []) (hg : Gl X x) (hm : X.mg x = some (.ref f)) (hk : PySem.W.keepIn X.K (.ref f) = true) (hb : Binds X.K fd ps []) (hx : ∀ σ, PassesAt CX X σ (E σ))
    (ha : PA X (e :: es) t) (hdb : (x == ("__debug__" : Str)) = false) (he : starEach (e :: es) X.env = (false, eval e X.env) :: starEach es X.env) (hpl : (backTo pos (starEach es X.env)).any (·.1) = false) :
    PE X (.Call (.Name x p) (e :: es) [] pos) (tCallS sp E t) := by
  refine ⟨fun pins s σ H Q I h => ?_⟩
  refine wpAny_Call_Name_kw (ld_glob I hg hm ?_ hdb)
  refine PySem.W.callWith_K (h₀ := X.base) I.ok.mod.kin hk (thn (ha.run pos pins s σ H _ I h) fun us s1 ⟨vs, H1, I1, r, q⟩ => ⟨I1.kIn, ?_⟩) he hpl
  exact run_fnD F hr hgd hb (hx σ) I1 r q
theorem pe_callD0 {sp : Sp} {E : L2.St → XK} (F : FnD X.prog X.w X.K X.mg X.base CX k f fd ps sp) (hr : Room k X.A) (hgd : X.A.guards = some []) (hg : Gl X x) (hm : X.mg x = some (.ref f)) (hk : PySem.W.keepIn X.K (.ref f) = true) (hb : Binds X.K fd ps []) (hx : ∀ σ, PassesAt CX X σ (E σ))
    (hdb : (x == ("__debug__" : Str)) = false) : PE X (.Call (.Name x p) [] [] pos) (tCallS sp E tNil) := by
  refine ⟨fun pins s σ H Q I h => ?_⟩
  refine wpAny_Call_Name_kw (ld_glob I hg hm ?_ hdb)
  exact PySem.W.callWith_K0 I.kIn hk (run_fnD (us := []) F hr hgd hb (hx σ) I .nil h)
/-- what a call comes to, at the caller -/
theorem call_rd {rs : Slots → Sto → Res (List D)} {call : List D → Sto → Res D} {σ : L2.St} {H : Hp} {Q : VK} (q : tD W B (fun s st => finC st.objs.length st.esc ((rs s st.bare).bind call)) σ H Q) : tAs W B rs σ H fun vs H1 => spD W call vs H1 Q (WE B σ) := by
  obtain ⟨s, st, m, cs, RS, S, q⟩ := q
  refine ⟨s, st.bare, m, cutsOf st.objs.length st.esc cs, RS, S.begin, ?_⟩
  dsimp only at q
  cases e1 : rs s st.bare with
  | bad => rw [e1] at q; exact q
  | exc c st1 =>
    rw [e1] at q
    exact fun H' m' g' S' => finX_use (Q := Q) S g' S' q
  | ok ds st1 =>
    rw [e1] at q
    intro vs H1 m1 g1 S1 R1
    refine ⟨ds, st1, m1, cutsOf st.objs.length st.esc cs, R1, S1, ?_⟩
    have q : RP (VP W cs Q) cs (EB B σ) m H [] (finC st.objs.length st.esc (call ds st1)) := q
    cases e2 : call ds st1 with
    | bad => rw [e2] at q; exact q
    | exc c st2 =>
      rw [e2] at q
      exact fun H' m' g' S' => finX_use (Q := Q) S (g1.trans S1.mut g') S' q
    | ok d st2 =>
      rw [e2] at q
      intro v H2 m2 F g2 S2 R2 T2
      have T : Tmp m2 H [] F := ⟨T2.nd, fun a ha => ⟨(T2.out a ha).1, .inr (by
        rcases (T2.out a ha).2 with z | z
        · cases z
        · exact g1.free S1.mut z)⟩⟩
      have q : RP (VP W cs Q) cs (EB B σ) m H [] (if st2.objs.length = st.objs.length then Res.ok d (st2.back st.esc) else fin st.objs.length st.esc d st2) := q
      split at q
      · exact q v H2 m2 F (g1.trans S1.mut g2) (S.back S2) R2 T
      · exact fin_use S (g1.trans S1.mut g2) S2 R2 T q
theorem xd_call {call : List D → Sto → Res D} {rs : Slots → Sto → Res (List D)} (F : FnD X.prog X.w X.K X.mg X.base (L2.CX X.prog X.w) k f fd ps (spD W call)) (hr : Room k X.A) (hgd : X.A.guards = some []) (hg : Gl X x) (hm : X.mg x = some (.ref f)) (hk : PySem.W.keepIn X.K (.ref f) = true) (hb : Binds X.K fd ps []) (tk : Takes X B)
    (ha : PA X (e :: es) (tAs W B rs)) (hdb : (x == ("__debug__" : Str)) = false) (he : starEach (e :: es) X.env = (false, eval e X.env) :: starEach es X.env) (hpl : (backTo pos (starEach es X.env)).any (·.1) = false) :
    PE X (.Call (.Name x p) (e :: es) [] pos) (tD W B fun s st => finC st.objs.length st.esc ((rs s st.bare).bind call)) :=
  peD (pe_callD F hr hgd hg hm hk hb (fun σ => passAt tk σ) ha hdb he hpl) fun σ H Q q => call_rd q
theorem xd_call0 {call : List D → Sto → Res D} (F : FnD X.prog X.w X.K X.mg X.base (L2.CX X.prog X.w) k f fd ps (spD W call)) (hr : Room k X.A) (hgd : X.A.guards = some []) (hg : Gl X x) (hm : X.mg x = some (.ref f)) (hk : PySem.W.keepIn X.K (.ref f) = true) (hb : Binds X.K fd ps []) (tk : Takes X B)
    (hdb : (x == ("__debug__" : Str)) = false) :
    PE X (.Call (.Name x p) [] [] pos) (tD W B fun s st => finC st.objs.length st.esc (call [] st.bare)) :=
  peD (pe_callD0 F hr hgd hg hm hk hb (fun σ => passAt tk σ) hdb) fun σ H Q q => by
    have z := call_rd (rs := fun _ st => .ok [] st) q
    obtain ⟨s, st, m, cs, RS, S, q2⟩ := z
    exact q2 [] H m .refl S ⟨rfl, rfl⟩
/-! ### a def of the text -/
theorem start_rep {m : List Addr} {H : Hp} {ds : List D} {vs : List V} {N : List Str} {n : Nat} (R : RepVs W m H ds vs []) (hn : N.length = n) : RepS W m H (ds.map some ++ List.replicate (n - ds.length) none) (start N vs) := by
  refine ⟨?_, fun i d h => ?_⟩
  · simp [L2.start, R.length, hn]
  · have hi : i < ds.length := by
      rcases Nat.lt_or_ge i ds.length with z | z
      · exact z
      · rw [List.getElem?_append_right (by simpa using z), List.getElem?_replicate] at h
        split at h <;> cases h
    rw [List.getElem?_append_left (by simpa using hi), List.getElem?_map] at h
    obtain ⟨d2, h1, h2⟩ := Option.map_eq_some_iff.mp h
    cases h2
    obtain ⟨v, h3, h4⟩ := R.get h1
    refine ⟨v, ?_, h4⟩
    unfold L2.start
    rw [List.getElem?_append_left (by rw [List.length_map, R.length]; exact hi), List.getElem?_map, h3]
    rfl
/-- a body's reading from the def's promise -/
theorem body_rd {R : DV.Env} {F : Fn} {N : List Str} {vs : List V} {H : Hp} {Q : VK} {E : XK} (hn : N.length = F.slots) (h : spD W (runFn R F) vs H Q E) : tDS W (fun c d _ H => E c d H) (fun s st => evSs R F.body s st) { nx := fun _ H' => Q .non H', rt := Q } (start N vs) H := by
  obtain ⟨ds, st, m, cs, R1, S, q⟩ := h
  unfold runFn at q
  split at q
  · rename_i hl
    refine ⟨ds.map some ++ List.replicate (F.slots - F.np) none, st.bare, m, cutsOf st.objs.length st.esc cs, ?_, S.begin, ?_⟩
    · rw [← hl]; exact start_rep R1 hn
    · dsimp only
      cases e1 : evSs R F.body (ds.map some ++ List.replicate (F.slots - F.np) none) st.bare with
      | nxt s' st' =>
        rw [e1] at q
        exact fun σ' H' m' g' S' R' => fin_use (d := .non) (v := .non) (F := []) S g' S' ⟨rfl, rfl⟩ ⟨List.nodup_nil, fun _ h => nomatch h⟩ q
      | ret d st' =>
        rw [e1] at q
        exact fun v H' m' F' g' S' R' T => fin_use S g' S' R' T q
      | exc c s' st' =>
        rw [e1] at q
        exact fun σ' H' m' g' S' R' => finX_use (Q := Q) S g' S' q
      | brk s' st' => rw [e1] at q; exact False.elim q
      | cnt s' st' => rw [e1] at q; exact False.elim q
      | bad => rw [e1] at q; exact False.elim q
  · exact False.elim q
end
end DV
set_option Elab.async false
set_option linter.all false
set_option autoImplicit false
set_option maxRecDepth 100000
set_option maxHeartbeats 4000000
/-! DP: whether a text in the small language is a given text. -/
namespace DV
open PySem PyProof.Rows
/-- what is known of a block: its slots' names, its scope, the module's defs, constants, exceptions; the built-in names that the text leaves alone -/
structure Ck where
  N : List Str
  sc : Scope
  fns : List (Str × Nat)
  gc : List (Str × Nat)
  gx : List (Str × Nat)
  blt : List Str
  cf : Bool
def Ck.gl (C : Ck) (x : Str) : Bool := decide (C.sc.names.lookup x = some .globalImplicit)
def Ck.b (C : Ck) (x : Str) : Bool := C.gl x && C.blt.contains x
def Ck.vis (C : Ck) (x : Str) : Bool := match C.sc.names.lookup x with
  | some .local => true
  | some .cell => true
  | some .free => true
  | _ => false
def Ck.loc (C : Ck) (x : Str) : Bool := decide (C.sc.names.lookup x = some .local)
/-- a name that is stored: one of the def's own, or one that a comprehension within sees (in the def itself) -/
def Ck.asg (C : Ck) (x : Str) : Bool := C.loc x || (C.cf && decide (C.sc.names.lookup x = some .cell))
def plainN (x : Str) : Bool := !(x == ("__debug__" : Str)) && !(x == ("__classdict__" : Str))
/-- the scope of a comprehension within sc -/
def relC (scope sc : Scope) : Scope := { scope with names := scope.names.map fun (n, k) => if (k == .free && sc.kind == .function && sc.names.lookup n == some .cell) then (n, .cell) else (n, k) }
def Ck.inn (C : Ck) (scope : Scope) : Ck := { C with sc := relC scope C.sc, cf := false }
def isStar : Expr → Bool
  | .Starred .. => true
  | _ => false
def noStar (es : List Expr) : Bool := es.all fun e => !isStar e
def isSlice : Expr → Bool
  | .Slice .. => true
  | _ => false
def isSet : Expr → Bool
  | .Set .. => true
  | _ => false
def isComp : Expr → Bool
  | .ListComp .. => true
  | .SetComp .. => true
  | .DictComp .. => true
  | _ => false
/-- not told as a test otherwise than as a value -/
def valTest : Expr → Bool
  | .UnaryOp .. => false
  | .BoolOp .. => false
  | .IfExp .. => false
  | .Compare .. => false
  | _ => true
/-- no call of a name without arguments -/
def noSuper : Expr → Bool
  | .Call .. => false
  | _ => true
def bopA : Bop → Operator
  | .add => .Add
  | .sub => .Sub
  | .mul => .Mult
  | .fdiv => .FloorDiv
  | .mod => .Mod
  | .pow => .Pow
def copA : Cop → CmpOp
  | .eq => .Eq
  | .ne => .NotEq
  | .lt => .Lt
  | .le => .LtE
  | .gt => .Gt
  | .ge => .GtE
  | .isv => .Is
  | .nis => .IsNot
  | .inn => .In
  | .nin => .NotIn
def bltName : Blt → Str
  | .len => "len"
  | .tuple => "tuple"
  | .list => "list"
  | .tupR1 => "tuple"
  | .tupR2 => "tuple"
  | .listR1 => "list"
  | .listR2 => "list"
  | .sorted => "sorted"
  | .all => "all"
  | .min1 => "min"
  | .max1 => "max"
  | .max2 => "max"
  | .min2 => "min"
  | .sum => "sum"
  | .toInt => "int"
  | .isInt => "isinstance"
  | .isBool => "isinstance"
  | .isStr => "isinstance"
  | .isTup => "isinstance"
  | .repr => "repr"
/-- how a built-in is written: by its values; of a range of one, of two; with a type behind -/
inductive BltK where
  | vals | rg1 | rg2 | is (t : IsT)
def bltK : Blt → BltK
  | .tupR1 => .rg1
  | .tupR2 => .rg2
  | .listR1 => .rg1
  | .listR2 => .rg2
  | .isInt => .is .int
  | .isBool => .is .bool
  | .isStr => .is .str
  | .isTup => .is .tuple
  | _ => .vals
def isTName : IsT → Str
  | .int => "int"
  | .bool => "bool"
  | .str => "str"
  | .tuple => "tuple"
def mthName : Mth → Str
  | .append => "append"
  | .extend => "extend"
  | .pop0 => "pop"
  | .pop1 => "pop"
  | .remove => "remove"
  | .index => "index"
  | .count => "count"
  | .get2 => "get"
def mthN : Mth → Nat
  | .pop0 => 0
  | .get2 => 2
  | _ => 1
/-! ### targets of names -/
mutual
def mTg : Tg → Ck → Expr → Bool
  | .nm i, C, x => match x with
    | .Name n _ => decide (C.N[i]? = some n) && C.asg n
    | _ => false
  | .tup ts, C, x => match x with
    | .Tuple xs _ _ => mTgs ts C xs
    | _ => false
  | .sub _ _, _, _ => false
  | .att _ _, _, _ => false
def mTgs : List Tg → Ck → List Expr → Bool
  | [], _, [] => true
  | t :: ts, C, x :: xs => mTg t C x && mTgs ts C xs
  | _, _, _ => false
end
mutual
def Tg.names : Tg → List Nat
  | .nm i => [i]
  | .tup ts => Tg.namess ts
  | _ => []
def Tg.namess : List Tg → List Nat
  | [] => []
  | t :: ts => t.names ++ Tg.namess ts
end
def Tg.isTup : Tg → Bool
  | .tup _ => true
  | _ => false
def ownN (C : Ck) (own : List Nat) : List (Str × Nat) := own.map fun i => ((C.N[i]?).getD "", i)
def kTup : SrcK → Bool
  | .seq => false
  | .range1 => false
  | .range2 => false
  | _ => true
/-- what is walked: its arguments -/
def srcX (k : SrcK) (C : Ck) (x : Expr) : Option (List Expr) :=
  match k with
  | .seq => if isStar x then none else some [x]
  | .range1 => match x with
    | .Call (.Name n _) [y] [] _ => if decide (n = "range") && C.b n && noStar [y] then some [y] else none
    | _ => none
  | .range2 => match x with
    | .Call (.Name n _) [y, z] [] _ => if decide (n = "range") && C.b n && noStar [y, z] then some [y, z] else none
    | _ => none
  | .enum => match x with
    | .Call (.Name n _) [y] [] _ => if decide (n = "enumerate") && C.b n && noStar [y] then some [y] else none
    | _ => none
  | .zip => match x with
    | .Call (.Name n _) [y, z] [] _ => if decide (n = "zip") && C.b n && noStar [y, z] then some [y, z] else none
    | _ => none
  | .items => none
/-! ### expressions -/
mutual
/-- tp: as a test -/
def mE : Bool → Ex → Ck → Expr → Bool
  | tp, .var i, C, x => match x with
    | .Name n _ => decide (C.N[i]? = some n) && C.vis n && plainN n
    | _ => false
  | tp, .gc k, C, x => match x with
    | .Name n _ => decide (C.gc.lookup n = some k) && C.gl n && plainN n
    | _ => false
  | tp, .int i, C, x => match x with
    | .Constant (.int j) _ _ => decide (i = j)
    | _ => false
  | tp, .str s, C, x => match x with
    | .Constant (.str j) _ _ => decide (s = j)
    | _ => false
  | tp, .bl b, C, x => match x with
    | .Constant (.bool j) _ _ => b == j
    | _ => false
  | tp, .non, C, x => match x with
    | .Constant .none _ _ => true
    | _ => false
  | tp, .tup es, C, x => match x with
    | .Tuple xs _ _ => noStar xs && mEs es C xs
    | _ => false
  | tp, .lst es, C, x => match x with
    | .List xs _ => noStar xs && mEs es C xs
    | _ => false
  | tp, .dic ks vs, C, x => match x with
    | .Dict [] [] _ => ks.isEmpty && vs.isEmpty
    | .Dict [some (.Name m _)] [.Constant (.int j) _ _] _ => match ks, vs with
      | [.var i], [.int n] => decide (C.N[i]? = some m) && C.vis m && plainN m && decide (n = j)
      | _, _ => false
    | _ => false
  | tp, .bin o a b, C, x => match x with
    | .BinOp y p z _ => decide (p = bopA o) && mE false a C y && mE false b C z
    | _ => false
  | tp, .neg a, C, x => match x with
    | .UnaryOp .USub y _ => !tp && mE false a C y
    | _ => false
  | tp, .not a, C, x => match x with
    | .UnaryOp .Not y _ => mE tp a C y
    | _ => false
  | tp, .and a b, C, x => match x with
    | .BoolOp .And (y :: z :: r) p => match r with
      | [] => mE tp a C y && mE tp b C z
      | _ :: _ => mE tp a C y && mE tp b C (.BoolOp .And (z :: r) p)
    | _ => false
  | tp, .or a b, C, x => match x with
    | .BoolOp .Or (y :: z :: r) p => match r with
      | [] => mE tp a C y && mE tp b C z
      | _ :: _ => mE tp a C y && mE tp b C (.BoolOp .Or (z :: r) p)
    | _ => false
  | tp, .cmp o a b, C, x => match x with
    | .Compare y [p] [z] _ => decide (p = copA o) && !isSet z && mE false a C y && mE false b C z
    | _ => false
  | tp, .chain o o2 a b c, C, x => match x with
    | .Compare y [p, p2] [z, w] _ => decide (p = copA o) && decide (p2 = copA o2) && !isSet z && !isSet w && mE false a C y && mE false b C z && mE false c C w
    | _ => false
  | tp, .ife c a b, C, x => match x with
    | .IfExp y z w _ => !tp && mE true c C y && mE false a C z && mE false b C w
    | _ => false
  | tp, .idx a b, C, x => match x with
    | .Subscript y z _ => !isSlice z && mE false a C y && mE false b C z
    | _ => false
  | tp, .slc a lo hi, C, x => match x with
    | .Subscript y (.Slice l h none _) _ => mE false a C y && mO lo C l && mO hi C h
    | _ => false
  | tp, .rev a, C, x => false
  | tp, .call f es, C, x => match x with
    | .Call (.Name n _) xs [] _ => decide (C.fns.lookup n = some f) && C.gl n && plainN n && noStar xs && mEs es C xs
    | _ => false
  | tp, .blt b es, C, x => match x with
    | .Call (.Name n _) xs [] _ => decide (n = bltName b) && C.b n && noStar xs && (match bltK b, xs with
      | .vals, _ :: _ => mEs es C xs
      | .rg1, [.Call (.Name m _) [y] [] _] => decide (m = "range") && C.b m && noStar [y] && mEs es C [y]
      | .rg2, [.Call (.Name m _) [y, z] [] _] => decide (m = "range") && C.b m && noStar [y, z] && mEs es C [y, z]
      | .is t, [y, .Name m _] => decide (m = isTName t) && C.b m && mEs es C [y]
      | _, _ => false)
    | _ => false
  | tp, .mth m r es, C, x => match x with
    | .Call (.Attribute o n ap) xs [] cp => decide (n = mthName m) && noSuper o && decide (ap.endLine = cp.line) && noStar xs && decide (xs.length = mthN m) && mE false r C o && mEs es C xs
    | _ => false
  | tp, .comp e own t k es cs, C, x => match x with
    | .ListComp elt [⟨tg, it, ifs, 0⟩] scope _ => L2.blkC C.N C.sc scope (ownN C own) && t.names.all own.contains && (t.isTup || !kTup k) && mTg t (C.inn scope) tg && !isSet it && (match srcX k C it with | some ys => mEs es C ys | none => false) && mC cs (C.inn scope) ifs && mE false e (C.inn scope) elt
    | _ => false
  | tp, .comp2 e own own1 t k es cs t1 k1 es1 cs1, C, x => match x with
    | .ListComp elt [⟨tg, it, ifs, 0⟩, ⟨tg1, it1, ifs1, 0⟩] scope _ => L2.blkC C.N C.sc scope (ownN C own) && t.names.all own.contains && (t.isTup || !kTup k) && mTg t (C.inn scope) tg && !isSet it && (match srcX k C it with | some ys => mEs es C ys | none => false) && mC cs (C.inn scope) ifs && mE false e (C.inn scope) elt
      && t1.names.all own1.contains && own1.all own.contains && (t1.isTup || !kTup k1) && mTg t1 (C.inn scope) tg1 && !isSet it1 && (match srcX k1 (C.inn scope) it1 with | some ys => mEs es1 (C.inn scope) ys | none => false) && mC cs1 (C.inn scope) ifs1
    | _ => false
def mEs : List Ex → Ck → List Expr → Bool
  | [], _, [] => true
  | e :: es, C, x :: xs => mE false e C x && mEs es C xs
  | _, _, _ => false
/-- a bound of a slice -/
def mO : List Ex → Ck → Option Expr → Bool
  | [], _, none => true
  | [e], C, some x => mE false e C x
  | _, _, _ => false
/-- no test, one test -/
def mC : List Ex → Ck → List Expr → Bool
  | [], _, [] => true
  | [e], C, [x] => mE true e C x
  | _, _, _ => false
end
end DV
set_option Elab.async false
set_option linter.all false
set_option autoImplicit false
set_option maxRecDepth 100000
set_option maxHeartbeats 4000000
/-! DQ: the check is sound: expressions. -/
namespace DV
open PySem PySem.Spec PyProof.Rows L2
/-- a block of the text that the check is told of -/
structure Good (W : Wd) (B : WX) (R : DV.Env) (C : Ck) (X : Cx) : Prop where
  fits : Fits X W
  N : X.N = C.N
  nd : C.N.Nodup
  sc : X.env.scope = C.sc
  fun_ : C.sc.kind = .function
  calm : X.calm = true
  fn : C.cf = true → ∀ x, X.fn x = true
  units : X.A.units + 65 < cLine
  guards : X.A.guards = some []
  takes : Takes X B
  blt : ∀ x ∈ C.blt, X.mg x = none
  fns : ∀ x f, C.fns.lookup x = some f → ∃ (k : Nat) (a : Addr) (fd : FuncData) (ps : List Str), Room k X.A ∧ FnD X.prog X.w X.K X.mg X.base (L2.CX X.prog X.w) k a fd ps (spD W (R.call f)) ∧ X.mg x = some (.ref a) ∧ PySem.W.keepIn X.K (.ref a) = true ∧ Binds X.K fd ps []
  gc : ∀ x k, C.gc.lookup x = some k → ∃ (v : V) (u : Value) (d : D), X.mg x = some u ∧ RelV v u ∧ R.consts[k]? = some d ∧ ∀ m H, RepV W m H d v []
theorem relab (scope : Scope) (env : PySem.Env) : relabel scope env = relC scope env.scope := rfl
theorem blk_takes {X : Cx} {s : Shared} {H : Hp} {scope : Scope} {cenv : PySem.Env} {fp : List Addr} : Takes (X.blk s H scope cenv fp) BF := fun u s' ⟨a, B, sI, pins, σ, H, cls, d, e, I, nb, up, sky, na, os, ag, w⟩ => w
theorem Good.blk {W : Wd} {B : WX} {R : DV.Env} {C : Ck} {X : Cx} (G : Good W B R C X) (scope : Scope) (hk : scope.kind = .function) : Blk X scope fun X => Good W BF R (C.inn scope) X := fun s H L cl fp =>
  { fits := ⟨G.fits.P, G.fits.w, G.fits.K⟩, N := G.N, nd := G.nd, sc := by show relabel scope X.env = _; rw [relab, G.sc]; rfl, fun_ := hk, calm := G.calm, fn := (fun z => nomatch z), units := G.units, guards := G.guards, takes := blk_takes, blt := G.blt, fns := G.fns, gc := G.gc }
section
variable {W : Wd} {B : WX} {R : DV.Env} {C : Ck} {X : Cx} {pos : Pos}
theorem star_cons {e : Expr} {es : List Expr} {env : PySem.Env} (h : isStar e = false) : starEach (e :: es) env = (false, eval e env) :: starEach es env := by
  cases e <;> first
    | rfl
    | cases h
theorem star_all : ∀ {es : List Expr} {env : PySem.Env} {p : Pos}, noStar es = true → (backTo p (starEach es env)).any (·.1) = false
  | [], _, _, _ => rfl
  | e :: es, env, p, h => by
    unfold noStar at h
    rw [List.all_cons, Bool.and_eq_true] at h
    rw [star_cons (by simpa using h.1)]
    exact star_all (es := es) h.2
theorem noStar_cons {e : Expr} {es : List Expr} (h : noStar (e :: es) = true) : isStar e = false ∧ noStar es = true := by
  unfold noStar at h ⊢
  rw [List.all_cons, Bool.and_eq_true] at h
  exact ⟨by simpa using h.1, h.2⟩
theorem Good.gl (G : Good W B R C X) {x : Str} (h : C.gl x = true) : Gl X x := by
  have := of_decide_eq_true h
  show X.env.scope.names.lookup x = _
  rw [G.sc]; exact this
theorem Good.b (G : Good W B R C X) {x : Str} (h : C.b x = true) : Gl X x ∧ X.mg x = none := by
  unfold Ck.b at h
  rw [Bool.and_eq_true] at h
  exact ⟨G.gl h.1, G.blt x (by simpa using h.2)⟩
theorem plain_of {x : Str} (h : plainN x = true) : (x == ("__debug__" : Str)) = false ∧ (x == ("__classdict__" : Str)) = false := by
  unfold plainN at h
  simpa using h
theorem Good.vis (G : Good W B R C X) {x : Str} (h : C.vis x = true) : Vis X.env.scope x := by
  unfold Ck.vis at h
  rw [← G.sc] at h
  unfold Vis
  split at h <;> simp_all
theorem Good.loc (G : Good W B R C X) {x : Str} (h : C.loc x = true) : X.env.scope.names.lookup x = some .local := by
  rw [G.sc]; exact of_decide_eq_true h
/-! ### targets -/
theorem Good.asg (G : Good W B R C X) {x : Str} (h : C.asg x = true) : Loc X.env.scope x ∧ (X.fn x = true ∨ X.env.scope.names.lookup x = some .local) := by
  unfold Ck.asg at h
  simp only [Bool.or_eq_true, Bool.and_eq_true, decide_eq_true_eq] at h
  rcases h with h | ⟨h1, h2⟩
  · exact ⟨.inl (G.loc h), .inr (G.loc h)⟩
  · exact ⟨.inr (by rw [G.sc]; exact h2), .inl (G.fn h1 x)⟩
theorem assign_plain {e : Expr} {es : List Expr} {env : PySem.Env} (h : isStar e = false) : assignEach (e :: es) env = (false, assign e env) :: assignEach es env := by
  cases e <;> first
    | rfl
    | cases h
theorem tg_plain {t : Tg} {x : Expr} (h : mTg t C x = true) : isStar x = false := by
  cases t <;> cases x <;> simp_all [mTg, isStar]
mutual
theorem sTg (G : Good W B R C X) : ∀ {t : Tg} {x : Expr}, mTg t C x = true → PG X x (tGP W t.names (setTo t))
  | .nm i, x, h => by
    cases x <;> simp only [mTg] at h <;> try cases h
    rename_i n p
    rw [Bool.and_eq_true] at h
    have hn : X.N[i]? = some n := by rw [G.N]; exact of_decide_eq_true h.1
    obtain ⟨h1, h2⟩ := G.asg h.2
    have z := xg_name (W := W) (X := X) (pos := p) (by rw [G.N]; exact G.nd) hn h1 h2
    exact z
  | .tup ts, x, h => by
    have hh := h
    cases x <;> simp only [mTg] at h <;> try cases h
    exact xg_ofY (sTgY G hh)
  | .sub _ _, x, h => by simp [mTg] at h
  | .att _ _, x, h => by simp [mTg] at h
theorem sTgY (G : Good W B R C X) : ∀ {ts : List Tg} {x : Expr}, mTg (.tup ts) C x = true → PG X x (tGY W (Tg.tup ts).names (setTo (.tup ts)))
  | ts, x, h => by
    cases x <;> simp only [mTg] at h <;> try cases h
    rename_i xs k p
    obtain ⟨z1, z2, z3, z4⟩ := sTgs G h
    have z := xg_tup (pos := p) (k := k) G.fits G.calm z1 z2 z3 z4
    exact pgD z fun v σ H Q ⟨d, s, m, RS, R', q⟩ => ⟨d, s, m, RS, R', by
      cases d <;> exact q⟩
theorem sTgs (G : Good W B R C X) : ∀ {ts : List Tg} {xs : List Expr}, mTgs ts C xs = true → PGs X xs (tGPs W (Tg.namess ts) (setTos ts)) ∧ (∀ ds s s', setTos ts ds s = some s' → ds.length = xs.length) ∧ (assignEach xs X.env).length = xs.length ∧ (assignEach xs X.env).findIdx? (·.1) = none
  | [], xs, h => by
    cases xs <;> simp only [mTgs] at h <;> try cases h
    refine ⟨?_, fun ds s s' e => ?_, rfl, rfl⟩
    · exact pgsD xgs_nil fun vs σ H Q ⟨ds, s, m, RS, R', q⟩ => ⟨ds, s, m, RS, R', by cases ds <;> exact q⟩
    · cases ds with
      | nil => rfl
      | cons _ _ => cases e
  | t :: ts, xs, h => by
    cases xs with
    | nil => simp [mTgs] at h
    | cons x xs =>
      simp only [mTgs, Bool.and_eq_true] at h
      obtain ⟨z1, z2, z3, z4⟩ := sTgs G h.2
      have hp := assign_plain (es := xs) (env := X.env) (tg_plain h.1)
      refine ⟨?_, fun ds s s' e => ?_, by rw [hp]; simp [z3], by rw [hp]; simp [List.findIdx?_cons, z4]⟩
      · refine pgsD (xgs_cons (sTg G h.1) z1 (by rw [hp]; rfl)) fun vs σ H Q ⟨ds, s, m, RS, R', q⟩ => ⟨ds, s, m, RS, R', ?_⟩
        cases ds <;> exact q
      · cases ds with
        | nil => cases e
        | cons d ds =>
          simp only [setTos] at e
          cases e1 : setTo t d s with
          | none => rw [e1] at e; cases e
          | some s1 =>
            rw [e1] at e
            simp [z2 ds s1 s' e]
end
theorem sTgK (G : Good W B R C X) {t : Tg} {x : Expr} {k : SrcK} (h : mTg t C x = true) (hk : (t.isTup || !kTup k) = true) : PG X x (tGK W k t.names t) := by
  cases t with
  | tup ts =>
    refine pgD (sTgY G h) fun v σ H Q ⟨d, s, m, RS, R', q⟩ => ⟨d, s, m, RS, ?_, q⟩
    cases k <;> first
      | exact RepV.toY R'
      | exact R'
  | nm i =>
    refine pgD (sTg G h) fun v σ H Q ⟨d, s, m, RS, R', q⟩ => ⟨d, s, m, RS, ?_, q⟩
    cases k <;> simp [Tg.isTup, kTup] at hk <;> exact R'
  | sub _ _ => simp [mTg] at h
  | att _ _ => simp [mTg] at h
/-! ### expressions -/
theorem peEq {x : Expr} {r r' : Slots → Sto → Res D} (h : PE X x (tD W B r)) (e : r' = r) : PE X x (tD W B r') := by rw [e]; exact h
theorem ptEq {x : Expr} {r r' : Slots → Sto → Res Bool} (h : PT X x (tDt W B r)) (e : r' = r) : PT X x (tDt W B r') := by rw [e]; exact h
theorem paEq {x : List Expr} {r r' : Slots → Sto → Res (List D)} (h : PA X x (tDs W B r)) (e : r' = r) : PA X x (tDs W B r') := by rw [e]; exact h
/-- both readings -/
def Both (W : Wd) (B : WX) (X : Cx) (tp : Bool) (x : Expr) (r : Slots → Sto → Res D) : Prop := (tp = false → PE X x (tD W B r)) ∧ (tp = true → PT X x (tDt W B fun s st => (r s st).bind asB))
theorem both_val {tp : Bool} {x : Expr} {r r' : Slots → Sto → Res D} (h : PE X x (tD W B r)) (hv : valTest x = true) (e : r' = r) : Both W B X tp x r' := by
  subst e
  refine ⟨fun _ => h, fun _ => xt_val h fun whole => ?_⟩
  cases x <;> first
    | rfl
    | cases hv
theorem od_binop (G : Good W B R C X) (o : Bop) : OpD X W (binaryOp (bopA o)) (binop o) := by
  cases o
  · exact od_add G.fits
  · exact od_sub
  · exact od_mul G.fits
  · exact od_fdiv
  · exact od_mod
  · exact od_pow
theorem od_cmpop (G : Good W B R C X) (o : Cop) : OpD X W (compareOp (copA o)) (cmpop o) := by
  cases o
  · exact od_eq G.fits G.units
  · exact od_ne G.fits G.units
  · exact od_intC op_lt
  · exact od_intC op_le
  · exact od_intC op_gt
  · exact od_intC op_ge
  · exact od_is
  · exact od_nis
  · exact od_in G.fits G.units
  · exact od_nin G.fits G.units
theorem behind_set {op : CmpOp} {x : Expr} (h : isSet x = false) : behindInMarks op x = false := by
  cases x <;> first
    | rfl
    | cases h
theorem last_set {op op' : CmpOp} {x y : Expr} (h : isSet y = false) : lastMarks [op, op'] [x, y] = false := by
  cases y <;> first
    | rfl
    | cases h
theorem plain_ix {x : Expr} (h : isSlice x = false) : PlainIx x := by
  intro o i
  cases x <;> first
    | rfl
    | cases h
theorem folded_set {x : Expr} {env : PySem.Env} (h : isSet x = false) : ∀ v, foldedSetIterable x env v = pure v := by
  intro v
  cases x <;> first
    | rfl
    | cases h
theorem no_super {x : Expr} {n : Str} {env : PySem.Env} (h : noSuper x = true) : attributeBase x n env (eval x env) = eval x env := by
  cases x <;> first
    | rfl
    | cases h
theorem few_of : ∀ {e : Expr} {es : List Expr} {env : PySem.Env} {p : Pos}, noStar (e :: es) = true → (e :: es).length < 30 →
    ((backTo p (starEach (e :: es) env)).all (fun x => !x.1) && (backToKw p (keywordEach [] env)).all (fun x => x.1.isSome) && decide ((e :: es).length + ([] : List Keyword).length + (if ([] : List Keyword).isEmpty then 0 else 1) < 30)) = true := by
  intro e es env p h hl
  have h1 : (backTo p (starEach (e :: es) env)).any (·.1) = false := star_all h
  have h2 : (backTo p (starEach (e :: es) env)).all (fun x => !x.1) = true := by
    rw [List.all_eq_not_any_not, Bool.not_eq_true']
    simpa using h1
  rw [h2]
  have h3 : decide ((e :: es).length + ([] : List Keyword).length + (if ([] : List Keyword).isEmpty then 0 else 1) < 30) = true := decide_eq_true (by simpa using hl)
  rw [h3]
  rfl
theorem dic_new {p : Pos} : PE X (.Dict [] [] p) (tD W B fun _ st => .ok (.td [] []) st) := by
  refine peD pe_dnewK fun σ H Q ⟨s, st, m, cs, RS, S, q⟩ => ?_
  intro a ha
  refine VP.fresh (F := [a]) S ha q ⟨a, _, [], [], [], rfl, rfl, upd_same, .inl ⟨[], rfl, rfl, rfl, rfl⟩, ⟨rfl, rfl⟩, ⟨rfl, rfl⟩⟩ ⟨by simp, fun b hb => ?_⟩
  rw [List.mem_singleton.mp hb]
  exact ⟨fresh_out S ha, .inr ha⟩
/-- built-in functions of values -/
theorem blt_vals (G : Good W B R C X) {b : Blt} (hb : ∀ t, bltK b ≠ .is t) (hb1 : bltK b ≠ .rg1) (hb2 : bltK b ≠ .rg2) {n : Str} (hn : n = bltName b) (hg : C.b n = true) {p : Pos} {e : Expr} {es : List Expr} {rs : Slots → Sto → Res (List D)} (h : PA X (e :: es) (tDs W B rs)) (ns : noStar (e :: es) = true) :
    PE X (.Call (.Name n p) (e :: es) [] pos) (tD W B fun s st => (rs s st).bind fun ds st => bltRun b ds st) := by
  subst hn
  obtain ⟨h1, h2⟩ := G.b hg
  have s1 := star_cons (es := es) (env := X.env) (noStar_cons ns).1
  have s2 := star_all (env := X.env) (p := pos) (noStar_cons ns).2
  cases b with
  | len => exact xd_blt (cd_len G.fits) h1 h2 (by decide +kernel) h (by decide) (by decide) s1 s2
  | tuple => exact xd_ty (cd_tuple G.fits) h1 h2 (by decide +kernel) h (by decide) (by decide) s1 s2
  | list => exact xd_ty (cd_list G.fits) h1 h2 (by decide +kernel) h (by decide) (by decide) s1 s2
  | sorted => exact xd_blt (cd_sorted G.fits G.units) h1 h2 (by decide +kernel) h (by decide) (by decide) s1 s2
  | all => exact xd_blt (cd_all G.fits G.calm) h1 h2 (by decide +kernel) h (by decide) (by decide) s1 s2
  | min1 => exact xd_blt (cd_min1 G.fits G.calm G.units) h1 h2 (by decide +kernel) h (by decide) (by decide) s1 s2
  | max1 => exact xd_blt (cd_max1 G.fits G.calm) h1 h2 (by decide +kernel) h (by decide) (by decide) s1 s2
  | max2 => exact xd_blt (cd_max2 G.fits G.calm) h1 h2 (by decide +kernel) h (by decide) (by decide) s1 s2
  | min2 => exact xd_blt (cd_min2 G.fits G.calm) h1 h2 (by decide +kernel) h (by decide) (by decide) s1 s2
  | sum => exact xd_blt (cd_sum G.fits G.calm) h1 h2 (by decide +kernel) h (by decide) (by decide) s1 s2
  | toInt => exact xd_ty (cd_int G.fits) h1 h2 (by decide +kernel) h (by decide) (by decide) s1 s2
  | repr => exact xd_blt (cd_repr G.fits G.guards G.units) h1 h2 (by decide +kernel) h (by decide) (by decide) s1 s2
  | tupR1 => exact absurd rfl hb1
  | tupR2 => exact absurd rfl hb2
  | listR1 => exact absurd rfl hb1
  | listR2 => exact absurd rfl hb2
  | isInt => exact absurd rfl (hb _)
  | isBool => exact absurd rfl (hb _)
  | isStr => exact absurd rfl (hb _)
  | isTup => exact absurd rfl (hb _)
theorem mth_vals (G : Good W B R C X) {m : Mth} (hm : m ≠ .pop0) {n : Str} (hn : n = mthName m) {o e : Expr} {es : List Expr} {ap cp : Pos} {ro : Slots → Sto → Res D} {rs : Slots → Sto → Res (List D)} (ho : PE X o (tD W B ro)) (h : PA X (e :: es) (tDs W B rs)) (ns : noStar (e :: es) = true) (hs : noSuper o = true) (hl : ap.endLine = cp.line) (hlen : (e :: es).length < 30) :
    PE X (.Call (.Attribute o n ap) (e :: es) [] cp) (tD W B fun s st => (ro s st).bind fun x st => if mthOk m x st then (rs s st).bind fun ds st => mthRun m x ds st else .bad) := by
  subst hn
  have s1 := star_cons (es := es) (env := X.env) (noStar_cons ns).1
  have s2 := star_all (env := X.env) (p := cp) (noStar_cons ns).2
  have fw := few_of (env := X.env) (p := cp) ns hlen
  have bs := fun n => no_super (n := n) (env := X.env) hs
  have ln : (ap.endLine == cp.line) = true := by rw [hl]; exact beq_self_eq_true _
  cases m with
  | append => exact xd_mth (md_append G.fits) ho h (bs _) fw ln s1 s2
  | extend => exact xd_mth (md_extend G.fits) ho h (bs _) fw ln s1 s2
  | pop0 => exact absurd rfl hm
  | pop1 => exact xd_mth (md_pop1 G.fits) ho h (bs _) fw ln s1 s2
  | remove => exact xd_mth (md_remove G.fits G.units) ho h (bs _) fw ln s1 s2
  | index => exact xd_mth (md_index G.fits G.units) ho h (bs _) fw ln s1 s2
  | count => exact xd_mth (md_count G.fits G.units) ho h (bs _) fw ln s1 s2
  | get2 => exact xd_mth (md_get2 G.fits G.units) ho h (bs _) fw ln s1 s2
end
end DV
set_option Elab.async false
set_option linter.all false
set_option autoImplicit false
set_option maxRecDepth 100000
set_option maxHeartbeats 4000000
/-! DR: the check is sound: the whole of expressions. -/
namespace DV
open PySem PySem.Spec PyProof.Rows L2
section
variable {W : Wd} {R : DV.Env}
theorem asB_and {r1 r2 : Slots → Sto → Res D} : (fun s st => (((r1 s st).bind fun x st => (asB x st).bind fun k st => if k then (r2 s st).bind fun y st => (asB y st).bind fun k st => .ok (.bl k) st else .ok (.bl false) st) : Res D).bind asB) =
    fun s st => ((r1 s st).bind asB).bind fun k st => if k then (r2 s st).bind asB else .ok false st := by
  funext s st
  cases r1 s st with
  | ok d st1 =>
    cases d <;> try rfl
    rename_i b
    cases b
    · rfl
    · show ((r2 s st1).bind fun y st => (asB y st).bind fun k st => Res.ok (DV.D.bl k) st).bind asB = (r2 s st1).bind asB
      cases r2 s st1 with
      | ok d2 st2 => cases d2 <;> rfl
      | exc c st2 => rfl
      | bad => rfl
  | exc c st1 => rfl
  | bad => rfl
theorem asB_or {r1 r2 : Slots → Sto → Res D} : (fun s st => (((r1 s st).bind fun x st => (asB x st).bind fun k st => if k then .ok (.bl true) st else (r2 s st).bind fun y st => (asB y st).bind fun k st => .ok (.bl k) st) : Res D).bind asB) =
    fun s st => ((r1 s st).bind asB).bind fun k st => if k then .ok true st else (r2 s st).bind asB := by
  funext s st
  cases r1 s st with
  | ok d st1 =>
    cases d <;> try rfl
    rename_i b
    cases b
    · show ((r2 s st1).bind fun y st => (asB y st).bind fun k st => Res.ok (DV.D.bl k) st).bind asB = (r2 s st1).bind asB
      cases r2 s st1 with
      | ok d2 st2 => cases d2 <;> rfl
      | exc c st2 => rfl
      | bad => rfl
    · rfl
  | exc c st1 => rfl
  | bad => rfl
theorem asB_not {r1 : Slots → Sto → Res D} : (fun s st => (((r1 s st).bind fun x st => (asB x st).bind fun b st => .ok (.bl (!b)) st) : Res D).bind asB) = fun s st => ((r1 s st).bind asB).bind fun b st => .ok (!b) st := by
  funext s st
  cases r1 s st with
  | ok d st1 => cases d <;> rfl
  | exc c st1 => rfl
  | bad => rfl
/-- x and y, as a value whose last part is one -/
theorem pw_pt {B : WX} {X : Cx} {x : Expr} {r : Slots → Sto → Res Bool} (h : PW X x (tDt W B r)) : PT X x (tDt W B r) := h.pt
theorem pt_pw {B : WX} {X : Cx} {op : BoolOp} {ys : List Expr} {p : Pos} {r : Slots → Sto → Res Bool} (h : PT X (.BoolOp op ys p) (tDt W B r)) : PW X (.BoolOp op ys p) (tDt W B r) := ⟨fun _ => h.run⟩
theorem nil_es {es : List Ex} {C : Ck} (h : mEs es C [] = true) : es = [] := by
  cases es
  · rfl
  · simp [mEs] at h
theorem one_es {es : List Ex} {C : Ck} {x : Expr} (h : mEs es C [x] = true) : ∃ a, es = [a] ∧ mE false a C x = true := by
  cases es with
  | nil => simp [mEs] at h
  | cons a es =>
    simp only [mEs, Bool.and_eq_true] at h
    obtain rfl := nil_es h.2
    exact ⟨a, rfl, h.1⟩
theorem two_es {es : List Ex} {C : Ck} {x y : Expr} (h : mEs es C [x, y] = true) : ∃ a b, es = [a, b] ∧ mE false a C x = true ∧ mE false b C y = true := by
  cases es with
  | nil => simp [mEs] at h
  | cons a es =>
    simp only [mEs, Bool.and_eq_true] at h
    obtain ⟨b, rfl, hb⟩ := one_es h.2
    exact ⟨a, b, rfl, h.1, hb⟩
theorem evEs_one {a : Ex} : evEs R [a] = fun s st => (evE R a s st).bind fun d st => .ok [d] st := by
  funext s st
  rw [evEs]
  cases evE R a s st <;> first
    | rfl
    | (simp only [Res.bind]; rw [evEs])
theorem evEs_two {a b : Ex} : evEs R [a, b] = fun s st => (evE R a s st).bind fun d st => (evE R b s st).bind fun e st => .ok [d, e] st := by
  funext s st
  rw [evEs]
  cases evE R a s st with
  | ok d st1 =>
    simp only [Res.bind]
    rw [evEs_one]
    dsimp only
    cases evE R b s st1 <;> rfl
  | exc c st1 => rfl
  | bad => rfl
theorem bind_bind {α β γ : Type} {r : Res α} {f : α → Sto → Res β} {g : β → Sto → Res γ} : (r.bind f).bind g = r.bind fun x st => (f x st).bind g := by cases r <;> rfl
theorem own_ix {C : Ck} {own : List Nat} : (ownN C own).map (·.2) = own := by
  unfold ownN
  rw [List.map_map]
  conv => rhs; rw [← List.map_id own]
  rfl
theorem all_in {l own : List Nat} (h : l.all own.contains = true) : ∀ j ∈ l, j ∈ own := by
  rw [List.all_eq_true] at h
  intro j hj
  simpa using h j hj
theorem blk_kind {C : Ck} {scope : Scope} {own : List (Str × Nat)} (h : L2.blkC C.N C.sc scope own = true) : scope.kind = .function := (blkOk_by h).kind
/-- what is walked, from its arguments -/
theorem src_pi {B : WX} {C : Ck} {X : Cx} (G : Good W B R C X) {k : SrcK} {t : Tg} {C2 : Ck} {tg it : Expr} {es : List Ex} (ht : mTg t C2 tg = true) (hk : (t.isTup || !kTup k) = true) {ys : List Expr} (hs : srcX k C it = some ys) (h : noStar ys = true → PA X ys (tDs W B (evEs R es))) (hm : mEs es C ys = true) (h1 : k = .seq → ∀ a, es = [a] → mE false a C it = true → PE X it (tD W B (evE R a))) : PI X tg it (tI W B k (evEs R es)) := by
  have tup : kTup k = true → ∃ xs j p, tg = .Tuple xs j p := fun hh => by
    rw [hh] at hk
    cases t <;> simp [Tg.isTup] at hk
    cases tg <;> simp only [mTg] at ht <;> try cases ht
    exact ⟨_, _, _, rfl⟩
  unfold srcX at hs
  cases k with
  | seq =>
    dsimp only at hs
    split at hs
    · cases hs
    · cases hs
      obtain ⟨a, rfl, ha⟩ := one_es hm
      rw [evEs_one]
      exact xi_seq G.fits (h1 rfl a rfl ha)
  | range1 =>
    dsimp only at hs
    split at hs
    · rename_i n pn y pc
      split at hs
      · rename_i hc
        cases hs
        simp only [Bool.and_eq_true, decide_eq_true_eq] at hc
        obtain ⟨⟨k1, k2⟩, k3⟩ := hc
        subst k1
        exact xi_range1 (G.b k2).1 (G.b k2).2 (h k3) (star_cons (noStar_cons k3).1)
      · cases hs
    · cases hs
  | range2 =>
    dsimp only at hs
    split at hs
    · rename_i n pn y z pc
      split at hs
      · rename_i hc
        cases hs
        simp only [Bool.and_eq_true, decide_eq_true_eq] at hc
        obtain ⟨⟨k1, k2⟩, k3⟩ := hc
        subst k1
        have s1 := star_cons (es := [z]) (env := X.env) (noStar_cons k3).1
        have s2 := star_cons (es := []) (env := X.env) (noStar_cons (noStar_cons k3).2).1
        exact xi_range2 (G.b k2).1 (G.b k2).2 (h k3) (by rw [s1, s2]; rfl) s2
      · cases hs
    · cases hs
  | enum =>
    dsimp only at hs
    split at hs
    · rename_i n pn y pc
      split at hs
      · rename_i hc
        cases hs
        simp only [Bool.and_eq_true, decide_eq_true_eq] at hc
        obtain ⟨⟨k1, k2⟩, k3⟩ := hc
        subst k1
        obtain ⟨xs, j, p, rfl⟩ := tup rfl
        exact xi_enum G.fits (G.b k2).1 (G.b k2).2 (h k3) (star_cons (noStar_cons k3).1)
      · cases hs
    · cases hs
  | zip =>
    dsimp only at hs
    split at hs
    · rename_i n pn y z pc
      split at hs
      · rename_i hc
        cases hs
        simp only [Bool.and_eq_true, decide_eq_true_eq] at hc
        obtain ⟨⟨k1, k2⟩, k3⟩ := hc
        subst k1
        obtain ⟨xs, j, p, rfl⟩ := tup rfl
        exact xi_zip G.fits (G.b k2).1 (G.b k2).2 (h k3) (star_cons (es := [z]) (noStar_cons k3).1) (star_all (noStar_cons k3).2)
      · cases hs
    · cases hs
  | items => cases hs
mutual
theorem sE : ∀ {e : Ex} {tp : Bool} {x : Expr} {B : WX} {C : Ck} {X : Cx}, Good W B R C X → mE tp e C x = true → Both W B X tp x (evE R e)
  | .var i, tp, x, B, C, X, G, h => by
    cases x <;> simp only [mE] at h <;> try cases h
    rename_i n p
    simp only [Bool.and_eq_true, decide_eq_true_eq] at h
    obtain ⟨⟨h1, h2⟩, h3⟩ := h
    have pl := plain_of h3
    exact both_val (xd_var (pe_var (by rw [G.N]; exact h1) (G.vis h2) pl.1 pl.2)) rfl (by funext s st; simp only [evE] <;> rfl)
  | .gc k, tp, x, B, C, X, G, h => by
    cases x <;> simp only [mE] at h <;> try cases h
    rename_i n p
    simp only [Bool.and_eq_true, decide_eq_true_eq] at h
    obtain ⟨⟨h1, h2⟩, h3⟩ := h
    obtain ⟨v, u, d, k1, k2, k3, k4⟩ := G.gc n k h1
    exact both_val (xd_const (pe_glob (G.gl h2) k1 k2 (plain_of h3).1) k4) rfl (by funext s st; simp only [evE, k3])
  | .int i, tp, x, B, C, X, G, h => by
    cases x <;> simp only [mE] at h <;> try cases h
    rename_i c k p
    cases c <;> simp only [decide_eq_true_eq] at h <;> try cases h
    exact both_val (xd_const (d := .int i) pe_int fun _ _ => ⟨rfl, rfl⟩) rfl (by funext s st; simp only [evE])
  | .str i, tp, x, B, C, X, G, h => by
    cases x <;> simp only [mE] at h <;> try cases h
    rename_i c k p
    cases c <;> simp only [decide_eq_true_eq] at h <;> try cases h
    exact both_val (xd_const (d := .str i) pe_str fun _ _ => ⟨rfl, rfl⟩) rfl (by funext s st; simp only [evE])
  | .bl i, tp, x, B, C, X, G, h => by
    cases x <;> simp only [mE] at h <;> try cases h
    rename_i c k p
    cases c <;> simp only [beq_iff_eq] at h <;> try cases h
    exact both_val (xd_const (d := .bl i) pe_bl fun _ _ => ⟨rfl, rfl⟩) rfl (by funext s st; simp only [evE])
  | .non, tp, x, B, C, X, G, h => by
    cases x <;> simp only [mE] at h <;> try cases h
    rename_i c k p
    cases c <;> try cases h
    exact both_val (xd_const (d := .non) pe_non fun _ _ => ⟨rfl, rfl⟩) rfl (by funext s st; simp only [evE])
  | .tup es, tp, x, B, C, X, G, h => by
    cases x <;> simp only [mE] at h <;> try cases h
    rw [Bool.and_eq_true] at h
    exact both_val (xd_tup (sEs G h.1 h.2).1) rfl (by funext s st; simp only [evE])
  | .lst es, tp, x, B, C, X, G, h => by
    cases x <;> simp only [mE] at h <;> try cases h
    rw [Bool.and_eq_true] at h
    exact both_val (xd_lst (sEs G h.1 h.2).1) rfl (by funext s st; simp only [evE])
  | .dic ks vs, tp, x, B, C, X, G, h => by
    cases x <;> simp only [mE] at h <;> try cases h
    rename_i l1 l2 p
    split at h
    · rename_i heq
      cases heq
      rw [Bool.and_eq_true] at h
      obtain ⟨h1, h2⟩ := h
      obtain rfl := List.isEmpty_iff.mp h1
      obtain rfl := List.isEmpty_iff.mp h2
      exact both_val dic_new rfl (by funext s st; simp only [evE])
    · rename_i heq
      cases heq
      split at h
      · simp only [Bool.and_eq_true, decide_eq_true_eq] at h
        obtain ⟨⟨⟨h1, h2⟩, h3⟩, h4⟩ := h
        subst h4
        have pl := plain_of h3
        exact both_val (xd_dic1 G.fits G.units (pe_var (by rw [G.N]; exact h1) (G.vis h2) pl.1 pl.2) pe_int) rfl (by funext s st; simp only [evE] <;> rfl)
      · cases h
    · cases h
  | .bin o a b, tp, x, B, C, X, G, h => by
    cases x <;> simp only [mE] at h <;> try cases h
    simp only [Bool.and_eq_true, decide_eq_true_eq] at h
    obtain ⟨⟨h1, h2⟩, h3⟩ := h
    subst h1
    exact both_val (xd_bin (od_binop G o) ((sE G h2).1 rfl) ((sE G h3).1 rfl)) rfl (by funext s st; simp only [evE])
  | .neg a, tp, x, B, C, X, G, h => by
    cases x <;> simp only [mE] at h <;> try cases h
    rename_i op y p
    cases op <;> try (simp only at h; cases h; done)
    simp only [Bool.and_eq_true, Bool.not_eq_true'] at h
    obtain ⟨h1, h2⟩ := h
    refine ⟨fun _ => peEq (xd_neg ((sE G h2).1 rfl)) (by funext s st; simp only [evE] <;> rfl), fun z => by rw [h1] at z; cases z⟩
  | .not a, tp, x, B, C, X, G, h => by
    cases x <;> simp only [mE] at h <;> try cases h
    rename_i op y p
    cases op <;> simp only at h <;> try cases h
    refine ⟨fun z => ?_, fun z => ?_⟩
    · subst z
      exact peEq (xd_not ((sE G h).1 rfl)) (by funext s st; simp only [evE])
    · subst z
      refine ptEq (xt_not ((sE G h).2 rfl)) ?_
      rw [← asB_not]
      funext s st
      simp only [evE]
  | .and a b, tp, x, B, C, X, G, h => by
    cases x <;> simp only [mE] at h <;> try cases h
    rename_i op ys p
    cases op <;> try (simp only at h; cases h; done)
    match ys, h with
    | y :: z :: [], h =>
      simp only [Bool.and_eq_true] at h
      refine ⟨fun t => ?_, fun t => ?_⟩
      · subst t
        exact peEq (xd_and ((sE G h.1).1 rfl) (pe_one ((sE G h.2).1 rfl))) (by funext s st; simp only [evE])
      · subst t
        refine ptEq (pw_pt (xw_and ((sE G h.1).2 rfl) (xw_one ((sE G h.2).2 rfl)))) ?_
        rw [← asB_and]
        funext s st
        simp only [evE]
    | y :: z :: w :: r, h =>
      simp only [Bool.and_eq_true] at h
      refine ⟨fun t => ?_, fun t => ?_⟩
      · subst t
        exact peEq (xd_and ((sE G h.1).1 rfl) ((sE G h.2).1 rfl)) (by funext s st; simp only [evE])
      · subst t
        refine ptEq (pw_pt (xw_and ((sE G h.1).2 rfl) (pt_pw ((sE G h.2).2 rfl)))) ?_
        rw [← asB_and]
        funext s st
        simp only [evE]
  | .or a b, tp, x, B, C, X, G, h => by
    cases x <;> simp only [mE] at h <;> try cases h
    rename_i op ys p
    cases op <;> try (simp only at h; cases h; done)
    match ys, h with
    | y :: z :: [], h =>
      simp only [Bool.and_eq_true] at h
      refine ⟨fun t => ?_, fun t => ?_⟩
      · subst t
        exact peEq (xd_or ((sE G h.1).1 rfl) (pe_one ((sE G h.2).1 rfl))) (by funext s st; simp only [evE])
      · subst t
        refine ptEq (pw_pt (xw_or ((sE G h.1).2 rfl) (xw_one ((sE G h.2).2 rfl)))) ?_
        rw [← asB_or]
        funext s st
        simp only [evE]
    | y :: z :: w :: r, h =>
      simp only [Bool.and_eq_true] at h
      refine ⟨fun t => ?_, fun t => ?_⟩
      · subst t
        exact peEq (xd_or ((sE G h.1).1 rfl) ((sE G h.2).1 rfl)) (by funext s st; simp only [evE])
      · subst t
        refine ptEq (pw_pt (xw_or ((sE G h.1).2 rfl) (pt_pw ((sE G h.2).2 rfl)))) ?_
        rw [← asB_or]
        funext s st
        simp only [evE]
  | .cmp o a b, tp, x, B, C, X, G, h => by
    cases x <;> simp only [mE] at h <;> try cases h
    rename_i y ps zs p
    match ps, zs, h with
    | [q], [z], h =>
      simp only [Bool.and_eq_true, decide_eq_true_eq, Bool.not_eq_true'] at h
      obtain ⟨⟨⟨h1, h2⟩, h3⟩, h4⟩ := h
      subst h1
      refine ⟨fun _ => peEq (xd_cmp (od_cmpop G o) ((sE G h3).1 rfl) ((sE G h4).1 rfl) (behind_set h2)) (by funext s st; simp only [evE]), fun _ => ptEq (xt_cmp (od_cmpop G o) ((sE G h3).1 rfl) ((sE G h4).1 rfl) (behind_set h2)) (by funext s st; simp only [evE])⟩
  | .chain o o2 a b c, tp, x, B, C, X, G, h => by
    cases x <;> simp only [mE] at h <;> try cases h
    rename_i y ps zs p
    match ps, zs, h with
    | [q, q2], [z, w], h =>
      simp only [Bool.and_eq_true, decide_eq_true_eq, Bool.not_eq_true'] at h
      obtain ⟨⟨⟨⟨⟨⟨h1, h2⟩, h3⟩, h4⟩, h5⟩, h6⟩, h7⟩ := h
      subst h1 h2
      refine ⟨fun _ => peEq (xd_chain (od_cmpop G o) (od_cmpop G o2) ((sE G h5).1 rfl) ((sE G h6).1 rfl) ((sE G h7).1 rfl) (last_set h4)) (by funext s st; simp only [evE]), fun _ => ptEq (xt_chain (od_cmpop G o) (od_cmpop G o2) ((sE G h5).1 rfl) ((sE G h6).1 rfl) ((sE G h7).1 rfl) (last_set h4)) (by funext s st; simp only [evE])⟩
  | .ife c a b, tp, x, B, C, X, G, h => by
    cases x <;> simp only [mE] at h <;> try cases h
    simp only [Bool.and_eq_true, Bool.not_eq_true'] at h
    obtain ⟨⟨⟨h1, h2⟩, h3⟩, h4⟩ := h
    refine ⟨fun _ => peEq (xd_ife ((sE G h2).2 rfl) ((sE G h3).1 rfl) ((sE G h4).1 rfl)) (by funext s st; simp only [evE, bind_bind]), fun z => by rw [h1] at z; cases z⟩
  | .idx a b, tp, x, B, C, X, G, h => by
    cases x <;> simp only [mE] at h <;> try cases h
    simp only [Bool.and_eq_true, Bool.not_eq_true'] at h
    obtain ⟨⟨h1, h2⟩, h3⟩ := h
    exact both_val (xd_idx G.fits G.units ((sE G h2).1 rfl) ((sE G h3).1 rfl) (plain_ix h1)) rfl (by funext s st; simp only [evE])
  | .slc a lo hi, tp, x, B, C, X, G, h => by
    cases x <;> simp only [mE] at h <;> try cases h
    rename_i y z p
    cases z <;> try (simp only at h; cases h; done)
    rename_i l h' st' p2
    cases st' with
    | some _ => simp only at h; cases h
    | none =>
      simp only [Bool.and_eq_true] at h
      obtain ⟨⟨h1, h2⟩, h3⟩ := h
      exact both_val (xd_slc G.fits ((sE G h1).1 rfl) (sO G h2) (sO G h3)) rfl (by funext s st; simp only [evE])
  | .rev a, tp, x, B, C, X, G, h => by
    simp [mE] at h
  | .call f es, tp, x, B, C, X, G, h => by
    cases x <;> simp only [mE] at h <;> try cases h
    rename_i fn xs kws p
    cases fn <;> try (simp only at h; cases h; done)
    rename_i n p2
    cases kws with
    | cons _ _ => simp only at h; cases h
    | nil =>
      simp only [Bool.and_eq_true, decide_eq_true_eq] at h
      obtain ⟨⟨⟨⟨h1, h2⟩, h3⟩, h4⟩, h5⟩ := h
      obtain ⟨k, a, fd, ps, r1, r2, r3, r4, r5⟩ := G.fns n f h1
      have z : evE R (.call f es) = fun s st => finC st.objs.length st.esc ((evAs R es s st.bare).bind (R.call f)) := by funext s st; simp only [evE]
      cases xs with
      | nil =>
        obtain rfl := nil_es h5
        refine both_val (xd_call0 r2 r1 G.guards (G.gl h2) r3 r4 r5 G.takes (plain_of h3).1) rfl ?_
        rw [z]
        funext s st
        simp only [evAs, Res.bind]
      | cons y ys =>
        exact both_val (xd_call r2 r1 G.guards (G.gl h2) r3 r4 r5 G.takes (sEs G h4 h5).2 (plain_of h3).1 (star_cons (noStar_cons h4).1) (star_all (noStar_cons h4).2)) rfl z
  | .blt b es, tp, x, B, C, X, G, h => by
    cases x <;> simp only [mE] at h <;> try cases h
    rename_i fn xs kws p
    cases fn <;> try (simp only at h; cases h; done)
    rename_i n p2
    cases kws with
    | cons _ _ => simp only at h; cases h
    | nil =>
      simp only [Bool.and_eq_true, decide_eq_true_eq] at h
      obtain ⟨⟨⟨h1, h2⟩, h3⟩, h4⟩ := h
      have rg : ∀ y z : Expr, bltK b = .rg1 ∨ bltK b = .rg2 → True := fun _ _ _ => trivial
      match hk : bltK b, xs, h4, h3 with
      | .vals, y :: ys, h4, h3 =>
        exact both_val (blt_vals G (fun t z => by rw [hk] at z; cases z) (fun z => by rw [hk] at z; cases z) (fun z => by rw [hk] at z; cases z) h1 h2 (sEs G h3 h4).1 h3) rfl (by funext s st; simp only [evE])
      | .rg1, [.Call (.Name m2 pm) [y] [] pc], h4, h3 =>
        simp only [Bool.and_eq_true, decide_eq_true_eq] at h4
        obtain ⟨⟨⟨k1, k2⟩, k3⟩, k4⟩ := h4
        subst k1
        obtain ⟨a, rfl, ha⟩ := one_es k4
        have hy := (sE G ha).1 rfl
        have s1 := star_cons (es := []) (env := X.env) (noStar_cons k3).1
        have s2 := star_cons (es := []) (env := X.env) (noStar_cons h3).1
        have z : evE R (.blt b [a]) = fun s st => (evE R a s st).bind fun x st => bltRun b [x] st := by
          funext s st
          simp only [evE, evEs_one, bind_bind]
          rfl
        cases b <;> simp only [bltK] at hk <;> try cases hk
        · subst h1
          exact both_val (xd_tupR1 G.calm (G.b h2).1 (G.b h2).2 (G.b k2).1 (G.b k2).2 hy s1 s2) rfl z
        · subst h1
          exact both_val (xd_listR1 G.calm (G.b h2).1 (G.b h2).2 (G.b k2).1 (G.b k2).2 hy s1 s2) rfl z
      | .rg2, [.Call (.Name m2 pm) [y, y2] [] pc], h4, h3 =>
        simp only [Bool.and_eq_true, decide_eq_true_eq] at h4
        obtain ⟨⟨⟨k1, k2⟩, k3⟩, k4⟩ := h4
        subst k1
        obtain ⟨a, a2, rfl, ha, ha2⟩ := two_es k4
        have hy := (sE G ha).1 rfl
        have hy2 := (sE G ha2).1 rfl
        have s1 := star_cons (es := [y2]) (env := X.env) (noStar_cons k3).1
        have s3 := star_cons (es := []) (env := X.env) (noStar_cons (noStar_cons k3).2).1
        have s4 := star_all (env := X.env) (p := pc) (noStar_cons k3).2
        have s2 := star_cons (es := []) (env := X.env) (noStar_cons h3).1
        have z : evE R (.blt b [a, a2]) = fun s st => (evE R a s st).bind fun x st => (evE R a2 s st).bind fun y st => bltRun b [x, y] st := by
          funext s st
          simp only [evE, evEs_two, bind_bind]
          rfl
        cases b <;> simp only [bltK] at hk <;> try cases hk
        · subst h1
          exact both_val (xd_tupR2 G.calm (G.b h2).1 (G.b h2).2 (G.b k2).1 (G.b k2).2 hy hy2 s1 s3 s4 s2) rfl z
        · subst h1
          exact both_val (xd_listR2 G.calm (G.b h2).1 (G.b h2).2 (G.b k2).1 (G.b k2).2 hy hy2 s1 s3 s4 s2) rfl z
      | .is t, [y, .Name m2 pm], h4, h3 =>
        simp only [Bool.and_eq_true, decide_eq_true_eq] at h4
        obtain ⟨⟨k1, k2⟩, k3⟩ := h4
        have e2 : m2 = Str.ofString t.name := by rw [k1]; cases t <;> rfl
        subst e2
        obtain ⟨a, rfl, ha⟩ := one_es k3
        have hy := (sE G ha).1 rfl
        have s1 := star_cons (es := [.Name (Str.ofString t.name) pm]) (env := X.env) (noStar_cons h3).1
        have s2 := star_cons (es := []) (env := X.env) (noStar_cons (noStar_cons h3).2).1
        have s4 := star_all (env := X.env) (p := p) (noStar_cons h3).2
        have z : evE R (.blt b [a]) = fun s st => (evE R a s st).bind fun x st => isD t [x] st := by
          funext s st
          simp only [evE, evEs_one, bind_bind]
          cases b <;> simp only [bltK] at hk <;> cases hk <;> rfl
        have e3 : n = "isinstance" := by rw [h1]; cases b <;> simp only [bltK] at hk <;> cases hk <;> rfl
        subst e3
        exact both_val (xd_is t G.fits (G.b h2).1 (G.b h2).2 (G.b k2).1 (G.b k2).2 hy s1 s2 s4) rfl z
  | .mth m r es, tp, x, B, C, X, G, h => by
    cases x <;> simp only [mE] at h <;> try cases h
    rename_i fn xs kws p
    cases fn <;> try (simp only at h; cases h; done)
    rename_i o n p2
    cases kws with
    | cons _ _ => simp only at h; cases h
    | nil =>
      simp only [Bool.and_eq_true, decide_eq_true_eq] at h
      obtain ⟨⟨⟨⟨⟨⟨h1, h2⟩, h3⟩, h4⟩, h5⟩, h6⟩, h7⟩ := h
      have ho := (sE G h6).1 rfl
      have ln : (p2.endLine == p.line) = true := by rw [h3]; exact beq_self_eq_true _
      cases xs with
      | nil =>
        obtain rfl := nil_es h7
        cases m <;> simp only [mthN, List.length_nil] at h5 <;> try omega
        subst h1
        refine both_val (xd_mth0 (md_pop0 G.fits) ho (no_super h2) ln) rfl ?_
        funext s st
        simp only [evE, evEs, mthOk, mthRun, Res.bind]
        rfl
      | cons y ys =>
        have hlen : (y :: ys).length < 30 := by rw [h5]; cases m <;> decide
        have hm : m ≠ .pop0 := fun z => by subst z; simp [mthN] at h5
        exact both_val (mth_vals G hm h1 ho (sEs G h4 h7).1 h4 h2 h3 hlen) rfl (by funext s st; simp only [evE])
  | .comp e own t k es cs, tp, x, B, C, X, G, h => by
    cases x <;> simp only [mE] at h <;> try cases h
    rename_i elt gens scope p
    match gens, h with
    | [⟨tg, it, ifs, 0⟩], h =>
      simp only [Bool.and_eq_true, Bool.not_eq_true'] at h
      obtain ⟨⟨⟨⟨⟨⟨⟨h1, h2⟩, h3⟩, h4⟩, h5⟩, h6⟩, h7⟩, h8⟩ := h
      cases hs : srcX k C it with
      | none => rw [hs] at h6; cases h6
      | some ys =>
        rw [hs] at h6
        have pi := src_pi (tg := tg) G h4 h3 hs (fun ns => (sEs G ns h6).1) h6 fun hk a ea ha => (sE G ha).1 rfl
        have ok : BlkOk X.N X.env.scope scope (ownN C own) := by rw [G.N, G.sc]; exact blkOk_by h1
        have Gi := G.blk scope (blk_kind h1)
        have z := xd_lc (pos := p) (elt := elt) G.calm (by rw [G.N]; exact G.nd) (by rw [own_ix]; exact all_in h2) pi ok (fun s H L cl fp => sTgK (Gi s H L cl fp) h4 h3) (fun s H L cl fp => sC (Gi s H L cl fp) h7) (fun s H L cl fp => (sE (Gi s H L cl fp) h8).1 rfl) (folded_set h5)
        rw [own_ix] at z
        exact both_val z rfl (by funext s st; simp only [evE])
  | .comp2 e own own1 t k es cs t1 k1 es1 cs1, tp, x, B, C, X, G, h => by
    cases x <;> simp only [mE] at h <;> try cases h
    rename_i elt gens scope p
    match gens, h with
    | [⟨tg, it, ifs, 0⟩, ⟨tg1, it1, ifs1, 0⟩], h =>
      simp only [Bool.and_eq_true, Bool.not_eq_true'] at h
      obtain ⟨⟨⟨⟨⟨⟨⟨⟨⟨⟨⟨⟨⟨⟨h1, h2⟩, h3⟩, h4⟩, h5⟩, h6⟩, h7⟩, h8⟩, g1⟩, g2⟩, g3⟩, g4⟩, g5⟩, g6⟩, g7⟩ := h
      cases hs : srcX k C it with
      | none => rw [hs] at h6; cases h6
      | some ys =>
        cases hs1 : srcX k1 (C.inn scope) it1 with
        | none => rw [hs1] at g6; cases g6
        | some ys1 =>
          rw [hs] at h6
          rw [hs1] at g6
          have pi := src_pi (tg := tg) G h4 h3 hs (fun ns => (sEs G ns h6).1) h6 fun hk a ea ha => (sE G ha).1 rfl
          have ok : BlkOk X.N X.env.scope scope (ownN C own) := by rw [G.N, G.sc]; exact blkOk_by h1
          have Gi := G.blk scope (blk_kind h1)
          have z := xd_lc2 (pos := p) (elt := elt) (vs1 := own1) G.calm (by rw [G.N]; exact G.nd) (by rw [own_ix]; exact all_in h2) (all_in g1) (by rw [own_ix]; exact all_in g2) pi ok (fun s H L cl fp => sTgK (Gi s H L cl fp) h4 h3) (fun s H L cl fp => sC (Gi s H L cl fp) h7) (fun s H L cl fp => (sE (Gi s H L cl fp) h8).1 rfl) (folded_set h5)
            (fun s H L cl fp => src_pi (tg := tg1) (Gi s H L cl fp) g4 g3 hs1 (fun ns => (sEs (Gi s H L cl fp) ns g6).1) g6 fun hk a ea ha => (sE (Gi s H L cl fp) ha).1 rfl) (fun s H L cl fp => sTgK (Gi s H L cl fp) g4 g3) (fun s H L cl fp => sC (Gi s H L cl fp) g7) (fun env => folded_set g5)
          rw [own_ix] at z
          exact both_val z rfl (by funext s st; simp only [evE])
theorem sEs : ∀ {es : List Ex} {xs : List Expr} {B : WX} {C : Ck} {X : Cx}, Good W B R C X → noStar xs = true → mEs es C xs = true → PA X xs (tDs W B (evEs R es)) ∧ PA X xs (tAs W B (evAs R es))
  | [], xs, B, C, X, G, ns, h => by
    cases xs with
    | nil => exact ⟨paEq xs_nil (by funext s st; simp only [evEs]), by
        have z : evAs R [] = fun _ st => .ok [] st := by funext s st; simp only [evAs]
        rw [z]; exact xa_nil⟩
    | cons x xs => simp [mEs] at h
  | e :: es, xs, B, C, X, G, ns, h => by
    cases xs with
    | nil => simp [mEs] at h
    | cons x xs =>
      simp only [mEs, Bool.and_eq_true] at h
      obtain ⟨n1, n2⟩ := noStar_cons ns
      obtain ⟨h1, h2⟩ := sEs G n2 h.2
      have hx := (sE G h.1).1 rfl
      have sc := star_cons (es := xs) (env := X.env) n1
      refine ⟨paEq (xs_cons hx h1 sc) (by funext s st; simp only [evEs]), ?_⟩
      have z : evAs R (e :: es) = fun s st => (evE R e s st).bind fun d st => let p := stl d st; (evAs R es s p.2).bind fun ds st => .ok (p.1 :: ds) st := by funext s st; simp only [evAs]
      rw [z]
      exact xa_cons hx h2 sc
theorem sO : ∀ {es : List Ex} {o : Option Expr} {B : WX} {C : Ck} {X : Cx}, Good W B R C X → mO es C o = true → PO X o (tDo W B fun s st => (evEs R es s st).bind iO)
  | [], o, B, C, X, G, h => by
    cases o with
    | none =>
      have z : (fun s st => (evEs R [] s st).bind iO) = fun _ st => .ok none st := by funext s st; simp only [evEs, Res.bind, iO, iOpt]
      rw [z]; exact xo_none
    | some x => simp [mO] at h
  | [e], o, B, C, X, G, h => by
    cases o with
    | none => simp [mO] at h
    | some x =>
      simp only [mO] at h
      have z : (fun s st => (evEs R [e] s st).bind iO) = fun s st => (evE R e s st).bind fun d st => iO [d] st := by
        funext s st
        rw [evEs_one, bind_bind]
        rfl
      rw [z]
      exact xo_some ((sE G h).1 rfl)
  | _ :: _ :: _, o, B, C, X, G, h => by
    cases o <;> simp [mO] at h
theorem sC : ∀ {es : List Ex} {xs : List Expr} {B : WX} {C : Ck} {X : Cx}, Good W B R C X → mC es C xs = true → PTs X xs (tDt W B fun s st => evC R es s st)
  | [], xs, B, C, X, G, h => by
    cases xs with
    | cons _ _ => simp [mC] at h
    | nil =>
      refine ⟨fun pins s σ H Q I q => pts_nil.run pins s σ H Q I ?_⟩
      obtain ⟨s, st, m, cs, RS, S, q⟩ := q
      simp only [evC] at q
      exact q H m .refl S
  | [e], xs, B, C, X, G, h => by
    match xs, h with
    | [x], h =>
      simp only [mC] at h
      have z : (fun s st => evC R [e] s st) = fun s st => (evE R e s st).bind asB := by
        funext s st
        simp only [evC]
        cases evE R e s st with
        | ok d st1 => cases d <;> rfl
        | exc c st1 => rfl
        | bad => rfl
      rw [z]
      exact pts_one ((sE G h).2 rfl)
  | _ :: _ :: _, xs, B, C, X, G, h => by
    match xs, h with
    | [], h => simp [mC] at h
    | [_], h => simp [mC] at h
    | _ :: _ :: _, h => simp [mC] at h
end
end
end DV
set_option Elab.async false
set_option linter.all false
set_option autoImplicit false
set_option maxRecDepth 100000
set_option maxHeartbeats 4000000
/-! DS: the check of statements and defs. -/
namespace DV
open PySem PyProof.Rows
/-- names of a display of plain local names on one line -/
def nameOf (C : Ck) (line : Nat) : Expr → Option Str
  | .Name n p => if decide (C.sc.names.lookup n = some .local) && p.line == line then some n else none
  | _ => none
/-- whether a display is stored name by name from the right: none where it isn't told here -/
def swapN (C : Ck) (ts vs : List Expr) : Option (Option (List Str)) :=
  if !(ts.length == 2 || ts.length == 3) || vs.length != ts.length then some none
  else
    let names := ts.filterMap (nameOf C ((ts.head?.map (·.pos.line)).getD 0))
    if names.length != ts.length || names.eraseDups.length != names.length then some none
    else if vs.all (foldedForSure 8) then some none
    else if vs.all (constantsAlone 8) then none
    else some (some names)
def isTuple : Expr → Bool
  | .Tuple .. => true
  | _ => false
def tupElts : Expr → List Expr
  | .Tuple es _ _ => es
  | _ => []
/-- an assignment of a comprehension to a name that is done in the comprehension's own way -/
def swapsC (n : Str) (np : Pos) (e : Expr) : Bool := match e with
  | .ListComp _ _ scope p => np.line == p.line && !(scope.names.any fun (m, k) => m == n && (k == .local || k == .cell))
  | _ => false
mutual
def mS : St → Ck → Stmt → Bool
  | .asg t e, C, s => match s with
    | .Assign [tg] x _ => (match t, tg with
      | .nm i, .Name n np => decide (C.N[i]? = some n) && C.asg n && mE false e C x && (if isComp x then (match e with
          | .comp .. => true
          | .comp2 .. => true
          | _ => !swapsC n np x) else true)
      | .tup ts, .Tuple xs _ _ => mTgs ts C xs && mE false e C x && !isComp x && (match x with
        | .Tuple vs _ _ => noStar vs && (match swapN C xs vs with
          | some none => true
          | some (some names) => (match ts, xs, e with
            | [.nm i, .nm j], [.Name n _, .Name m _], .tup _ => decide (names = [n, m]) && decide (i ≠ j) && C.loc n && C.loc m
            | [.nm i, .nm j, .nm l], [.Name n _, .Name m _, .Name o _], .tup _ => decide (names = [n, m, o]) && decide (i ≠ j) && decide (i ≠ l) && decide (j ≠ l) && C.loc n && C.loc m && C.loc o
            | _, _, _ => false)
          | none => false)
        | _ => true)
      | .sub o i, .Subscript y z _ => !isSlice z && !isComp x && mE false o C y && mE false i C z && mE false e C x
      | _, _ => false)
    | _ => false
  | .ex e, C, s => match s with
    | .Expr x _ => !isComp x && mE false e C x
    | _ => false
  | .ite c a b, C, s => match s with
    | .If x y z _ => mE true c C x && mSs a C y && mSs b C z
    | _ => false
  | .whl c b, C, s => match s with
    | .While x y [] _ => mE true c C x && mSs b C y
    | _ => false
  | .fr t k es b, C, s => match s with
    | .For tg it y [] _ => (t.isTup || !kTup k) && mTg t C tg && !isSet it && (match srcX k C it with | some ys => mEs es C ys | none => false) && mSs b C y
    | _ => false
  | .ret e, C, s => match s with
    | .Return (some x) _ => mE false e C x
    | _ => false
  | .retN, C, s => match s with
    | .Return none _ => true
    | _ => false
  | .raise c, C, s => match s with
    | .Raise (some (.Call (.Name n _) [.Constant (.str _) _ _] [] _)) none _ => decide (C.gx.lookup n = some c) && C.gl n
    | _ => false
  | .pass, C, s => match s with
    | .Pass _ => true
    | _ => false
def mSs : List St → Ck → List Stmt → Bool
  | [], _, [] => true
  | x :: xs, C, s :: ss => mS x C s && mSs xs C ss
  | _, _, _ => false
end
def isDoc : Stmt → Bool
  | .Expr (.Constant (.str _) _ _) _ => true
  | _ => false
def noDoc (b : List Stmt) : List Stmt := match b with
  | s :: r => if isDoc s then r else s :: r
  | [] => []
def docIs (b : List Stmt) : Bool := match b with
  | s :: _ => isDoc s
  | [] => false
/-- a def's text: ps its parameters' names -/
def mF (F : Fn) (C : Ck) (ps : List Str) (body : List Stmt) : Bool :=
  decide (C.N.length = F.slots) && decide (ps.length = F.np) && mSs F.body C (noDoc body)
def scopeB (N ps : List Str) (sc : Scope) : Bool :=
  decide (sc.kind = .function) && !sc.isCoroutine && !sc.isGenerator && decide N.Nodup && decide (N.take ps.length = ps) && ps.all (fun x => decide (sc.names.lookup x = some .local) || decide (sc.names.lookup x = some .cell)) && sc.names.all fun y => decide (y.2 ≠ .free)
end DV
set_option Elab.async false
set_option linter.all false
set_option autoImplicit false
set_option maxRecDepth 100000
set_option maxHeartbeats 4000000
/-! DT: the check of statements is sound. -/
namespace DV
open PySem PySem.Spec PyProof.Rows L2
/-- .. and its statements may be left -/
structure GoodS (W : Wd) (B : WX) (R : DV.Env) (C : Ck) (X : Cx) : Prop where
  good : Good W B R C X
  pass : PassesOwn (model X.prog X.w) X.A X.env X.xe
  gx : ∀ x c, C.gx.lookup x = some c → Gl X x → ∀ m j p p2 pos, PMk X (.Call (.Name x p) [.Constant (.str m) j p2] [] pos) (fun _ H Q => Q (W.exc c) none H)
section
variable {W : Wd} {B : WX} {R : DV.Env} {C : Ck} {X : Cx}
theorem swaps_no {e : Expr} {t : Option Expr} {n : Nat} {env : PySem.Env} (h : isComp e = false) : swapsWith e t n env = pure false := by
  cases e <;> first
    | rfl
    | cases h
theorem swaps_sole {e t : Expr} {n : Nat} {env : PySem.Env} (h : isComp e = false) : swapsWithSole [t] e n env = pure false := swaps_no h
theorem stores_no {t e : Expr} {env : PySem.Env} (h : isTuple e = false ∨ (isTuple t = false ∧ ∀ ts p, t ≠ .List ts p)) : swappedStores [t] e env = pure none := by
  rcases h with h | ⟨h, h2⟩
  · cases e <;> first
      | (cases t <;> rfl)
      | cases h
  · cases t <;> first
      | (cases e <;> rfl)
      | exact absurd rfl (h2 _ _)
      | cases h
theorem Good.block (G : Good W B R C X) : X.env.blockKind = .function := by
  unfold PySem.Env.blockKind
  rw [G.sc, G.fun_]
  rfl
theorem swapsC_eq (G : Good W B R C X) {n : Str} {np : Pos} {elt : Expr} {gens : List Comprehension} {scope : Scope} {p : Pos} {ln : Nat} :
    swapsWith (.ListComp elt gens scope p) (some (.Name n np)) ln X.env = pure (C.loc n && swapsC n np (.ListComp elt gens scope p)) := by
  unfold swapsWith swapsC
  show pure (X.env.blockKind == .function && X.env.kindOf n == some .local && np.line == p.line && !(scope.names.any fun (m, k) => m == n && (k == .local || k == .cell))) = _
  rw [G.block]
  have h2 : X.env.kindOf n = C.sc.names.lookup n := by rw [← G.sc]; rfl
  rw [h2]
  have h3 : (C.sc.names.lookup n == some NameKind.local) = C.loc n := by
    unfold Ck.loc
    rw [Bool.eq_iff_iff]; simp
  rw [h3]
  cases C.loc n <;> rfl
theorem swapN_eq (G : Good W B R C X) {ts vs : List Expr} {k1 k2 : Nat} {p1 p2 : Pos} {o : Option (List Str)} (hv : noStar vs = true) (h : swapN C ts vs = some o) : swappedStores [.Tuple ts k1 p1] (.Tuple vs k2 p2) X.env = pure o := by
  unfold swapN at h
  unfold swappedStores
  dsimp only [pure_bind, bind_pure]
  rw [G.block]
  have fl : ∀ (f : Expr → Option Str), (∀ x, f x = nameOf C ((ts.head?.map (·.pos.line)).getD 0) x) → ts.filterMap f = ts.filterMap (nameOf C ((ts.head?.map (·.pos.line)).getD 0)) := fun f hf => by
    rw [show f = nameOf C ((ts.head?.map (·.pos.line)).getD 0) from funext hf]
  rw [fl _ (fun x => by
    cases x <;> try rfl
    rename_i n p
    unfold nameOf
    show (if (X.env.scope.names.lookup n == some NameKind.local && _) = true then some n else none) = _
    rw [G.sc]
    have : (C.sc.names.lookup n == some NameKind.local) = decide (C.sc.names.lookup n = some .local) := by
      rw [Bool.eq_iff_iff]; simp
    rw [this])]
  have e1 : (!(ts.length == 2 || ts.length == 3) || vs.length != ts.length || ScopeKind.function != ScopeKind.function) = (!(ts.length == 2 || ts.length == 3) || vs.length != ts.length) := by simp
  rw [e1]
  by_cases c1 : (!(ts.length == 2 || ts.length == 3) || vs.length != ts.length) = true
  · rw [if_pos c1] at h ⊢
    cases h
    rfl
  · rw [if_neg c1] at h ⊢
    dsimp only at h
    split
    · rename_i h2
      exfalso
      obtain ⟨x, hx, hx2⟩ := List.any_eq_true.mp h2
      unfold noStar at hv
      rw [List.all_eq_true] at hv
      have := hv x hx
      cases x <;> simp_all [isStar]
    · split
      · rename_i h3
        rw [if_pos h3] at h
        cases h
        rfl
      · rename_i h3
        rw [if_neg h3] at h
        split
        · rename_i h4
          rw [if_pos h4] at h
          cases h
          rfl
        · rename_i h4
          rw [if_neg h4] at h
          split
          · rename_i h5
            rw [if_pos h5] at h
            cases h
          · rename_i h5
            rw [if_neg h5] at h
            cases h
            rfl
theorem psEq {x : Stmt} {r r' : Slots → Sto → SRes} (h : PS X x (tDS W B r)) (e : r' = r) : PS X x (tDS W B r') := by rw [e]; exact h
theorem pssEq {x : List Stmt} {r r' : Slots → Sto → SRes} (h : PSs X x (tDS W B r)) (e : r' = r) : PSs X x (tDS W B r') := by rw [e]; exact h
theorem pgEq {x : Expr} {r r' : D → Slots → Sto → SRes} (h : PG X x (tGD W B r)) (e : r' = r) : PG X x (tGD W B r') := by rw [e]; exact h
theorem sub_assign {o i : Expr} {p : Pos} {env : PySem.Env} (h : isSlice i = false) : ∀ v, assign (.Subscript o i p) env v = (do
      let ov ← holding [v] (eval o env)
      let iv ← holding [v, ov] (eval i env)
      standAt p
      holding [v, ov, iv] (setItem ov iv v)
      release [v, ov, iv] []) := by
  intro v
  cases i <;> first
    | rfl
    | cases h
theorem asg_ends (t : Tg) (d : D) (s : Slots) (st : Sto) : match assignTo R t d s st .nxt with
    | .nxt _ _ => True
    | .exc _ _ _ => True
    | .bad => True
    | _ => False := by
  cases t with
  | sub o i =>
    cases e1 : evE R o s st with
    | ok ov st1 =>
      cases e2 : evE R i s st1 with
      | ok iv st2 =>
        cases e3 : setIx ov iv d st2 <;> simp only [assignTo, e1, e2, e3, Res.stm, optS]
      | exc c st2 => simp only [assignTo, e1, e2, Res.stm]
      | bad => simp only [assignTo, e1, e2, Res.stm]
    | exc c st1 => simp only [assignTo, e1, Res.stm]
    | bad => simp only [assignTo, e1, Res.stm]
  | nm i => trivial
  | tup ts => cases e1 : setTo (.tup ts) d s <;> simp only [assignTo, e1]
  | att o f => trivial
/-- name = [..], stored in the comprehension's own way -/
theorem sLc (G : Good W B R C X) {i : Nat} {n : Str} {np : Pos} {p cp : Pos} {elt : Expr} {gens : List Comprehension} {scope : Scope} {e : Ex} (hN : X.N[i]? = some n) (hl : X.env.scope.names.lookup n = some .local) (sw : swapsWith (.ListComp elt gens scope cp) (some (.Name n np)) p.line X.env = pure true) (h : mE false e C (.ListComp elt gens scope cp) = true) :
    PS X (.Assign [.Name n np] (.ListComp elt gens scope cp) p) (tDS W B fun s st => (evE R e s st).stm s fun d st => let p := stl d st; assignTo R (.nm i) p.1 s p.2 .nxt) := by
  have ndN : X.N.Nodup := by rw [G.N]; exact G.nd
  cases e <;> simp only [mE] at h <;> try cases h
  · rename_i e own t k es cs
    match gens, h, sw with
    | [⟨tg, it, ifs, 0⟩], h, sw =>
      simp only [Bool.and_eq_true, Bool.not_eq_true'] at h
      obtain ⟨⟨⟨⟨⟨⟨⟨h1, h2⟩, h3⟩, h4⟩, h5⟩, h6⟩, h7⟩, h8⟩ := h
      cases hs : srcX k C it with
      | none => rw [hs] at h6; cases h6
      | some ys =>
        rw [hs] at h6
        have pi := src_pi (tg := tg) G h4 h3 hs (fun ns => (sEs G ns h6).1) h6 fun hk a ea ha => (sE G ha).1 rfl
        have ok : BlkOk X.N X.env.scope scope (ownN C own) := by rw [G.N, G.sc]; exact blkOk_by h1
        have Gi := G.blk scope (blk_kind h1)
        have z := xs_lc (pos := cp) (spos := p) (elt := elt) G.calm ndN hN hl sw (by rw [own_ix]; exact all_in h2) pi ok (fun s H L cl fp => sTgK (Gi s H L cl fp) h4 h3) (fun s H L cl fp => sC (Gi s H L cl fp) h7) (fun s H L cl fp => (sE (Gi s H L cl fp) h8).1 rfl) (folded_set h5)
        rw [own_ix] at z
        refine psEq z ?_
        funext s st
        simp only [evE, assignTo, setTo, nmS]
  · rename_i e own own1 t k es cs t1 k1 es1 cs1
    match gens, h, sw with
    | [⟨tg, it, ifs, 0⟩, ⟨tg1, it1, ifs1, 0⟩], h, sw =>
      simp only [Bool.and_eq_true, Bool.not_eq_true'] at h
      obtain ⟨⟨⟨⟨⟨⟨⟨⟨⟨⟨⟨⟨⟨⟨h1, h2⟩, h3⟩, h4⟩, h5⟩, h6⟩, h7⟩, h8⟩, g1⟩, g2⟩, g3⟩, g4⟩, g5⟩, g6⟩, g7⟩ := h
      cases hs : srcX k C it with
      | none => rw [hs] at h6; cases h6
      | some ys =>
        cases hs1 : srcX k1 (C.inn scope) it1 with
        | none => rw [hs1] at g6; cases g6
        | some ys1 =>
          rw [hs] at h6
          rw [hs1] at g6
          have pi := src_pi (tg := tg) G h4 h3 hs (fun ns => (sEs G ns h6).1) h6 fun hk a ea ha => (sE G ha).1 rfl
          have ok : BlkOk X.N X.env.scope scope (ownN C own) := by rw [G.N, G.sc]; exact blkOk_by h1
          have Gi := G.blk scope (blk_kind h1)
          have z := xs_lc2 (pos := cp) (spos := p) (elt := elt) (vs1 := own1) G.calm ndN hN hl sw (by rw [own_ix]; exact all_in h2) (all_in g1) (by rw [own_ix]; exact all_in g2) pi ok (fun s H L cl fp => sTgK (Gi s H L cl fp) h4 h3) (fun s H L cl fp => sC (Gi s H L cl fp) h7) (fun s H L cl fp => (sE (Gi s H L cl fp) h8).1 rfl) (folded_set h5)
            (fun s H L cl fp => src_pi (tg := tg1) (Gi s H L cl fp) g4 g3 hs1 (fun ns => (sEs (Gi s H L cl fp) ns g6).1) g6 fun hk a ea ha => (sE (Gi s H L cl fp) ha).1 rfl) (fun s H L cl fp => sTgK (Gi s H L cl fp) g4 g3) (fun s H L cl fp => sC (Gi s H L cl fp) g7) (fun env => folded_set g5)
          rw [own_ix] at z
          refine psEq z ?_
          funext s st
          simp only [evE, assignTo, setTo, nmS]
mutual
theorem sS (G : GoodS W B R C X) : ∀ {s : St} {x : Stmt}, mS s C x = true → PS X x (tDS W B (evS R s))
  | .asg t e, x, h => by
    cases x <;> simp only [mS] at h <;> try cases h
    rename_i tgs x p
    match tgs, h with
    | [tg], h =>
      have z : evS R (.asg t e) = fun s st => (evE R e s st).stm s fun d st => let p := stl d st; assignTo R t p.1 s p.2 .nxt := by funext s st; simp only [evS]
      match t, tg, h with
      | .nm i, .Name n np, h =>
        simp only [Bool.and_eq_true, decide_eq_true_eq] at h
        obtain ⟨⟨⟨h1, h2⟩, h3⟩, h4⟩ := h
        have hN : X.N[i]? = some n := by rw [G.good.N]; exact h1
        have hl := G.good.asg h2
        have ndN : X.N.Nodup := by rw [G.good.N]; exact G.good.nd
        have he := (sE G.good h3).1 rfl
        have reg : swapsWith x (some (.Name n np)) p.line X.env = pure false → PS X (.Assign [.Name n np] x p) (tDS W B (evS R (.asg (.nm i) e))) := fun hs =>
          psEq (xs_asg he (pgEq (xg_of (xg_name ndN hN hl.1 hl.2)) (by funext d s st; rfl)) hs (stores_no (.inr ⟨rfl, fun _ _ z => nomatch z⟩)) rfl (asg_ends (R := R) (.nm i))) z
        by_cases hc : isComp x = true
        · rw [if_pos hc] at h4
          cases x <;> simp only [isComp] at hc <;> try cases hc
          · rename_i elt gens scope cp hcx
            have sw := swapsC_eq (n := n) (elt := elt) (gens := gens) (scope := scope) (p := cp) (np := np) (ln := p.line) G.good
            cases hsw : (C.loc n && swapsC n np (.ListComp elt gens scope cp)) with
            | false => rw [hsw] at sw; exact reg sw
            | true =>
              rw [hsw] at sw
              exact psEq (sLc G.good hN (G.good.loc (Bool.and_eq_true_iff.mp hsw).1) sw h3) z
          · exfalso
            cases e <;> simp [mE] at h3
          · exfalso
            cases e <;> simp [mE] at h3
        · exact reg (swaps_no (by simpa using hc))
      | .tup ts, .Tuple xs k tp, h =>
        simp only [Bool.and_eq_true, Bool.not_eq_true'] at h
        obtain ⟨⟨⟨h1, h2⟩, h3⟩, h4⟩ := h
        have he := (sE G.good h2).1 rfl
        have tg1 : mTg (.tup ts) C (.Tuple xs k tp) = true := by simp only [mTg]; exact h1
        have reg : swappedStores [.Tuple xs k tp] x X.env = pure none → PS X (.Assign [.Tuple xs k tp] x p) (tDS W B (evS R (.asg (.tup ts) e))) := fun hw =>
          psEq (xs_asg he (pgEq (xg_of (sTg G.good tg1)) (by funext d s st; rfl)) (swaps_sole h3) hw rfl (asg_ends (R := R) (.tup ts))) z
        by_cases hx : isTuple x = true
        · cases x <;> simp only [isTuple] at hx <;> try cases hx
          rename_i vs k2 vp hxx
          simp only [Bool.and_eq_true] at h4
          obtain ⟨nv, h5⟩ := h4
          cases hsw : swapN C xs vs with
          | none => rw [hsw] at h5; cases h5
          | some o =>
            have sw := swapN_eq (k1 := k) (k2 := k2) (p1 := tp) (p2 := vp) G.good nv hsw
            cases o with
            | none => exact reg sw
            | some names =>
              rw [hsw] at h5
              have ndN : X.N.Nodup := by rw [G.good.N]; exact G.good.nd
              match ts, xs, e, h5, h1, h2, z, sw, tg1 with
              | [.nm i, .nm j], [.Name n np, .Name m mp], .tup es, h5, h1, h2, z, sw, tg1 =>
                simp only [Bool.and_eq_true, decide_eq_true_eq] at h5
                obtain ⟨⟨⟨rfl, hij⟩, hi2⟩, hj2⟩ := h5
                simp only [mTgs, mTg, Bool.and_eq_true, decide_eq_true_eq] at h1
                obtain ⟨⟨i1, i2⟩, ⟨j1, j2⟩, _⟩ := h1
                match vs, nv, h2, sw with
                | [a, b], nv, h2, sw =>
                  simp only [mE, Bool.and_eq_true] at h2
                  refine psEq (xs_par G.good.calm ndN (by rw [G.good.N]; exact i1) (by rw [G.good.N]; exact j1) hij (G.good.loc hi2) (G.good.loc hj2) (sEs G.good nv h2.2).1 sw (swaps_sole rfl)) ?_
                  rw [z]
                  funext s st
                  simp only [evE, assignTo] <;> rfl
                | [], nv, h2, sw => simp [swapN] at hsw
                | [_], nv, h2, sw => simp [swapN] at hsw
                | _ :: _ :: _ :: _, nv, h2, sw => simp [swapN] at hsw
              | [.nm i, .nm j, .nm l], [.Name n np, .Name m mp, .Name o op], .tup es, h5, h1, h2, z, sw, tg1 =>
                simp only [Bool.and_eq_true, decide_eq_true_eq] at h5
                obtain ⟨⟨⟨⟨⟨⟨rfl, hij⟩, hil⟩, hjl⟩, hi2⟩, hj2⟩, hl2⟩ := h5
                simp only [mTgs, mTg, Bool.and_eq_true, decide_eq_true_eq] at h1
                obtain ⟨⟨i1, i2⟩, ⟨j1, j2⟩, ⟨l1, l2⟩, _⟩ := h1
                match vs, nv, h2, sw with
                | [a, b, c], nv, h2, sw =>
                  simp only [mE, Bool.and_eq_true] at h2
                  refine psEq (xs_par3 G.good.calm ndN (by rw [G.good.N]; exact i1) (by rw [G.good.N]; exact j1) (by rw [G.good.N]; exact l1) hij hil hjl (G.good.loc hi2) (G.good.loc hj2) (G.good.loc hl2) (sEs G.good nv h2.2).1 sw (swaps_sole rfl)) ?_
                  rw [z]
                  funext s st
                  simp only [evE, assignTo] <;> rfl
                | [], nv, h2, sw => simp [swapN] at hsw
                | [_], nv, h2, sw => simp [swapN] at hsw
                | [_, _], nv, h2, sw => simp [swapN] at hsw
                | _ :: _ :: _ :: _ :: _, nv, h2, sw => simp [swapN] at hsw
        · exact reg (stores_no (.inl (by simpa using hx)))
      | .sub o i, .Subscript y w sp, h =>
        simp only [Bool.and_eq_true, Bool.not_eq_true'] at h
        obtain ⟨⟨⟨⟨h1, h2⟩, h3⟩, h4⟩, h5⟩ := h
        refine psEq (xs_asg ((sE G.good h5).1 rfl) (pgEq (xg_sub (pos := sp) G.good.fits G.good.units ((sE G.good h3).1 rfl) ((sE G.good h4).1 rfl) (sub_assign h1)) ?_) (swaps_sole h2) (stores_no (.inr ⟨rfl, fun _ _ z => nomatch z⟩)) rfl (asg_ends (R := R) (.sub o i))) z
        funext d s st
        simp only [assignTo]
  | .ex e, x, h => by
    cases x <;> simp only [mS] at h <;> try cases h
    simp only [Bool.and_eq_true, Bool.not_eq_true'] at h
    exact psEq (xs_expr ((sE G.good h.2).1 rfl) (swaps_no h.1)) (by funext s st; simp only [evS])
  | .ite c a b, x, h => by
    cases x <;> simp only [mS] at h <;> try cases h
    simp only [Bool.and_eq_true] at h
    obtain ⟨⟨h1, h2⟩, h3⟩ := h
    exact psEq (xs_if ((sE G.good h1).2 rfl) (sSs G h2) (sSs G h3)) (by funext s st; simp only [evS])
  | .whl c b, x, h => by
    cases x <;> simp only [mS] at h <;> try cases h
    rename_i y ys els p
    cases els with
    | cons _ _ => simp only at h; cases h
    | nil =>
      simp only [Bool.and_eq_true] at h
      exact psEq (xs_while (n := turns) G.pass ((sE G.good h.1).2 rfl) (sSs G h.2)) (by funext s st; simp only [evS])
  | .fr t k es b, x, h => by
    cases x <;> simp only [mS] at h <;> try cases h
    rename_i tg it ys els p
    cases els with
    | cons _ _ => simp only at h; cases h
    | nil =>
      simp only [Bool.and_eq_true, Bool.not_eq_true'] at h
      obtain ⟨⟨⟨⟨h1, h2⟩, h3⟩, h4⟩, h5⟩ := h
      cases hs : srcX k C it with
      | none => rw [hs] at h4; cases h4
      | some zs =>
        rw [hs] at h4
        have pi := src_pi (tg := tg) G.good h2 h1 hs (fun ns => (sEs G.good ns h4).1) h4 fun hk a ea ha => (sE G.good ha).1 rfl
        exact psEq (xs_for G.pass G.good.calm pi (sTgK G.good h2 h1) (sSs G h5) (folded_set h3)) (by funext s st; simp only [evS] <;> rfl)
  | .ret e, x, h => by
    cases x <;> simp only [mS] at h <;> try cases h
    rename_i o p
    cases o with
    | none => simp only at h; cases h
    | some y => exact psEq (xs_ret ((sE G.good h).1 rfl)) (by funext s st; simp only [evS])
  | .retN, x, h => by
    cases x <;> simp only [mS] at h <;> try cases h
    rename_i o p
    cases o with
    | none => exact psEq xs_retN (by funext s st; simp only [evS])
    | some y => simp only at h; cases h
  | .raise c, x, h => by
    cases x <;> simp only [mS] at h <;> try cases h
    rename_i o o2 p
    match o, o2, h with
    | some (.Call (.Name n np) [.Constant (.str m) j p2] [] cp), none, h =>
      simp only [Bool.and_eq_true, decide_eq_true_eq] at h
      exact psEq (xs_raise G.good.calm G.good.takes (G.gx n c h.1 (G.good.gl h.2) m j np p2 cp)) (by funext s st; simp only [evS])
  | .pass, x, h => by
    cases x <;> simp only [mS] at h <;> try cases h
    exact psEq xs_pass (by funext s st; simp only [evS])
theorem sSs (G : GoodS W B R C X) : ∀ {s : List St} {x : List Stmt}, mSs s C x = true → PSs X x (tDS W B (evSs R s))
  | [], x, h => by
    cases x with
    | nil => exact pssEq xb_nil (by funext s st; simp only [evSs])
    | cons _ _ => simp [mSs] at h
  | s :: ss, x, h => by
    cases x with
    | nil => simp [mSs] at h
    | cons x xs =>
      simp only [mSs, Bool.and_eq_true] at h
      exact pssEq (xb_cons (sS G h.1) (sSs G h.2)) (by funext s st; simp only [evSs] <;> rfl)
end
end
end DV
set_option Elab.async false
set_option linter.all false
set_option autoImplicit false
set_option maxRecDepth 100000
set_option maxHeartbeats 4000000
/-! DU: defs of a table. -/
namespace DV
open PySem PySem.Spec PyProof.Rows L2
/-- a def of the text: its name, its row, its slots' names, its parameters' names -/
structure DT1 where
  x : Str
  st : Stmt
  N : List Str
  ps : List Str
/-- what a text's defs see of the module -/
structure Glo where
  fns : List (Str × Nat)
  gc : List (Str × Nat)
  gx : List (Str × Nat)
  blt : List Str
def DT1.ck (D : DT1) (G : Glo) : Ck := ⟨D.N, defScope D.st, G.fns, G.gc, G.gx, G.blt, true⟩
def DT1.chk (G : Glo) (F : Fn) (D : DT1) : Bool := mF F (D.ck G) D.ps (defBody D.st) && scopeB D.N D.ps (defScope D.st) && !docIs (defBody D.st)
def chkAll (G : Glo) : List Fn → List DT1 → Bool
  | F :: Fs, D :: Ds => D.chk G F && chkAll G Fs Ds
  | [], [] => true
  | _, _ => false
theorem chkAll_get {G : Glo} : ∀ {Fs : List Fn} {Ds : List DT1} {i : Nat} {D : DT1}, chkAll G Fs Ds = true → Ds[i]? = some D → ∃ F, Fs[i]? = some F ∧ D.chk G F = true
  | F :: Fs, D :: Ds, 0, D', h, e => by
    unfold chkAll at h
    simp only [Bool.and_eq_true] at h
    simp only [List.getElem?_cons_zero, Option.some.injEq] at e
    subst e
    exact ⟨F, rfl, h.1⟩
  | F :: Fs, D :: Ds, i + 1, D', h, e => by
    unfold chkAll at h
    simp only [Bool.and_eq_true] at h
    simp only [List.getElem?_cons_succ] at e ⊢
    exact chkAll_get h.2 e
  | [], [], _, _, _, e => by simp at e
  | [], _ :: _, _, _, h, _ => by simp [chkAll] at h
  | _ :: _, [], _, _, h, _ => by simp [chkAll] at h
theorem scope_of {N ps : List Str} {sc : Scope} (h : scopeB N ps sc = true) : FnScope N ps sc := by
  unfold scopeB at h
  simp only [Bool.and_eq_true, Bool.not_eq_true', decide_eq_true_eq, List.all_eq_true, Bool.or_eq_true] at h
  obtain ⟨⟨⟨⟨⟨⟨h1, h2⟩, h3⟩, h4⟩, h5⟩, h6⟩, h7⟩ := h
  exact ⟨h1, h2, h3, h4, h5, h6, h7⟩
/-- what the module's names stand for -/
structure TopG (W : Wd) (mg : Str → Option Value) (G : Glo) (consts : List D) (Ds : List DT1) : Prop where
  fns : ∀ x i, G.fns.lookup x = some i → ∃ D : DT1, Ds[i]? = some D ∧ D.x = x
  def_ : ∀ (i : Nat) (D : DT1), Ds[i]? = some D → ∃ (fd : FuncData) (f : Addr), FunD W.K D.x D.x (defArgs D.st) (defBody D.st) (defScope D.st) [] [] f fd ∧ mg D.x = some (.ref f) ∧ Binds W.K fd D.ps []
  blt : ∀ x ∈ G.blt, mg x = none
  gc : ∀ x k, G.gc.lookup x = some k → ∃ (v : V) (u : Value) (d : D), mg x = some u ∧ RelV v u ∧ consts[k]? = some d ∧ ∀ m H, RepV W m H d v []
  gx : ∀ x c, G.gx.lookup x = some c → (x == ("__debug__" : Str)) = false ∧ ∃ C, W.exc c = .ref C ∧ mg x = some (.ref C) ∧ PySem.W.excIn W.K C [.type "ValueError", .type "Exception", .type "BaseException", .type "object"] "ValueError.__new__" = true ∧ PySem.W.keepIn W.K (.ref C) = true ∧
    PySem.W.subIn W.K (.ref C) (.type "BaseException") = some true ∧ PySem.W.typeIn W.K (.ref C) = some (.type "type")
theorem spD_bad {W : Wd} {vs : List V} {H : Hp} {Q : VK} {E : XK} {r : List D → Sto → Res D} (h : ∀ ds st, r ds st = .bad) (q : spD W r vs H Q E) : False := by
  obtain ⟨ds, st, m, cs, _, _, q⟩ := q
  rw [h] at q
  exact q
theorem spD_len {W : Wd} {R : DV.Env} {F : Fn} {vs : List V} {H : Hp} {Q : VK} {E : XK} (q : spD W (runFn R F) vs H Q E) : vs.length = F.np := by
  obtain ⟨ds, st, m, cs, RS, _, q⟩ := q
  unfold runFn at q
  split at q
  · rename_i hl
    rw [← hl]
    exact RS.length
  · exact False.elim q
/-- THE TABLE: each def does what its row of the table does -/
theorem table {W : Wd} {mg : Str → Option Value} {base : Heap} {G : Glo} {T : Tab} {Ds : List DT1} (hT : TopG W mg G T.consts Ds) (hc : chkAll G T.fns Ds = true) :
    ∀ (n i : Nat) (D : DT1), Ds[i]? = some D → ∀ (fd : FuncData) (f : Addr), FunD W.K D.x D.x (defArgs D.st) (defBody D.st) (defScope D.st) [] [] f fd → FnD W.P W.w W.K mg base (L2.CX W.P W.w) n f fd D.ps (spD W (callN T n i))
  | 0, i, D, hD, fd, f, F => ⟨fun vs H Q E q => (spD_bad (fun _ _ => rfl) q).elim, fun A outer s H args us vs Q E _ _ _ _ _ q => (spD_bad (fun _ _ => rfl) q).elim⟩
  | n + 1, i, D, hD, fd, f, F => by
    obtain ⟨Fn, hF, hk⟩ := chkAll_get hc hD
    unfold DT1.chk at hk
    simp only [Bool.and_eq_true, Bool.not_eq_true'] at hk
    obtain ⟨⟨k1, k2⟩, k3⟩ := hk
    unfold mF at k1
    simp only [Bool.and_eq_true, decide_eq_true_eq] at k1
    obtain ⟨⟨l1, l2⟩, l3⟩ := k1
    have S := scope_of k2
    have e1 : ∀ ds st, callN T (n + 1) i ds st = runFn ⟨callN T n, T.consts⟩ Fn ds st := fun ds st => by
      show (match T.fns[i]? with | some F => _ | none => _) = _
      rw [hF]
    have e2 : callN T (n + 1) i = runFn ⟨callN T n, T.consts⟩ Fn := by funext ds st; exact e1 ds st
    rw [e2]
    have nd : noDoc (defBody D.st) = defBody D.st := by
      unfold noDoc
      unfold docIs at k3
      cases hb0 : defBody D.st with
      | nil => rfl
      | cons s r =>
        rw [hb0] at k3
        dsimp only at k3 ⊢
        rw [k3]
        rfl
    rw [nd] at l3
    obtain ⟨oc, od, dV, kV, doc, pm, an, cdv, ct, osl, rfl, lk, cd, _, _⟩ := F.ex
    refine fnD_of lk cd S (fun vs H Q E q => by rw [spD_len q, l2]) fun A outer s H vs Q E room gd fr q => ?_
    refine ⟨_, ?_, body_rd (E := E) l1 q⟩
    refine (sSs (G := ?_) l3 : PSs _ _ (tDS W (fun c d _ H => E c d H) (evSs ⟨callN T n, T.consts⟩ Fn.body)))
    refine { good := { fits := ⟨rfl, rfl, rfl⟩, N := rfl, nd := S.nd, sc := rfl, fun_ := S.kind, calm := rfl, fn := fun _ _ => rfl, units := ?_, guards := gd, takes := takes_of rfl rfl rfl rfl, blt := hT.blt, fns := ?_, gc := hT.gc }, pass := passes_of rfl, gx := ?_ }
    · have := room.un
      show (A.deeper _).units + 65 < cLine
      omega
    · intro x j hx
      obtain ⟨D', hD', rfl⟩ := hT.fns x j hx
      obtain ⟨fd', f', F', hm, hb⟩ := hT.def_ j D' hD'
      exact ⟨n, f', fd', D'.ps, room, table hT hc n j D' hD' fd' f' F', hm, F'.kp, hb⟩
    · intro x c hx hg m j p p2 pos
      obtain ⟨db, C, h1, h2, h3, h4, h5, h6⟩ := hT.gx x c hx
      rw [h1]
      exact pmk_own PySem.F.excBase_ValueError h3 h2 h4 (raises_own h5 h6) hg db
/-! ### the law's call -/
theorem law_callD {P : Program} {wd : World} {Kf : PySem.W.Frag} {mG mB : Str → Option Value} {CX : CXT} {k : Nat} {fL a : Addr} {fd : FuncData} {x : Str} {sp : Sp} {s₁ : Shared} {us : List Value} {is : List Int}
    (kin : Kf.In s₁.heap) (nsM : s₁.heap.Ns mainGlobals mG) (nsB : s₁.heap.Ns builtinsNs mB) (nsBoot : ∀ x : Str, x ≠ "__name__" → mB x = bootBuiltins x) (noLim : s₁.heap.NoLimit) (noGen : s₁.gens = #[])
    (obS : s₁.heap.get? a = some { cls := .type "list", data := .seq us.toArray }) (intS : IntsAre us is) (lenS : is.length ≤ sizeLine) (room : Room k callerA)
    (FD : ∀ base : Heap, Kf.In base → base.Ns mainGlobals mG → FnD P wd Kf mG base CX k fL fd [x] sp) (bindS : ∀ (s : Shared) (u : Value), BindsTo s fd ⟨[u], []⟩ [(x, u)])
    (wish : ∀ H : Hp, L2.Only H → SqL Kf H a (is.map V.int) → sp [.ref a] H (fun v _ => v = .bl true) fun _ _ _ => False)
    (noExc : ∀ H e s', CX [] H s₁ (fun _ _ _ => False) e s' → False) :
    codeAny (model P wd) callerA (.call (.ref fL) ⟨[.ref a], []⟩) (fun r s' => r = .ok (.ret (.bool true)) ∧ OldK s₁.heap s'.heap ∧ s'.os = s₁.os ∧ AllBare s'.gens) s₁ := by
  have valS := vals_ints intS
  have lenVs := intS.length
  
  have kern : ∀ H : Hp, L2.Only H → SqL Kf H a (is.map V.int) → HOk P wd H s₁.heap → (∀ b, H b ≠ none → b = a) → (H a ≠ none → Kf.lookup a = none) →
      codeAny (model P wd) callerA (.call (.ref fL) ⟨[.ref a], []⟩) (fun r s' => r = .ok (.ret (.bool true)) ∧ OldK s₁.heap s'.heap ∧ s'.os = s₁.os ∧ AllBare s'.gens) s₁ := by
    intro H onl seqS okH justA freeA
    have inBase : ∀ {b : Addr} {o : Obj}, s₁.heap.get? b = some o → H b = none → (hidT s₁.heap H).get? b = some o := fun e n => hidT_get e n
    have notA : ∀ {b : Addr} {o : Obj} {es : Array DictEntry} {ep : Nat}, s₁.heap.get? b = some o → o.data = .dict es ep → H b = none := fun {b o es ep} e d => by
      cases q : H b with
      | none => rfl
      | some u =>
        have e' : b = a := justA b (by rw [q]; simp)
        subst e'
        rw [obS] at e; cases e
        have d' : Data.seq us.toArray _ = Data.dict es ep := d
        cases d'
    have nsKeep : ∀ {b : Addr} {m : Str → Option Value}, s₁.heap.Ns b m → (hidT s₁.heap H).Ns b m := fun {b m} ⟨o, es, ep, e, d, r⟩ => ⟨o, es, ep, inBase e (notA e d), d, r⟩
    have kinB : Kf.In (hidT s₁.heap H) := fun b o e => inBase (kin b o e) (by
      cases q : H b with
      | none => rfl
      | some u =>
        have e' : b = a := justA b (by rw [q]; simp)
        subst e'
        rw [freeA (by rw [q]; simp)] at e; cases e)
    have modB : Mod Kf mG (hidT s₁.heap H) := ⟨kinB, nsKeep nsM, ⟨mB, nsKeep nsB, nsBoot⟩, let ⟨mc, h1, h2⟩ := noLim; ⟨mc, nsKeep h1, h2⟩⟩
    have env0 : Env0 P wd Kf mG (hidT s₁.heap H) callerA [] s₁ H := ⟨rfl, modB, fun b o e => of_hidT e, Nat.le_of_eq (hidT_size _ _), trivial, fun b nsB => absurd (show b ∈ ([] : List Addr) from nsB) (by simp), okH, .of_eq noGen⟩
    refine codeAny_mono ((FD _ kinB (nsKeep nsM)).run callerA [] s₁ H ⟨[.ref a], []⟩ [.ref a] [.ref a] _ _ room rfl env0 (bindS s₁ (.ref a)) (.cons rfl .nil) (wish H onl seqS)) fun r s' h => ?_
    cases r with
    | error e => exact (noExc H e s' h).elim
    | ok fl =>
      cases fl with
      | next => exact False.elim h
      | brk => exact False.elim h
      | cont => exact False.elim h
      | ret u =>
        obtain ⟨v, H', os, bareS, unS, okH2, r', q⟩ := h
        have q' : v = .bl true := q
        subst q'
        obtain rfl : u = Value.bool true := r'
        refine ⟨rfl, OldK.of_keep fun b o e => ?_, os, bareS⟩
        cases q : H b with
        | none => exact unS.keep b o e q (by intro z; exact absurd (show b ∈ ([] : List Addr) from z) (by simp)) (by simp)
        | some u =>
          rcases onl b with z | ⟨ob, xs, z⟩
          · rw [q] at z; cases z
          · have z2 := unS.frzs b ob _ z
            obtain ⟨e1, _⟩ := okH b _ z
            obtain ⟨e2, _⟩ := okH2 b _ z2
            rw [e] at e1; cases e1
            exact e2
  cases hk : Kf.lookup a with
  | some o =>
    
    have e := kin a o hk
    rw [obS] at e
    cases e
    refine kern (fun _ => none) (fun _ => .inl rfl) (.inr ⟨_, us.toArray, _, hk, rfl, rfl, rfl, by rw [List.size_toArray, lenVs]; exact lenS, by simpa using valS⟩) (fun b u z => by have z' : (none : Option HO) = some u := z; cases z') (fun b z => absurd rfl z) fun z => absurd rfl z
  | none =>
    refine kern (fun b => if b = a then some (.frz { cls := .type "list", data := .seq us.toArray } (.lst (is.map V.int))) else none) (fun b => ?_) (.inl (.inr ⟨{ cls := .type "list", data := .seq us.toArray }, if_pos rfl⟩)) (fun b u z => ?_) (fun b z => ?_) fun _ => hk
    · by_cases nsB : b = a
      · exact .inr ⟨_, _, if_pos nsB⟩
      · exact .inl (if_neg nsB)
    · by_cases nsB : b = a
      · have z' := (if_pos nsB).symm.trans z
        cases z'
        subst nsB
        exact ⟨obS, by rw [List.length_map]; exact lenS, us, _, valS, obS⟩
      · have z' := (if_neg nsB).symm.trans z
        cases z'
    · by_cases nsB : b = a
      · exact nsB
      · exact absurd (if_neg nsB) z
theorem fro_ints {W : Wd} {m : List Addr} {H : Hp} : ∀ is : List Int, RepVs W m H (is.map D.int) (is.map V.int) []
  | [] => ⟨rfl, rfl⟩
  | i :: is => ⟨.int i, is.map V.int, [], [], rfl, rfl, ⟨rfl, rfl⟩, fro_ints is⟩
/-- the law's promise from the table's answer -/
theorem law_spD {W : Wd} {T : Tab} {n i : Nat} {is : List Int} {a : Addr} {H : Hp} {st' : Sto} (hO : L2.Only H) (hS : SqL W.K H a (is.map V.int)) (h : callN T n i [.fro (is.map D.int)] ⟨[], none⟩ = .ok (.bl true) st') :
    spD W (callN T n i) [.ref a] H (fun v _ => v = .bl true) fun _ _ _ => False := by
  refine ⟨[.fro (is.map D.int)], ⟨[], none⟩, [], [], ?_, ?_, ?_⟩
  · refine ⟨.ref a, [], [], [], rfl, rfl, ⟨a, is.map V.int, rfl, rfl, ?_, ?_⟩, rfl, rfl⟩
    · rcases hS with (z | ⟨o, z⟩) | z
      · rcases hO a with q | ⟨o, xs, q⟩
        · rw [q] at z; cases z
        · rw [q] at z; cases z
      · exact .inl ⟨o, z⟩
      · exact .inr (.inr z)
    · exact fro_ints is
  · exact ⟨rfl, List.nodup_nil, fun l a o h => by simp at h, fun n h => by simp at h⟩
  · rw [h]
    intro v H' m' F g S R Tm
    exact R.1
end DV
set_option Elab.async false
set_option linter.all false
set_option autoImplicit false
set_option maxRecDepth 100000
set_option maxHeartbeats 4000000
/-! DV1: the head, by the kit's facts by names. -/
namespace DV
open PySem PySem.Spec PyProof.Rows L2
theorem lookup_in {α : Type} {x : Str} {k : α} : ∀ {l : List (Str × α)}, l.lookup x = some k → (x, k) ∈ l
  | [], h => by simp at h
  | (y, j) :: l, h => by
    rw [List.lookup_cons] at h
    by_cases e : (x == y) = true
    · rw [e] at h
      have e2 := eq_of_beq e
      cases h
      rw [e2]
      exact List.mem_cons_self
    · rw [Bool.not_eq_true] at e
      rw [e] at h
      exact List.mem_cons_of_mem _ (lookup_in h)
def DT1.defD (D : DT1) : He.DefD := ⟨(D.x, none), D.x, D.x, defArgs D.st, defBody D.st, defScope D.st, [], []⟩
def dfl0 : D → List He.Fa
  | _ => []
/-- the module's names as facts -/
def faOf (G : Glo) (consts : List D) (Ds : List DT1) : List He.Fa :=
  Ds.map (fun D => He.Fa.glo D.x) ++ G.blt.map .free ++ G.gx.map (fun p => He.Fa.glo p.1) ++ G.gx.map (fun p => He.Fa.exc p.1) ++
    G.gc.map fun p => match consts[p.2]? with
      | some (.int i) => He.Fa.int p.1 i
      | some (.str z) => He.Fa.str p.1 z
      | _ => He.Fa.free p.1
def gloB (G : Glo) (consts : List D) (Ds : List DT1) : Bool :=
  G.fns.all (fun p => match Ds[p.2]? with
    | some D => decide (D.x = p.1)
    | none => false) &&
  G.gc.all (fun p => match consts[p.2]? with
    | some (.int _) => true
    | some (.str _) => true
    | _ => false) &&
  G.gx.all fun p => decide ((G.gx.map (·.1))[p.2]? = some p.1) && !(p.1 == ("__debug__" : Str))
/-- the def takes its arguments by place, all of them -/
def argsB (D : DT1) : Prop := ∀ (kV doc pm : Value) (an : Option Addr) (cdv ct : Value) (us : List Value), us.length = D.ps.length → bindArgs (PySem.W.fnOf D.x D.x (defArgs D.st) (defBody D.st) (defScope D.st) .none kV doc pm an cdv ct) ⟨us, []⟩ = pure (D.ps.zip us)
def wdOf (P : Program) (w : World) (K : PySem.W.Frag) (G : Glo) : Wd := ⟨P, w, K, fun c => .ref (He.ga K ((G.gx.map (·.1)).getD c ""))⟩
theorem fact_in {fa : List He.Fa} {fn : List He.DefD} {K : PySem.W.Frag} (c : He.SaysD fa fn K) {f : He.Fa} (h : f ∈ fa) : f.ok K = true := by
  obtain ⟨i, hi, rfl⟩ := List.getElem_of_mem h
  exact c.fact i (List.getElem?_eq_getElem hi)
theorem top_of {P : Program} {w : World} {K : PySem.W.Frag} {G : Glo} {consts : List D} {Ds : List DT1} {mg : Str → Option Value} {h : Heap} (X : K.In h) (N : h.Ns mainGlobals mg) (c : He.SaysD (faOf G consts Ds) (Ds.map DT1.defD) K)
    (hg : gloB G consts Ds = true) (ha : ∀ D ∈ Ds, argsB D) : TopG (wdOf P w K G) mg G consts Ds := by
  unfold gloB at hg
  simp only [Bool.and_eq_true, List.all_eq_true, Bool.not_eq_true', decide_eq_true_eq] at hg
  obtain ⟨⟨g1, g2⟩, g3⟩ := hg
  refine { fns := fun x i hx => ?_, def_ := fun i D hD => ?_, blt := fun x hx => ?_, gc := fun x k hx => ?_, gx := fun x k hx => ?_ }
  · have z := g1 _ (lookup_in hx)
    dsimp only at z
    cases e : Ds[i]? with
    | none => rw [e] at z; cases z
    | some D => rw [e] at z; exact ⟨D, rfl, of_decide_eq_true z⟩
  · obtain ⟨fd, F⟩ := c.def_ i (d := D.defD) (by rw [List.getElem?_map, hD]; rfl)
    have m := List.mem_of_getElem? hD
    have e : mg D.x = some (.ref (He.ga K D.x)) := He.glo_ok X N (fact_in c (by unfold faOf; simp only [List.mem_append, List.mem_map]; exact .inl (.inl (.inl (.inl ⟨D, m, rfl⟩)))))
    have F2 : FunD K D.x D.x (defArgs D.st) (defBody D.st) (defScope D.st) [] [] (He.ga K D.x) fd := F
    exact ⟨fd, _, F2, e, F2.bindsN (ha D m)⟩
  · exact He.free_ok X N (fact_in c (by unfold faOf; simp only [List.mem_append, List.mem_map]; exact .inl (.inl (.inl (.inr ⟨x, hx, rfl⟩)))))
  · have m := lookup_in hx
    have z := g2 _ m
    dsimp only at z
    have q := fact_in c (f := match consts[k]? with
      | some (.int i) => He.Fa.int x i
      | some (.str z) => He.Fa.str x z
      | _ => He.Fa.free x) (by unfold faOf; simp only [List.mem_append, List.mem_map]; exact .inr ⟨_, m, rfl⟩)
    cases e : consts[k]? with
    | none => rw [e] at z; cases z
    | some d =>
      rw [e] at z q
      cases d <;> try cases z
      · rename_i i
        obtain ⟨t, ht⟩ := He.int_ok X N q
        exact ⟨.int i, _, _, ht, ⟨t, rfl⟩, rfl, fun m H => ⟨rfl, rfl⟩⟩
      · rename_i s
        obtain ⟨t, ht⟩ := He.str_ok X N q
        exact ⟨.str s, _, _, ht, ⟨t, rfl⟩, rfl, fun m H => ⟨rfl, rfl⟩⟩
  · have m := lookup_in hx
    obtain ⟨z1, z2⟩ := g3 _ m
    have e : mg x = some (.ref (He.ga K x)) := He.glo_ok X N (fact_in c (by unfold faOf; simp only [List.mem_append, List.mem_map]; exact .inl (.inl (.inr ⟨_, m, rfl⟩))))
    have q := He.exc_ok (K := K) (x := x) (fact_in c (by unfold faOf; simp only [List.mem_append, List.mem_map]; exact .inl (.inr ⟨_, m, rfl⟩)))
    refine ⟨z2, He.ga K x, ?_, e, q.1, q.2.1, q.2.2.1, q.2.2.2⟩
    show Value.ref (He.ga K ((G.gx.map (·.1)).getD k "")) = _
    rw [List.getD_eq_getElem?_getD, z1]
    rfl
/-- the goal that the head leaves, from the table's answers -/
theorem walk_D {l : PySem.W.OpenLaw} {q : Program} {loose : List Str} {XP : (Str → Option Value) → Heap → Prop} {d : DefRec} {G : Glo} {T : Tab} {Ds : List DT1} {n i : Nat} {DL : DT1} {x : Str}
    (hn : l.most = some 63) (hdf : d.params.defaults = []) (room : Room n callerA) (hD : Ds[i]? = some DL) (hx : DL.ps = [x]) (hm : d.name = DL.x) (hg : gloB G T.consts Ds = true) (ha : ∀ D ∈ Ds, argsB D) (hc : chkAll G T.fns Ds = true)
    (run : ∀ is : List Int, is.length ≤ 63 → ∃ st', callN T n i [.fro (is.map D.int)] ⟨[], none⟩ = .ok (.bl true) st') :
    PySem.W.WalkO q loose XP (fun _ h => ∃ K : PySem.W.Frag, K.In h ∧ He.SaysD (faOf G T.consts Ds) (Ds.map DT1.defD) K) l.row.toRowW d [] (fun f vs => PySem.call f vs) := by
  refine Att.attach_call hn hdf fun w s0 s1 mg mb fa o pm cd doc a vs ns GG Y ho hd hcd hmg hobj hints hlen hgen => ?_
  obtain ⟨K, kin, c⟩ := Y
  have top := top_of (P := l.prog) (w := w) kin GG.T.g c hg ha
  obtain ⟨fd, f, F, hf, hb⟩ := top.def_ i DL hD
  have e : mg DL.x = some (.ref fa) := by rw [← hm]; exact hmg
  have e2 := e.symm.trans hf
  cases e2
  have b := FunD.bindsA (ps := DL.ps) F (ha DL (List.mem_of_getElem? hD))
  rw [hx] at b
  refine law_callD (CX := L2.CX l.prog w) (sp := spD (wdOf l.prog w K G) (callN T n i)) kin GG.T.g GG.T.b GG.T.builtins GG.T.nolimit hgen hobj hints (Nat.le_trans hlen (by decide)) room (fun base hk hns => ?_) (fun s u => b s [u] rfl) (fun H hO hS => ?_) ?_
  · have z := table (base := base) top hc n i DL hD fd _ F
    rw [hx] at z
    exact z
  · obtain ⟨st', r⟩ := run ns hlen
    exact law_spD (W := wdOf l.prog w K G) hO hS r
  · intro H e s' z
    obtain ⟨_, _, _, _, _, _, _, _, _, _, _, _, z⟩ := z
    exact z
end DV
set_option linter.all false
namespace DV
open PySem (Str PyData)
/-! LB: the defs of the program and of the laws, each over the places of those that it calls. -/
def consts0 : List D := [.int 2, .int 5, .int 3, .int (-1), .int 1000000000000, .str "again", .str "never", .int 8, .str "0123456789", .str "-", .str "@", .str "house ", .str "stand ", .str "ok", .str "-", .int 13]
def f_is_whole : Fn := ⟨1, 1, [
  .ret (.and (.blt .isInt [.var 0]) (.not (.blt .isBool [.var 0])))]⟩
def f_is_within (is_whole : Nat) : Fn := ⟨3, 3, [
  .ret (.and (.call is_whole [.var 0]) (.chain .le .le (.var 1) (.var 0) (.var 2)))]⟩
def f_is_long : Fn := ⟨3, 3, [
  .ret (.and (.blt .isTup [.var 0]) (.chain .le .le (.var 1) (.blt .len [.var 0]) (.var 2)))]⟩
def f_is_list (is_within is_long : Nat) : Fn := ⟨2, 3, [
  .ret (.and (.call is_long [.var 1, .int 1, .gc 2]) (.blt .all [.comp (.call is_within [.var 2, .int 0, .bin .sub (.var 0) (.int 2)]) [2] (.nm 2) .seq [.var 1] []]))]⟩
def f_is_house (is_list is_long : Nat) : Fn := ⟨1, 2, [
  .ret (.and (.call is_long [.var 0, .gc 0, .gc 1]) (.blt .all [.comp (.call is_list [.blt .len [.var 0], .var 1]) [1] (.nm 1) .seq [.var 0] []]))]⟩
def f_law_cell_at : Fn := ⟨2, 2, [
  .ite (.cmp .lt (.var 1) (.blt .len [.var 0])) [.ret (.idx (.var 0) (.var 1))] [],
  .ret (.int 0)]⟩
def f_law_pen : Fn := ⟨1, 1, [
  .ret (.lst [.blt .max2 [.int 0, .bin .sub (.var 0) (.bin .pow (.int 10) (.int 18))], .bin .add (.bin .mod (.var 0) (.int 2147483629)) (.int 1), .int 0])]⟩
def f_law_draw : Fn := ⟨2, 4, [
  .ite (.cmp .gt (.idx (.var 0) (.int 0)) (.int 0)) [.asg (.nm 2) (.bin .mod (.idx (.var 0) (.int 0)) (.var 1)), .asg (.sub (.var 0) (.int 0)) (.bin .fdiv (.idx (.var 0) (.int 0)) (.var 1)), .ret (.var 2)] [],
  .asg (.sub (.var 0) (.int 2)) (.bin .add (.idx (.var 0) (.int 2)) (.int 1)),
  .asg (.sub (.var 0) (.int 1)) (.bin .mod (.bin .add (.bin .add (.bin .mul (.idx (.var 0) (.int 1)) (.int 48271)) (.bin .mul (.int 1009) (.idx (.var 0) (.int 2)))) (.int 7)) (.int 2147483647)),
  .asg (.nm 3) (.bin .mod (.bin .add (.bin .add (.bin .mul (.idx (.var 0) (.int 1)) (.idx (.var 0) (.int 1))) (.bin .mul (.int 69621) (.idx (.var 0) (.int 1)))) (.int 11)) (.int 2147483629)),
  .asg (.nm 3) (.bin .mod (.bin .add (.bin .mul (.var 3) (.var 3)) (.bin .mul (.int 40014) (.var 3))) (.int 2147483587)),
  .ret (.bin .mod (.bin .fdiv (.var 3) (.int 16)) (.var 1))]⟩
def f_law_pick (law_draw : Nat) : Fn := ⟨2, 2, [
  .ret (.idx (.var 1) (.call law_draw [.var 0, .blt .len [.var 1]]))]⟩
def f_law_same : Fn := ⟨2, 2, [
  .ret (.cmp .eq (.blt .repr [.var 0]) (.blt .repr [.var 1]))]⟩
def f_law_house (law_draw : Nat) : Fn := ⟨2, 7, [
  .asg (.nm 2) (.bin .add (.int 2) (.call law_draw [.var 0, .bin .sub (.var 1) (.int 1)])),
  .asg (.tup [.nm 3, .nm 4]) (.tup [.idx (.lst [.bin .sub (.var 2) (.int 1), .bin .sub (.var 2) (.int 1), .bin .add (.int 1) (.call law_draw [.var 0, .bin .sub (.var 2) (.int 1)])]) (.call law_draw [.var 0, .int 3]), .lst []]),
  .fr (.nm 5) .range1 [.var 2] [.ex (.mth .append (.var 4) [.blt .tuple [.comp (.call law_draw [.var 0, .var 3]) [6] (.nm 6) .range1 [.bin .add (.int 1) (.call law_draw [.var 0, .int 3])] []]])],
  .ret (.blt .tuple [.var 4])]⟩
def f_law_odd (law_pick : Nat) : Fn := ⟨1, 2, [
  .asg (.nm 1) (.lst [.non, .bl true, .bl false, .neg (.int 1), .int 0, .int 1, .int 2, .bin .pow (.int 10) (.int 12), .str "", .str "-", .tup [], .lst [], .dic [] [], .tup [.int 0], .lst [.int 0], .tup [.int 0, .int 0], .tup [.tup [.int 0], .tup [.int 0]], .tup [.tup []]]),
  .ret (.call law_pick [.var 0, .bin .add (.var 1) (.lst [.tup [.tup [.int 0], .lst [.int 0]], .tup [.bl true], .tup [.neg (.int 1), .int 0], .tup [.tup [.neg (.int 1), .int 0], .tup [.int 0, .int 0]]])])]⟩
def f_law_is_number : Fn := ⟨3, 3, [
  .ret (.and (.blt .isInt [.var 0]) (.and (.not (.blt .isBool [.var 0])) (.chain .le .le (.var 1) (.var 0) (.var 2))))]⟩
def f_law_is_house (law_is_number : Nat) : Fn := ⟨1, 3, [
  .ite (.or (.not (.blt .isTup [.var 0])) (.not (.chain .le .le (.int 2) (.blt .len [.var 0]) (.int 5)))) [.ret (.bl false)] [],
  .fr (.nm 1) .seq [.var 0] [.ite (.or (.not (.blt .isTup [.var 1])) (.not (.chain .le .le (.int 1) (.blt .len [.var 1]) (.int 3)))) [.ret (.bl false)] [], .ite (.cmp .ne (.comp (.var 2) [2] (.nm 2) .seq [.var 1] [.not (.call law_is_number [.var 2, .int 0, .bin .sub (.blt .len [.var 0]) (.int 2)])]) (.lst [])) [.ret (.bl false)] []],
  .ret (.bl true)]⟩
def f_law_right (law_is_house law_same is_house : Nat) : Fn := ⟨1, 3, [
  .asg (.tup [.nm 1, .nm 2]) (.tup [.call law_is_house [.var 0], .blt .repr [.var 0]]),
  .ret (.and (.call law_same [.lst [.call is_house [.var 0], .call is_house [.var 0]], .lst [.var 1, .var 1]]) (.cmp .eq (.blt .repr [.var 0]) (.var 2)))]⟩
def f_law_k01 (law_by_hand law_right law_pen law_cell_at law_house law_odd law_bent : Nat) : Fn := ⟨1, 9, [
  .ite (.not (.blt .all [.comp (.call law_right [.var 1]) [1] (.nm 1) .seq [.call law_by_hand []] []])) [.ret (.bl false)] [],
  .fr (.nm 2) .range1 [.blt .max2 [.int 1, .blt .min2 [.blt .len [.var 0], .int 4]]] [.asg (.nm 3) (.call law_pen [.call law_cell_at [.var 0, .var 2]]), .fr (.nm 4) .range1 [.int 6] [.asg (.nm 5) (.call law_house [.var 3, .int 5]), .asg (.nm 6) (.lst [.var 5, .slc (.var 5) [.int 1] [], .bin .add (.var 5) (.slc (.var 5) [] [.int 1]), .call law_odd [.var 3]]), .fr (.nm 7) .range1 [.int 4] [.asg (.nm 8) (.call law_bent [.var 3, .var 5, .int 3]), .asg (.nm 6) (.bin .add (.var 6) (.lst [.var 8, .call law_bent [.var 3, .var 8, .int 3]]))], .ite (.not (.blt .all [.comp (.call law_right [.var 1]) [1] (.nm 1) .seq [.var 6] []])) [.ret (.bl false)] []]],
  .ret (.bl true)]⟩
def f_need_house (is_house NoHouse : Nat) : Fn := ⟨1, 1, [
  .ite (.not (.call is_house [.var 0])) [.raise NoHouse] []]⟩
def f_is_seating_of (is_within is_long : Nat) : Fn := ⟨2, 3, [
  .ite (.or (.not (.call is_long [.var 1, .var 0, .var 0])) (.not (.blt .all [.comp (.call is_within [.var 2, .gc 3, .bin .sub (.var 0) (.int 2)]) [2] (.nm 2) .seq [.var 1] []]))) [.ret (.bl false)] [],
  .ret (.cmp .eq (.blt .sorted [.var 1]) (.blt .listR2 [.gc 3, .bin .sub (.var 0) (.int 1)]))]⟩
def f_is_seating (need_house is_seating_of : Nat) : Fn := ⟨2, 2, [
  .ex (.call need_house [.var 0]),
  .ret (.call is_seating_of [.blt .len [.var 0], .var 1])]⟩
def f_is_hand (is_within : Nat) : Fn := ⟨3, 3, [
  .ret (.call is_within [.var 2, .int 0, .bin .sub (.blt .len [.idx (.var 0) (.var 1)]) (.int 1)])]⟩
def f_is_stand_by (is_long is_seating_of is_hand : Nat) : Fn := ⟨2, 5, [
  .asg (.nm 2) (.blt .len [.var 0]),
  .ite (.or (.not (.call is_long [.var 1, .int 2, .int 2])) (.or (.not (.call is_seating_of [.var 2, .idx (.var 1) (.int 0)])) (.not (.call is_long [.idx (.var 1) (.int 1), .var 2, .var 2])))) [.ret (.bl false)] [],
  .ret (.blt .all [.comp (.call is_hand [.var 0, .var 3, .var 4]) [3, 4] (.tup [.nm 3, .nm 4]) .enum [.idx (.var 1) (.int 1)] []])]⟩
def f_is_stand (need_house is_stand_by : Nat) : Fn := ⟨2, 2, [
  .ex (.call need_house [.var 0]),
  .ret (.call is_stand_by [.var 0, .var 1])]⟩
def f_law_mixed (law_draw : Nat) : Fn := ⟨2, 5, [
  .asg (.tup [.nm 2, .nm 3]) (.tup [.blt .list [.var 1], .lst []]),
  .fr (.nm 4) .range1 [.blt .len [.var 1]] [.ex (.mth .append (.var 3) [.mth .pop1 (.var 2) [.call law_draw [.var 0, .blt .len [.var 2]]]])],
  .ret (.var 3)]⟩
def f_law_seating (law_mixed : Nat) : Fn := ⟨2, 2, [
  .ret (.blt .tuple [.call law_mixed [.var 0, .blt .listR2 [.neg (.int 1), .bin .sub (.var 1) (.int 1)]]])]⟩
def f_law_stand (law_draw law_seating : Nat) : Fn := ⟨2, 4, [
  .asg (.nm 2) (.blt .tuple [.comp (.call law_draw [.var 0, .blt .len [.var 3]]) [3] (.nm 3) .seq [.var 1] []]),
  .ret (.tup [.call law_seating [.var 0, .blt .len [.var 1]], .var 2])]⟩
def f_law_kept_stand (law_draw law_mixed : Nat) : Fn := ⟨2, 10, [
  .asg (.nm 2) (.blt .len [.var 1]),
  .asg (.tup [.nm 3, .nm 4]) (.tup [.call law_draw [.var 0, .var 2], .bin .mul (.lst [.int 0]) (.var 2)]),
  .asg (.tup [.nm 5, .nm 6]) (.tup [.blt .listR1 [.bin .sub (.var 2) (.int 1)], .dic [] []]),
  .fr (.nm 7) .seq [.call law_mixed [.var 0, .blt .listR1 [.var 2]]] [.asg (.sub (.var 4) (.var 7)) (.call law_draw [.var 0, .blt .len [.idx (.var 1) (.var 7)]]), .asg (.nm 8) (.idx (.idx (.var 1) (.var 7)) (.bin .sub (.idx (.var 4) (.var 7)) (.int 1))), .ite (.and (.cmp .ne (.var 7) (.var 3)) (.cmp .inn (.var 8) (.var 5))) [.asg (.sub (.var 6) (.var 7)) (.var 8), .ex (.mth .remove (.var 5) [.var 8])] []],
  .asg (.nm 9) (.call law_mixed [.var 0, .var 5]),
  .fr (.nm 7) .range1 [.var 2] [.ite (.and (.cmp .ne (.var 7) (.var 3)) (.cmp .nin (.var 7) (.var 6))) [.asg (.sub (.var 6) (.var 7)) (.mth .pop0 (.var 9) [])] []],
  .ret (.tup [.blt .tuple [.comp (.mth .get2 (.var 6) [.var 7, .neg (.int 1)]) [7] (.nm 7) .range1 [.var 2] []], .blt .tuple [.var 4]])]⟩
def f_law_any_stand (law_stand law_kept_stand law_draw law_beat : Nat) : Fn := ⟨2, 4, [
  .asg (.nm 2) (.idx (.lst [.call law_stand [.var 0, .var 1], .call law_kept_stand [.var 0, .var 1]]) (.call law_draw [.var 0, .int 2])),
  .fr (.nm 3) .range1 [.call law_draw [.var 0, .int 4]] [.asg (.nm 2) (.call law_beat [.var 1, .var 2])],
  .ret (.var 2)]⟩
def f_law_bare : Fn := ⟨1, 3, [
  .ret (.idx (.comp (.var 1) [1, 2] (.tup [.nm 1, .nm 2]) .enum [.idx (.var 0) (.int 0)] [.cmp .lt (.var 2) (.int 0)]) (.int 0))]⟩
def f_law_beat (law_bare : Nat) : Fn := ⟨2, 7, [
  .asg (.tup [.nm 2, .nm 3]) (.tup [.blt .list [.idx (.var 1) (.int 0)], .blt .list [.idx (.var 1) (.int 1)]]),
  .asg (.nm 4) (.call law_bare [.var 1]),
  .asg (.nm 5) (.idx (.idx (.var 0) (.var 4)) (.idx (.var 3) (.var 4))),
  .asg (.nm 6) (.mth .index (.var 2) [.var 5]),
  .asg (.sub (.var 2) (.var 4)) (.var 5),
  .asg (.sub (.var 2) (.var 6)) (.neg (.int 1)),
  .asg (.sub (.var 3) (.var 4)) (.bin .mod (.bin .add (.idx (.var 3) (.var 4)) (.int 1)) (.blt .len [.idx (.var 0) (.var 4)])),
  .ret (.tup [.blt .tuple [.var 2], .blt .tuple [.var 3]])]⟩
def f_law_seatings : Fn := ⟨1, 6, [
  .asg (.nm 1) (.lst [.tup []]),
  .fr (.nm 2) .range1 [.var 0] [.asg (.nm 3) (.lst []), .fr (.nm 4) .seq [.var 1] [.asg (.nm 3) (.bin .add (.var 3) (.comp (.bin .add (.var 4) (.tup [.var 5])) [5] (.nm 5) .range2 [.neg (.int 1), .bin .sub (.var 0) (.int 1)] [.cmp .nin (.var 5) (.var 4)]))], .asg (.nm 1) (.var 3)],
  .ret (.var 1)]⟩
def f_law_is_seating (law_seatings : Nat) : Fn := ⟨2, 3, [
  .ret (.cmp .inn (.blt .repr [.var 1]) (.comp (.blt .repr [.var 2]) [2] (.nm 2) .seq [.call law_seatings [.blt .len [.var 0]]] []))]⟩
def f_law_is_stand (law_is_seating law_is_number : Nat) : Fn := ⟨2, 4, [
  .ite (.or (.not (.blt .isTup [.var 1])) (.or (.cmp .ne (.blt .len [.var 1]) (.int 2)) (.not (.call law_is_seating [.var 0, .idx (.var 1) (.int 0)])))) [.ret (.bl false)] [],
  .ite (.or (.not (.blt .isTup [.idx (.var 1) (.int 1)])) (.cmp .ne (.blt .len [.idx (.var 1) (.int 1)]) (.blt .len [.var 0]))) [.ret (.bl false)] [],
  .ret (.blt .all [.comp (.call law_is_number [.var 2, .int 0, .bin .sub (.blt .len [.var 3]) (.int 1)]) [2, 3] (.tup [.nm 2, .nm 3]) .zip [.idx (.var 1) (.int 1), .var 0] []])]⟩
def f_law_right_2 (law_is_seating law_is_stand law_same is_seating is_stand : Nat) : Fn := ⟨2, 5, [
  .asg (.tup [.nm 2, .nm 3]) (.tup [.lst [.call law_is_seating [.var 0, .var 1], .call law_is_stand [.var 0, .var 1]], .blt .repr [.tup [.var 0, .var 1]]]),
  .fr (.nm 4) .range1 [.int 2] [.ite (.not (.call law_same [.lst [.call is_seating [.var 0, .var 1], .call is_stand [.var 0, .var 1]], .var 2])) [.ret (.bl false)] []],
  .ret (.cmp .eq (.blt .repr [.tup [.var 0, .var 1]]) (.var 3))]⟩
def f_law_k02 (law_pen law_cell_at law_house law_any_stand law_near law_odd law_bent law_right : Nat) : Fn := ⟨1, 9, [
  .fr (.nm 1) .range1 [.blt .max2 [.int 1, .blt .min2 [.blt .len [.var 0], .int 3]]] [.asg (.nm 2) (.call law_pen [.call law_cell_at [.var 0, .var 1]]), .fr (.nm 3) .range1 [.int 2] [.asg (.nm 4) (.call law_house [.var 2, .int 5]), .asg (.nm 5) (.call law_any_stand [.var 2, .var 4]), .asg (.nm 6) (.bin .add (.call law_near [.var 2, .var 4, .var 5]) (.lst [.call law_odd [.var 2]])), .fr (.nm 7) .range1 [.int 6] [.asg (.nm 6) (.bin .add (.var 6) (.lst [.call law_bent [.var 2, .var 5, .int 3], .call law_bent [.var 2, .idx (.var 5) (.int 0), .int 2]]))], .ite (.not (.blt .all [.comp (.call law_right [.var 4, .var 8]) [8] (.nm 8) .seq [.var 6] []])) [.ret (.bl false)] []]],
  .ret (.bl true)]⟩
def f_need_stand (is_stand NoStand : Nat) : Fn := ⟨2, 2, [
  .ite (.not (.call is_stand [.var 0, .var 1])) [.raise NoStand] []]⟩
def f_bare_of : Fn := ⟨1, 1, [
  .ret (.mth .index (.var 0) [.gc 3])]⟩
def f_bare_seat (need_stand bare_of : Nat) : Fn := ⟨2, 2, [
  .ex (.call need_stand [.var 0, .var 1]),
  .ret (.call bare_of [.idx (.var 1) (.int 0)])]⟩
def f_first_of : Fn := ⟨1, 2, [
  .asg (.nm 1) (.blt .len [.var 0]),
  .ret (.tup [.blt .tupR2 [.gc 3, .bin .sub (.var 1) (.int 1)], .bin .mul (.tup [.int 0]) (.var 1)])]⟩
def f_first_stand (need_house first_of : Nat) : Fn := ⟨1, 1, [
  .ex (.call need_house [.var 0]),
  .ret (.call first_of [.var 0])]⟩
def f_last_called : Fn := ⟨3, 3, [
  .ret (.idx (.idx (.var 0) (.var 2)) (.bin .sub (.idx (.var 1) (.var 2)) (.int 1)))]⟩
def f_kept_by (last_called : Nat) : Fn := ⟨2, 6, [
  .asg (.tup [.nm 2, .nm 3]) (.var 1),
  .ret (.blt .tuple [.comp (.var 4) [4, 5] (.tup [.nm 4, .nm 5]) .enum [.var 2] [.cmp .eq (.var 5) (.call last_called [.var 0, .var 3, .var 4])]])]⟩
def f_keeping (need_stand kept_by : Nat) : Fn := ⟨2, 2, [
  .ex (.call need_stand [.var 0, .var 1]),
  .ret (.call kept_by [.var 0, .var 1])]⟩
def f_law_kept : Fn := ⟨2, 7, [
  .asg (.nm 2) (.lst []),
  .fr (.tup [.nm 3, .nm 4]) .enum [.var 0] [.asg (.tup [.nm 5, .nm 6]) (.tup [.bin .add (.var 4) (.var 4), .idx (.idx (.var 1) (.int 1)) (.var 3)]), .ite (.cmp .eq (.idx (.var 5) (.bin .sub (.bin .add (.blt .len [.var 4]) (.var 6)) (.int 1))) (.idx (.idx (.var 1) (.int 0)) (.var 3))) [.ex (.mth .append (.var 2) [.var 3])] []],
  .ret (.var 2)]⟩
def f_law_all_hands : Fn := ⟨1, 6, [
  .asg (.nm 1) (.lst [.tup []]),
  .fr (.nm 2) .seq [.var 0] [.asg (.nm 3) (.lst []), .fr (.nm 4) .seq [.var 1] [.asg (.nm 3) (.bin .add (.var 3) (.comp (.bin .add (.var 4) (.tup [.var 5])) [5] (.nm 5) .range1 [.blt .len [.var 2]] []))], .asg (.nm 1) (.var 3)],
  .ret (.var 1)]⟩
def f_law_all_stands (law_all_hands law_seatings : Nat) : Fn := ⟨1, 5, [
  .asg (.tup [.nm 1, .nm 2]) (.tup [.lst [], .call law_all_hands [.var 0]]),
  .fr (.nm 3) .seq [.call law_seatings [.blt .len [.var 0]]] [.asg (.nm 1) (.bin .add (.var 1) (.comp (.tup [.var 3, .var 4]) [4] (.nm 4) .seq [.var 2] []))],
  .ret (.var 1)]⟩
def f_law_right_3 (law_bare law_kept law_same bare_seat keeping : Nat) : Fn := ⟨2, 5, [
  .asg (.tup [.nm 2, .nm 3]) (.tup [.blt .repr [.tup [.var 0, .var 1]], .lst [.call law_bare [.var 1], .blt .tuple [.call law_kept [.var 0, .var 1]]]]),
  .fr (.nm 4) .range1 [.int 2] [.ite (.not (.call law_same [.lst [.call bare_seat [.var 0, .var 1], .call keeping [.var 0, .var 1]], .var 3])) [.ret (.bl false)] []],
  .ret (.cmp .eq (.blt .repr [.tup [.var 0, .var 1]]) (.var 2))]⟩
def f_law_k03 (law_pen law_cell_at law_house law_stand law_kept_stand law_any_stand law_right law_all_stands law_same first_stand : Nat) : Fn := ⟨1, 8, [
  .fr (.nm 1) .range1 [.blt .max2 [.int 1, .blt .min2 [.blt .len [.var 0], .int 4]]] [.asg (.nm 2) (.call law_pen [.call law_cell_at [.var 0, .var 1]]), .fr (.nm 3) .range1 [.int 6] [.asg (.nm 4) (.call law_house [.var 2, .int 5]), .fr (.nm 5) .seq [.lst [.call law_stand [.var 2, .var 4], .call law_kept_stand [.var 2, .var 4], .call law_any_stand [.var 2, .var 4]]] [.ite (.not (.call law_right [.var 4, .var 5])) [.ret (.bl false)] []], .asg (.nm 6) (.blt .len [.var 4]), .asg (.nm 7) (.tup [.blt .tupR2 [.neg (.int 1), .bin .sub (.var 6) (.int 1)], .bin .mul (.tup [.int 0]) (.var 6)]), .ite (.and (.cmp .lt (.var 6) (.int 4)) (.cmp .ne (.var 7) (.blt .min1 [.call law_all_stands [.var 4]]))) [.ret (.bl false)] [], .ite (.not (.call law_same [.lst [.call first_stand [.var 4], .call first_stand [.var 4]], .lst [.var 7, .var 7]])) [.ret (.bl false)] []]],
  .ret (.bl true)]⟩
def f_with_at : Fn := ⟨3, 3, [
  .ret (.bin .add (.bin .add (.slc (.var 0) [] [.var 1]) (.tup [.var 2])) (.slc (.var 0) [.bin .add (.var 1) (.int 1)] []))]⟩
def f_beat_by (bare_of with_at : Nat) : Fn := ⟨2, 7, [
  .asg (.tup [.nm 2, .nm 3]) (.var 1),
  .asg (.nm 4) (.call bare_of [.var 2]),
  .asg (.nm 5) (.idx (.idx (.var 0) (.var 4)) (.idx (.var 3) (.var 4))),
  .asg (.nm 6) (.call with_at [.call with_at [.var 2, .mth .index (.var 2) [.var 5], .gc 3], .var 4, .var 5]),
  .ret (.tup [.var 6, .call with_at [.var 3, .var 4, .bin .mod (.bin .add (.idx (.var 3) (.var 4)) (.int 1)) (.blt .len [.idx (.var 0) (.var 4)])]])]⟩
def f_beat (need_stand beat_by : Nat) : Fn := ⟨2, 2, [
  .ex (.call need_stand [.var 0, .var 1]),
  .ret (.call beat_by [.var 0, .var 1])]⟩
def f_way_of (beat_by : Nat) : Fn := ⟨2, 5, [
  .asg (.tup [.nm 2, .nm 3, .nm 4]) (.tup [.lst [], .dic [] [], .var 1]),
  .whl (.cmp .nin (.var 4) (.var 3)) [.asg (.sub (.var 3) (.var 4)) (.blt .len [.var 2]), .ex (.mth .append (.var 2) [.var 4]), .asg (.nm 4) (.call beat_by [.var 0, .var 4])],
  .ret (.tup [.var 2, .idx (.var 3) (.var 4)])]⟩
def f_after_by (way_of : Nat) : Fn := ⟨3, 5, [
  .asg (.tup [.nm 3, .nm 4]) (.call way_of [.var 0, .var 1]),
  .ret (.ife (.cmp .lt (.var 2) (.var 4)) (.idx (.var 3) (.var 2)) (.idx (.var 3) (.bin .add (.var 4) (.bin .mod (.bin .sub (.var 2) (.var 4)) (.bin .sub (.blt .len [.var 3]) (.var 4))))))]⟩
def f_need_many (is_within NoNumber : Nat) : Fn := ⟨1, 1, [
  .ite (.not (.call is_within [.var 0, .int 0, .gc 4])) [.raise NoNumber] []]⟩
def f_after (need_stand need_many after_by : Nat) : Fn := ⟨3, 3, [
  .ex (.call need_stand [.var 0, .var 1]),
  .ex (.call need_many [.var 2]),
  .ret (.call after_by [.var 0, .var 1, .var 2])]⟩
def f_law_far_right (law_line law_draw law_same after : Nat) : Fn := ⟨3, 9, [
  .asg (.tup [.nm 3, .nm 4]) (.call law_line [.var 1, .var 2]),
  .asg (.nm 5) (.bin .sub (.blt .len [.var 3]) (.var 4)),
  .asg (.nm 6) (.lst [.int 0, .int 1, .var 4, .bin .add (.var 4) (.var 5), .call law_draw [.var 0, .int 41], .bin .pow (.int 10) (.int 12), .bin .sub (.bin .pow (.int 10) (.int 12)) (.call law_draw [.var 0, .int 99])]),
  .fr (.nm 7) .seq [.bin .add (.var 6) (.lst [.call law_draw [.var 0, .bin .pow (.int 10) (.int 12)]])] [.asg (.nm 8) (.ife (.cmp .lt (.var 7) (.blt .len [.var 3])) (.idx (.var 3) (.var 7)) (.idx (.var 3) (.bin .add (.var 4) (.bin .mod (.bin .sub (.var 7) (.var 4)) (.var 5))))), .ite (.not (.call law_same [.lst [.call after [.var 1, .var 2, .var 7], .call after [.var 1, .var 2, .var 7]], .lst [.var 8, .var 8]])) [.ret (.bl false)] []],
  .ret (.bl true)]⟩
def f_law_k04 (law_pen law_cell_at law_house law_stand law_kept_stand law_far_right law_beat law_same beat : Nat) : Fn := ⟨1, 10, [
  .fr (.nm 1) .range1 [.blt .max2 [.int 1, .blt .min2 [.blt .len [.var 0], .int 4]]] [.asg (.nm 2) (.call law_pen [.call law_cell_at [.var 0, .var 1]]), .fr (.nm 3) .range1 [.int 3] [.asg (.nm 4) (.call law_house [.var 2, .int 5]), .asg (.nm 5) (.idx (.lst [.call law_stand [.var 2, .var 4], .call law_kept_stand [.var 2, .var 4], .call law_stand [.var 2, .var 4]]) (.var 3)), .asg (.nm 6) (.blt .repr [.tup [.var 4, .var 5]]), .ite (.or (.not (.call law_far_right [.var 2, .var 4, .var 5])) (.cmp .ne (.blt .repr [.tup [.var 4, .var 5]]) (.var 6))) [.ret (.bl false)] [], .fr (.nm 7) .range1 [.int 8] [.asg (.tup [.nm 8, .nm 9]) (.tup [.blt .repr [.tup [.var 4, .var 5]], .call law_beat [.var 4, .var 5]]), .ite (.not (.call law_same [.lst [.call beat [.var 4, .var 5], .call beat [.var 4, .var 5]], .lst [.var 9, .var 9]])) [.ret (.bl false)] [], .ite (.cmp .ne (.blt .repr [.tup [.var 4, .var 5]]) (.var 8)) [.ret (.bl false)] [], .asg (.nm 5) (.var 9)]]],
  .ret (.bl true)]⟩
def f_before_by (with_at bare_of : Nat) : Fn := ⟨3, 6, [
  .asg (.tup [.nm 3, .nm 4]) (.var 1),
  .asg (.nm 5) (.call with_at [.call with_at [.var 3, .call bare_of [.var 3], .idx (.var 3) (.var 2)], .var 2, .gc 3]),
  .ret (.tup [.var 5, .call with_at [.var 4, .var 2, .bin .mod (.bin .sub (.idx (.var 4) (.var 2)) (.int 1)) (.blt .len [.idx (.var 0) (.var 2)])]])]⟩
def f_ahead_by (kept_by before_by : Nat) : Fn := ⟨2, 3, [
  .ret (.blt .tuple [.blt .sorted [.comp (.call before_by [.var 0, .var 1, .var 2]) [2] (.nm 2) .seq [.call kept_by [.var 0, .var 1]] []]])]⟩
def f_ahead (need_stand ahead_by : Nat) : Fn := ⟨2, 2, [
  .ex (.call need_stand [.var 0, .var 1]),
  .ret (.call ahead_by [.var 0, .var 1])]⟩
def f_law_leading (law_all_stands law_beat : Nat) : Fn := ⟨1, 4, [
  .asg (.nm 1) (.dic [] []),
  .fr (.nm 2) .seq [.call law_all_stands [.var 0]] [.asg (.nm 3) (.call law_beat [.var 0, .var 2]), .asg (.sub (.var 1) (.var 3)) (.bin .add (.mth .get2 (.var 1) [.var 3, .tup []]) (.tup [.var 2]))],
  .ret (.var 1)]⟩
def f_law_k05 (law_pen law_cell_at law_house law_leading law_all_stands law_draw law_same ahead : Nat) : Fn := ⟨1, 12, [
  .fr (.nm 1) .range1 [.blt .max2 [.int 1, .blt .min2 [.blt .len [.var 0], .int 2]]] [.asg (.nm 2) (.call law_pen [.call law_cell_at [.var 0, .var 1]]), .fr (.nm 3) .seq [.tup [.int 3, .int 4]] [.asg (.nm 4) (.call law_house [.var 2, .var 3]), .asg (.tup [.nm 5, .nm 6]) (.tup [.blt .repr [.var 4], .call law_leading [.var 4]]), .asg (.nm 7) (.call law_all_stands [.var 4]), .fr (.nm 8) .range1 [.blt .min2 [.int 60, .blt .len [.var 7]]] [.asg (.nm 9) (.idx (.var 7) (.bin .mod (.bin .add (.bin .mul (.var 8) (.int 37)) (.call law_draw [.var 2, .blt .len [.var 7]])) (.blt .len [.var 7]))), .asg (.tup [.nm 10, .nm 11]) (.tup [.blt .repr [.var 9], .blt .tuple [.blt .sorted [.mth .get2 (.var 6) [.var 9, .tup []]]]]), .ite (.not (.call law_same [.lst [.call ahead [.var 4, .var 9], .call ahead [.var 4, .var 9]], .lst [.var 11, .var 11]])) [.ret (.bl false)] [], .ite (.cmp .ne (.blt .repr [.var 9]) (.var 10)) [.ret (.bl false)] []], .ite (.cmp .ne (.blt .repr [.var 4]) (.var 5)) [.ret (.bl false)] []]],
  .ret (.bl true)]⟩
def f_law_k06 (law_pen law_cell_at law_house law_stand law_kept_stand law_any_stand law_due law_kept law_same ahead : Nat) : Fn := ⟨1, 8, [
  .fr (.nm 1) .range1 [.blt .max2 [.int 1, .blt .min2 [.blt .len [.var 0], .int 3]]] [.asg (.nm 2) (.call law_pen [.call law_cell_at [.var 0, .var 1]]), .fr (.nm 3) .range1 [.int 8] [.asg (.nm 4) (.call law_house [.var 2, .int 5]), .asg (.nm 5) (.idx (.lst [.call law_stand [.var 2, .var 4], .call law_kept_stand [.var 2, .var 4], .call law_any_stand [.var 2, .var 4]]) (.bin .mod (.var 3) (.int 3))), .asg (.tup [.nm 6, .nm 7]) (.tup [.blt .repr [.tup [.var 4, .var 5]], .call law_due [.var 4, .var 5]]), .ite (.cmp .ne (.blt .len [.var 7]) (.blt .len [.call law_kept [.var 4, .var 5]])) [.ret (.bl false)] [], .ite (.not (.call law_same [.lst [.call ahead [.var 4, .var 5], .call ahead [.var 4, .var 5]], .lst [.var 7, .var 7]])) [.ret (.bl false)] [], .ite (.cmp .ne (.blt .repr [.tup [.var 4, .var 5]]) (.var 6)) [.ret (.bl false)] []]],
  .ret (.bl true)]⟩
def f_law_no_houses (law_draw : Nat) : Fn := ⟨2, 8, [
  .asg (.nm 2) (.call law_draw [.var 0, .blt .len [.var 1]]),
  .asg (.nm 3) (.idx (.var 1) (.var 2)),
  .asg (.nm 4) (.call law_draw [.var 0, .blt .len [.var 3]]),
  .asg (.nm 5) (.lst [.tup [], .tup [.int 0, .int 0, .int 0, .int 0], .tup [.bin .sub (.blt .len [.var 1]) (.int 1)], .int 0, .tup [.neg (.int 1)], .tup [.bl false], .tup [.non], .non, .blt .list [.var 3]]),
  .asg (.nm 5) (.bin .add (.var 5) (.comp (.bin .add (.bin .add (.slc (.var 3) [] [.var 4]) (.tup [.var 6])) (.slc (.var 3) [.bin .add (.var 4) (.int 1)] [])) [6] (.nm 6) .seq [.tup [.neg (.int 1), .bin .sub (.blt .len [.var 1]) (.int 1), .bl true, .non, .str "0"]] [])),
  .asg (.nm 7) (.lst [.non, .tup [], .lst [], .dic [] [], .int 0, .str "0 0", .blt .list [.var 1], .slc (.var 1) [] [.int 1], .bin .mul (.tup [.tup [.int 0]]) (.int 6), .tup [.var 1], .bin .add (.tup [.blt .list [.idx (.var 1) (.int 0)]]) (.slc (.var 1) [.int 1] [])]),
  .asg (.nm 7) (.bin .add (.var 7) (.lst [.bin .add (.tup [.tup []]) (.slc (.var 1) [.int 1] []), .bin .add (.tup [.tup [.int 0, .int 0, .int 0, .int 0]]) (.slc (.var 1) [.int 1] []), .bin .add (.tup [.tup [.bin .sub (.blt .len [.var 1]) (.int 1)]]) (.slc (.var 1) [.int 1] []), .bin .add (.tup [.int 0]) (.slc (.var 1) [.int 1] [])])),
  .asg (.nm 7) (.bin .add (.var 7) (.lst [.bin .add (.tup [.tup [.neg (.int 1)]]) (.slc (.var 1) [.int 1] []), .bin .add (.tup [.tup [.bl false]]) (.slc (.var 1) [.int 1] []), .bin .add (.tup [.tup [.non]]) (.slc (.var 1) [.int 1] []), .bin .add (.tup [.non]) (.slc (.var 1) [.int 1] [])])),
  .ret (.bin .add (.var 7) (.comp (.bin .add (.bin .add (.slc (.var 1) [] [.var 2]) (.tup [.var 6])) (.slc (.var 1) [.bin .add (.var 2) (.int 1)] [])) [6] (.nm 6) .seq [.var 5] []))]⟩
def f_law_no_stands (law_draw : Nat) : Fn := ⟨3, 11, [
  .asg (.tup [.tup [.nm 3, .nm 4], .nm 5]) (.tup [.var 2, .blt .len [.var 1]]),
  .asg (.nm 6) (.call law_draw [.var 0, .var 5]),
  .asg (.nm 7) (.comp (.tup [.var 3, .bin .add (.bin .add (.slc (.var 4) [] [.var 6]) (.tup [.var 8])) (.slc (.var 4) [.bin .add (.var 6) (.int 1)] [])]) [8] (.nm 8) .seq [.tup [.int 3, .neg (.int 1), .bl false, .non, .tup [.int 0], .str "0"]] []),
  .asg (.nm 9) (.tup [.bin .sub (.var 5) (.int 1), .neg (.int 2), .bl true, .non, .str "-", .idx (.var 3) (.bin .sub (.var 6) (.int 1))]),
  .asg (.nm 7) (.bin .add (.var 7) (.comp (.tup [.bin .add (.bin .add (.slc (.var 3) [] [.var 6]) (.tup [.var 8])) (.slc (.var 3) [.bin .add (.var 6) (.int 1)] []), .var 4]) [8] (.nm 8) .seq [.var 9] [])),
  .asg (.nm 10) (.lst [.non, .tup [], .lst [], .dic [] [], .int 0, .str "0@0", .blt .list [.var 2], .slc (.var 2) [] [.int 1], .bin .add (.var 2) (.tup [.tup []]), .tup [.var 4, .var 4], .tup [.blt .list [.var 3], .var 4]]),
  .asg (.nm 10) (.bin .add (.var 10) (.lst [.tup [.var 3, .blt .list [.var 4]], .tup [.var 3, .slc (.var 4) [.int 1] []], .tup [.var 3, .bin .add (.var 4) (.tup [.int 0])], .tup [.slc (.var 3) [.int 1] [], .var 4]])),
  .asg (.nm 10) (.bin .add (.var 10) (.lst [.tup [.var 3, .bin .add (.tup [.int 3]) (.slc (.var 4) [.int 1] [])], .tup [.var 3, .bin .add (.tup [.neg (.int 1)]) (.slc (.var 4) [.int 1] [])], .tup [.var 3, .bin .add (.tup [.bl false]) (.slc (.var 4) [.int 1] [])]])),
  .asg (.nm 10) (.bin .add (.var 10) (.lst [.tup [.bin .add (.var 3) (.tup [.bin .sub (.var 5) (.int 1)]), .var 4], .tup [.bin .add (.tup [.bin .sub (.var 5) (.int 1)]) (.slc (.var 3) [.int 1] []), .var 4], .tup [.bin .mul (.slc (.var 3) [] [.int 1]) (.var 5), .var 4]])),
  .asg (.nm 10) (.bin .add (.var 10) (.lst [.tup [.non, .var 4], .tup [.var 3, .non], .tup [.var 3, .bin .add (.tup [.non]) (.slc (.var 4) [.int 1] [])], .tup [.bin .add (.tup [.str "-"]) (.slc (.var 3) [.int 1] []), .var 4]])),
  .ret (.bin .add (.var 10) (.var 7))]⟩
def f_law_net : Fn := ⟨0, 0, [
  .ret (.tup [.tup [.int 0, .int 1], .tup [.int 0], .tup [.int 1, .int 1, .int 0]])]⟩
def f_law_line_of : Fn := ⟨0, 5, [
  .asg (.tup [.nm 0, .nm 1, .nm 2]) (.tup [.tup [.neg (.int 1), .int 0, .int 1], .tup [.int 0, .neg (.int 1), .int 1], .tup [.int 1, .int 0, .neg (.int 1)]]),
  .asg (.nm 3) (.lst [.tup [.var 0, .tup [.int 0, .int 0, .int 0], .tup [.int 1]], .tup [.var 1, .tup [.int 1, .int 0, .int 0], .tup [.int 0]], .tup [.var 0, .tup [.int 1, .int 0, .int 0], .tup [.int 1]], .tup [.var 2, .tup [.int 0, .int 0, .int 0], .tup [.int 0, .int 1]]]),
  .fr (.nm 4) .seq [.tup [.int 1, .int 2]] [.asg (.nm 3) (.bin .add (.var 3) (.lst [.tup [.var 0, .tup [.int 0, .int 0, .var 4], .tup [.int 1, .int 2]], .tup [.var 1, .tup [.int 1, .int 0, .var 4], .tup [.int 0, .int 2]]])), .asg (.nm 3) (.bin .add (.var 3) (.lst [.tup [.var 0, .tup [.int 1, .int 0, .var 4], .tup [.int 1, .int 2]], .tup [.var 2, .tup [.int 0, .int 0, .var 4], .tup [.int 0, .int 1]]]))],
  .ret (.bin .add (.var 3) (.lst [.tup [.tup [.int 1, .neg (.int 1), .int 0], .tup [.int 0, .int 0, .int 0], .tup [.int 0, .int 2]]]))]⟩
def f_need_seating (is_seating NoSeating : Nat) : Fn := ⟨2, 2, [
  .ite (.not (.call is_seating [.var 0, .var 1])) [.raise NoSeating] []]⟩
def f_next_seats : Fn := ⟨3, 5, [
  .ret (.comp (.var 3) [3, 4] (.tup [.nm 3, .nm 4]) .enum [.var 1] [.cmp .inn (.var 4) (.idx (.var 0) (.var 2))])]⟩
def f_lot_by (bare_of next_seats : Nat) : Fn := ⟨2, 5, [
  .asg (.tup [.nm 2, .nm 3]) (.tup [.lst [], .lst [.call bare_of [.var 1]]]),
  .whl (.cmp .ne (.var 3) (.lst [])) [.asg (.nm 4) (.mth .pop0 (.var 3) []), .ite (.cmp .nin (.var 4) (.var 2)) [.ex (.mth .append (.var 2) [.var 4]), .ex (.mth .extend (.var 3) [.call next_seats [.var 0, .var 1, .var 4]])] []],
  .ret (.blt .tuple [.blt .sorted [.var 2]])]⟩
def f_lot (need_seating lot_by : Nat) : Fn := ⟨2, 2, [
  .ex (.call need_seating [.var 0, .var 1]),
  .ret (.call lot_by [.var 0, .var 1])]⟩
def f_law_lot : Fn := ⟨2, 7, [
  .asg (.tup [.nm 2, .nm 3]) (.tup [.comp (.var 4) [4, 5] (.tup [.nm 4, .nm 5]) .enum [.var 1] [.cmp .lt (.var 5) (.int 0)], .int 0]),
  .whl (.cmp .gt (.blt .len [.var 2]) (.var 3)) [.asg (.tup [.nm 3, .nm 6]) (.tup [.blt .len [.var 2], .lst []]), .fr (.nm 4) .seq [.var 2] [.asg (.nm 6) (.bin .add (.var 6) (.blt .list [.idx (.var 0) (.var 4)]))], .asg (.nm 2) (.comp (.var 4) [4, 5] (.tup [.nm 4, .nm 5]) .enum [.var 1] [.or (.cmp .inn (.var 5) (.var 6)) (.cmp .lt (.var 5) (.int 0))])],
  .ret (.blt .tuple [.var 2])]⟩
def f_law_least_closed (law_is_closed : Nat) : Fn := ⟨2, 6, [
  .asg (.nm 2) (.lst [.tup []]),
  .fr (.nm 3) .range1 [.blt .len [.var 0]] [.asg (.nm 2) (.bin .add (.var 2) (.comp (.bin .add (.var 4) (.tup [.var 3])) [4] (.nm 4) .seq [.var 2] []))],
  .asg (.nm 5) (.comp (.var 4) [4] (.nm 4) .seq [.var 2] [.call law_is_closed [.var 0, .var 1, .var 4]]),
  .ret (.blt .tuple [.comp (.var 3) [3] (.nm 3) .range1 [.blt .len [.var 0]] [.cmp .eq (.comp (.var 4) [4] (.nm 4) .seq [.var 5] [.cmp .nin (.var 3) (.var 4)]) (.lst [])]])]⟩
def f_law_k10 (law_pen law_cell_at law_house law_seating law_any_stand law_lot law_least_closed law_same lot : Nat) : Fn := ⟨1, 8, [
  .fr (.nm 1) .range1 [.blt .max2 [.int 1, .blt .min2 [.blt .len [.var 0], .int 4]]] [.asg (.nm 2) (.call law_pen [.call law_cell_at [.var 0, .var 1]]), .fr (.nm 3) .range1 [.int 4] [.asg (.nm 4) (.call law_house [.var 2, .int 5]), .fr (.nm 5) .seq [.lst [.call law_seating [.var 2, .blt .len [.var 4]], .idx (.call law_any_stand [.var 2, .var 4]) (.int 0)]] [.asg (.tup [.nm 6, .nm 7]) (.tup [.blt .repr [.tup [.var 4, .var 5]], .call law_lot [.var 4, .var 5]]), .ite (.cmp .ne (.var 7) (.call law_least_closed [.var 4, .var 5])) [.ret (.bl false)] [], .ite (.not (.call law_same [.lst [.call lot [.var 4, .var 5], .call lot [.var 4, .var 5]], .lst [.var 7, .var 7]])) [.ret (.bl false)] [], .ite (.cmp .ne (.blt .repr [.tup [.var 4, .var 5]]) (.var 6)) [.ret (.bl false)] []]]],
  .ret (.bl true)]⟩
def f_way_to_odd (kept_by bare_of next_seats : Nat) : Fn := ⟨2, 10, [
  .asg (.tup [.nm 2, .nm 3]) (.tup [.idx (.var 1) (.int 0), .call kept_by [.var 0, .var 1]]),
  .asg (.tup [.nm 4, .nm 5]) (.tup [.lst [.call bare_of [.var 2]], .lst [.tup [.call bare_of [.var 2]]]]),
  .whl (.cmp .ne (.var 5) (.lst [])) [.asg (.nm 6) (.lst []), .fr (.nm 7) .seq [.var 5] [.fr (.nm 8) .seq [.call next_seats [.var 0, .var 2, .idx (.var 7) (.neg (.int 1))]] [.ite (.cmp .nin (.var 8) (.var 4)) [.ex (.mth .append (.var 4) [.var 8]), .ex (.mth .append (.var 6) [.bin .add (.var 7) (.tup [.var 8])])] []]], .asg (.nm 9) (.comp (.var 7) [7] (.nm 7) .seq [.var 6] [.cmp .nin (.idx (.var 7) (.neg (.int 1))) (.var 3)]), .ite (.cmp .ne (.var 9) (.lst [])) [.ret (.idx (.var 9) (.int 0))] [], .asg (.nm 5) (.var 6)],
  .ret (.non)]⟩
def f_paper_by (way_to_odd lot_by : Nat) : Fn := ⟨2, 3, [
  .asg (.nm 2) (.call way_to_odd [.var 0, .var 1]),
  .ret (.ife (.cmp .isv (.var 2) (.non)) (.tup [.gc 5, .call lot_by [.var 0, .idx (.var 1) (.int 0)]]) (.tup [.gc 6, .var 2]))]⟩
def f_paper (need_stand paper_by : Nat) : Fn := ⟨2, 2, [
  .ex (.call need_stand [.var 0, .var 1]),
  .ret (.call paper_by [.var 0, .var 1])]⟩
def f_law_comes_again (law_line : Nat) : Fn := ⟨2, 2, [
  .ret (.cmp .eq (.idx (.call law_line [.var 0, .var 1]) (.int 1)) (.int 0))]⟩
def f_law_way (law_kept law_bare : Nat) : Fn := ⟨2, 10, [
  .asg (.tup [.nm 2, .nm 3]) (.tup [.call law_kept [.var 0, .var 1], .lst [.tup [.call law_bare [.var 1]]]]),
  .whl (.cmp .ne (.var 3) (.lst [])) [.asg (.nm 4) (.lst []), .fr (.nm 5) .seq [.var 3] [.asg (.nm 6) (.comp (.var 7) [7, 8] (.tup [.nm 7, .nm 8]) .enum [.idx (.var 1) (.int 0)] [.and (.cmp .inn (.var 8) (.idx (.var 0) (.idx (.var 5) (.neg (.int 1))))) (.cmp .nin (.var 7) (.var 5))]), .asg (.nm 4) (.bin .add (.var 4) (.comp (.bin .add (.var 5) (.tup [.var 7])) [7] (.nm 7) .seq [.var 6] []))], .asg (.nm 9) (.comp (.var 5) [5] (.nm 5) .seq [.var 4] [.cmp .nin (.idx (.var 5) (.neg (.int 1))) (.var 2)]), .ite (.cmp .ne (.var 9) (.lst [])) [.ret (.blt .min1 [.var 9])] [], .asg (.nm 3) (.var 4)],
  .ret (.non)]⟩
def f_law_right_4 (paper law_way law_comes_again law_lot law_same : Nat) : Fn := ⟨2, 5, [
  .asg (.tup [.nm 2, .nm 3]) (.tup [.blt .repr [.tup [.var 0, .var 1]], .lst [.call paper [.var 0, .var 1], .call paper [.var 0, .var 1]]]),
  .asg (.nm 4) (.tup [.str "never", .call law_way [.var 0, .var 1]]),
  .ite (.call law_comes_again [.var 0, .var 1]) [.asg (.nm 4) (.tup [.str "again", .call law_lot [.var 0, .idx (.var 1) (.int 0)]])] [],
  .ret (.and (.call law_same [.var 3, .lst [.var 4, .var 4]]) (.cmp .eq (.blt .repr [.tup [.var 0, .var 1]]) (.var 2)))]⟩
def f_law_k11 (law_pen law_cell_at law_house law_any_stand law_draw law_line law_kept_stand law_right : Nat) : Fn := ⟨1, 11, [
  .fr (.nm 1) .range1 [.blt .max2 [.int 1, .blt .min2 [.blt .len [.var 0], .int 4]]] [.asg (.nm 2) (.call law_pen [.call law_cell_at [.var 0, .var 1]]), .fr (.nm 3) .range1 [.int 4] [.asg (.nm 4) (.call law_house [.var 2, .int 5]), .asg (.nm 5) (.call law_any_stand [.var 2, .var 4]), .asg (.nm 6) (.call law_draw [.var 2, .blt .len [.var 4]]), .asg (.nm 7) (.bin .add (.bin .add (.slc (.idx (.var 5) (.int 1)) [] [.var 6]) (.tup [.call law_draw [.var 2, .blt .len [.idx (.var 4) (.var 6)]]])) (.slc (.idx (.var 5) (.int 1)) [.bin .add (.var 6) (.int 1)] [])), .asg (.tup [.nm 8, .nm 9]) (.call law_line [.var 4, .var 5]), .fr (.nm 10) .seq [.lst [.var 5, .tup [.idx (.var 5) (.int 0), .var 7], .idx (.var 8) (.var 9), .idx (.var 8) (.neg (.int 1)), .call law_kept_stand [.var 2, .var 4]]] [.ite (.not (.call law_right [.var 4, .var 10])) [.ret (.bl false)] []]]],
  .ret (.bl true)]⟩
def f_are_seats (is_within : Nat) : Fn := ⟨2, 3, [
  .ret (.and (.blt .isTup [.var 1]) (.blt .all [.comp (.call is_within [.var 2, .int 0, .bin .sub (.blt .len [.var 0]) (.int 1)]) [2] (.nm 2) .seq [.var 1] []]))]⟩
def f_is_closed (are_seats kept_by bare_of next_seats : Nat) : Fn := ⟨3, 10, [
  .ite (.or (.not (.call are_seats [.var 0, .var 2])) (.not (.blt .all [.comp (.cmp .lt (.var 3) (.var 4)) [3, 4] (.tup [.nm 3, .nm 4]) .zip [.var 2, .slc (.var 2) [.int 1] []] []]))) [.ret (.bl false)] [],
  .asg (.tup [.nm 5, .nm 6]) (.tup [.idx (.var 1) (.int 0), .call kept_by [.var 0, .var 1]]),
  .asg (.nm 7) (.call bare_of [.var 5]),
  .ite (.or (.cmp .nin (.var 7) (.var 2)) (.not (.blt .all [.comp (.cmp .inn (.var 8) (.var 6)) [8] (.nm 8) .seq [.var 2] [.cmp .ne (.var 8) (.var 7)]]))) [.ret (.bl false)] [],
  .ret (.blt .all [.comp2 (.cmp .inn (.var 9) (.var 2)) [8, 9] [9] (.nm 8) .seq [.var 2] [] (.nm 9) .seq [.call next_seats [.var 0, .var 5, .var 8]] []])]⟩
def f_is_way (bare_of are_seats kept_by : Nat) : Fn := ⟨3, 6, [
  .asg (.nm 3) (.idx (.var 1) (.int 0)),
  .ite (.or (.not (.call are_seats [.var 0, .var 2])) (.or (.cmp .lt (.blt .len [.var 2]) (.int 2)) (.cmp .ne (.idx (.var 2) (.int 0)) (.call bare_of [.var 3])))) [.ret (.bl false)] [],
  .ite (.not (.blt .all [.comp (.cmp .inn (.idx (.var 3) (.var 5)) (.idx (.var 0) (.var 4))) [4, 5] (.tup [.nm 4, .nm 5]) .zip [.var 2, .slc (.var 2) [.int 1] []] []])) [.ret (.bl false)] [],
  .ret (.cmp .nin (.idx (.var 2) (.neg (.int 1))) (.call kept_by [.var 0, .var 1]))]⟩
def f_shows (need_stand is_long is_closed is_way : Nat) : Fn := ⟨3, 3, [
  .ex (.call need_stand [.var 0, .var 1]),
  .ite (.or (.not (.call is_long [.var 2, .int 2, .int 2])) (.not (.blt .isStr [.idx (.var 2) (.int 0)]))) [.ret (.bl false)] [],
  .ite (.cmp .eq (.idx (.var 2) (.int 0)) (.gc 5)) [.ret (.call is_closed [.var 0, .var 1, .idx (.var 2) (.int 1)])] [],
  .ret (.and (.cmp .eq (.idx (.var 2) (.int 0)) (.gc 6)) (.call is_way [.var 0, .var 1, .idx (.var 2) (.int 1)]))]⟩
def f_law_lots : Fn := ⟨1, 4, [
  .asg (.nm 1) (.lst [.tup []]),
  .fr (.nm 2) .range1 [.var 0] [.asg (.nm 1) (.bin .add (.var 1) (.comp (.bin .add (.var 3) (.tup [.var 2])) [3] (.nm 3) .seq [.var 1] []))],
  .ret (.var 1)]⟩
def f_law_are_seats : Fn := ⟨2, 3, [
  .fr (.nm 2) .seq [.var 0] [.ite (.or (.not (.blt .isInt [.var 2])) (.or (.blt .isBool [.var 2]) (.not (.chain .le .lt (.int 0) (.var 2) (.var 1))))) [.ret (.bl false)] []],
  .ret (.bl true)]⟩
def f_law_k12 (law_pen law_cell_at law_house law_any_stand law_things law_shows law_same shows : Nat) : Fn := ⟨1, 9, [
  .fr (.nm 1) .range1 [.blt .max2 [.int 1, .blt .min2 [.blt .len [.var 0], .int 3]]] [.asg (.nm 2) (.call law_pen [.call law_cell_at [.var 0, .var 1]]), .fr (.nm 3) .range1 [.int 3] [.asg (.nm 4) (.call law_house [.var 2, .int 5]), .asg (.nm 5) (.call law_any_stand [.var 2, .var 4]), .fr (.nm 6) .seq [.call law_things [.var 2, .var 4, .var 5]] [.asg (.tup [.nm 7, .nm 8]) (.tup [.blt .repr [.tup [.var 4, .var 5, .var 6]], .call law_shows [.var 4, .var 5, .var 6]]), .ite (.not (.call law_same [.lst [.call shows [.var 4, .var 5, .var 6], .call shows [.var 4, .var 5, .var 6]], .lst [.var 8, .var 8]])) [.ret (.bl false)] [], .ite (.cmp .ne (.blt .repr [.tup [.var 4, .var 5, .var 6]]) (.var 7)) [.ret (.bl false)] []]]],
  .ret (.bl true)]⟩
def f_law_no_houses_2 : Fn := ⟨1, 4, [
  .asg (.nm 1) (.lst [.non, .tup [], .lst [], .slc (.var 0) [] [.int 1], .bin .mul (.var 0) (.int 5), .blt .list [.var 0], .int 7, .str "house", .dic [] [], .tup [.idx (.var 0) (.int 0)], .bin .add (.slc (.var 0) [] [.int 1]) (.tup [.tup []])]),
  .asg (.nm 2) (.lst [.tup [], .bin .mul (.tup [.int 0]) (.int 4), .tup [.bin .sub (.blt .len [.var 0]) (.int 1)], .tup [.neg (.int 1)], .tup [.bl true], .tup [.non], .lst [.int 0], .int 0, .str "0", .tup [.tup [.int 0]]]),
  .ret (.bin .add (.var 1) (.comp (.bin .add (.slc (.var 0) [] [.neg (.int 1)]) (.tup [.var 3])) [3] (.nm 3) .seq [.var 2] []))]⟩
def f_law_no_seatings : Fn := ⟨1, 5, [
  .asg (.nm 1) (.blt .len [.var 0]),
  .asg (.nm 2) (.lst [.non, .tup [], .blt .list [.var 0], .slc (.var 0) [.int 1] [], .bin .add (.var 0) (.tup [.bin .sub (.var 1) (.int 1)]), .bin .mul (.tup [.int 0]) (.var 1), .bin .mul (.tup [.neg (.int 1)]) (.var 1), .int 7, .dic [] [], .str "seats"]),
  .asg (.nm 3) (.blt .tuple [.comp (.ife (.cmp .inn (.var 4) (.tup [.int 0, .int 1])) (.cmp .eq (.var 4) (.int 1)) (.var 4)) [4] (.nm 4) .seq [.var 0] []]),
  .ret (.bin .add (.var 2) (.lst [.var 3, .blt .tuple [.comp (.bin .add (.var 4) (.int 1)) [4] (.nm 4) .seq [.var 0] []], .bin .add (.slc (.var 0) [] [.neg (.int 1)]) (.tup [.non]), .bin .add (.slc (.var 0) [] [.neg (.int 1)]) (.tup [.str "0"])]))]⟩
def f_law_no_stands_2 (law_no_seatings : Nat) : Fn := ⟨2, 7, [
  .asg (.tup [.nm 2, .nm 3]) (.var 1),
  .asg (.nm 4) (.bin .add (.comp (.tup [.var 5, .var 3]) [5] (.nm 5) .seq [.call law_no_seatings [.var 2]] []) (.lst [.non, .tup [], .blt .list [.var 1], .slc (.var 1) [] [.int 1], .bin .add (.var 1) (.tup [.int 0]), .var 2])),
  .asg (.nm 6) (.lst [.non, .tup [], .blt .list [.var 3], .slc (.var 3) [.int 1] [], .bin .add (.var 3) (.tup [.int 0]), .bin .add (.slc (.var 3) [] [.neg (.int 1)]) (.tup [.blt .len [.idx (.var 0) (.neg (.int 1))]]), .bin .add (.slc (.var 3) [] [.neg (.int 1)]) (.tup [.neg (.int 1)])]),
  .ret (.bin .add (.var 4) (.comp (.tup [.var 2, .var 5]) [5] (.nm 5) .seq [.bin .add (.var 6) (.lst [.bin .add (.tup [.bl false]) (.slc (.var 3) [.int 1] []), .bin .add (.slc (.var 3) [] [.neg (.int 1)]) (.tup [.non]), .str "0"])] []))]⟩
def f_off_and_long (need_stand way_of : Nat) : Fn := ⟨2, 4, [
  .ex (.call need_stand [.var 0, .var 1]),
  .asg (.tup [.nm 2, .nm 3]) (.call way_of [.var 0, .var 1]),
  .ret (.tup [.var 3, .bin .sub (.blt .len [.var 2]) (.var 3)])]⟩
def f_ring_of (way_of : Nat) : Fn := ⟨2, 4, [
  .asg (.tup [.nm 2, .nm 3]) (.call way_of [.var 0, .var 1]),
  .ret (.slc (.var 2) [.var 3] [])]⟩
def f_from_least : Fn := ⟨1, 2, [
  .asg (.nm 1) (.mth .index (.var 0) [.blt .min1 [.var 0]]),
  .ret (.blt .tuple [.bin .add (.slc (.var 0) [.var 1] []) (.slc (.var 0) [] [.var 1])])]⟩
def f_round_of (need_stand from_least ring_of : Nat) : Fn := ⟨2, 2, [
  .ex (.call need_stand [.var 0, .var 1]),
  .ret (.call from_least [.call ring_of [.var 0, .var 1]])]⟩
def f_law_k14 (law_pen law_cell_at law_house law_any_stand law_line law_same off_and_long round_of : Nat) : Fn := ⟨1, 13, [
  .fr (.nm 1) .range1 [.blt .max2 [.int 1, .blt .min2 [.blt .len [.var 0], .int 4]]] [.asg (.nm 2) (.call law_pen [.call law_cell_at [.var 0, .var 1]]), .asg (.nm 3) (.call law_house [.var 2, .bin .add (.int 4) (.blt .toInt [.cmp .eq (.var 1) (.int 0)])]), .fr (.nm 4) .range1 [.int 3] [.asg (.nm 5) (.call law_any_stand [.var 2, .var 3]), .asg (.tup [.nm 6, .tup [.nm 7, .nm 8]]) (.tup [.blt .repr [.tup [.var 3, .var 5]], .call law_line [.var 3, .var 5]]), .asg (.nm 9) (.slc (.var 7) [.var 8] []), .asg (.nm 10) (.mth .index (.var 9) [.blt .min1 [.var 9]]), .asg (.nm 11) (.lst [.tup [.var 8, .blt .len [.var 9]], .blt .tuple [.bin .add (.slc (.var 9) [.var 10] []) (.slc (.var 9) [] [.var 10])]]), .fr (.nm 12) .range1 [.int 2] [.ite (.not (.call law_same [.lst [.call off_and_long [.var 3, .var 5], .call round_of [.var 3, .var 5]], .var 11])) [.ret (.bl false)] []], .ite (.cmp .ne (.blt .repr [.tup [.var 3, .var 5]]) (.var 6)) [.ret (.bl false)] []]],
  .ret (.bl true)]⟩
def f_heard (need_stand ring_of bare_of : Nat) : Fn := ⟨2, 6, [
  .ex (.call need_stand [.var 0, .var 1]),
  .asg (.nm 2) (.comp (.call bare_of [.var 3]) [3, 4] (.tup [.nm 3, .nm 4]) .seq [.call ring_of [.var 0, .var 1]] []),
  .ret (.blt .tuple [.comp (.mth .count (.var 2) [.var 5]) [5] (.nm 5) .range1 [.blt .len [.var 0]] []])]⟩
def f_need_seat (is_within NoSeat : Nat) : Fn := ⟨2, 2, [
  .ite (.not (.call is_within [.var 1, .int 0, .bin .sub (.blt .len [.var 0]) (.int 1)])) [.raise NoSeat] []]⟩
def f_first_heard (need_stand need_seat way_of bare_of : Nat) : Fn := ⟨3, 6, [
  .ex (.call need_stand [.var 0, .var 1]),
  .ex (.call need_seat [.var 0, .var 2]),
  .asg (.nm 3) (.comp (.call bare_of [.var 4]) [4, 5] (.tup [.nm 4, .nm 5]) .seq [.idx (.call way_of [.var 0, .var 1]) (.int 0)] []),
  .ret (.ife (.cmp .inn (.var 2) (.var 3)) (.mth .index (.var 3) [.var 2]) (.non))]⟩
def f_back (need_stand way_of : Nat) : Fn := ⟨2, 4, [
  .ex (.call need_stand [.var 0, .var 1]),
  .asg (.tup [.nm 2, .nm 3]) (.call way_of [.var 0, .var 1]),
  .ret (.ife (.cmp .eq (.var 3) (.int 0)) (.idx (.var 2) (.neg (.int 1))) (.non))]⟩
def f_law_k15 (law_pen law_cell_at law_house law_any_stand law_line law_bare law_same heard back first_heard : Nat) : Fn := ⟨1, 16, [
  .fr (.nm 1) .range1 [.blt .max2 [.int 1, .blt .min2 [.blt .len [.var 0], .int 4]]] [.asg (.nm 2) (.call law_pen [.call law_cell_at [.var 0, .var 1]]), .asg (.nm 3) (.call law_house [.var 2, .bin .add (.int 4) (.blt .toInt [.cmp .eq (.var 1) (.int 0)])]), .fr (.nm 4) .range1 [.int 3] [.asg (.nm 5) (.call law_any_stand [.var 2, .var 3]), .asg (.tup [.nm 6, .tup [.nm 7, .nm 8]]) (.tup [.blt .repr [.tup [.var 3, .var 5]], .call law_line [.var 3, .var 5]]), .asg (.nm 9) (.comp (.call law_bare [.var 10]) [10] (.nm 10) .seq [.var 7] []), .asg (.nm 11) (.blt .tuple [.comp (.mth .count (.slc (.var 9) [.var 8] []) [.var 12]) [12] (.nm 12) .range1 [.blt .len [.var 3]] []]), .asg (.nm 13) (.lst [.var 11, .ife (.cmp .eq (.var 8) (.int 0)) (.idx (.var 7) (.neg (.int 1))) (.non)]), .asg (.nm 14) (.comp (.ife (.cmp .inn (.var 12) (.var 9)) (.mth .index (.var 9) [.var 12]) (.non)) [12] (.nm 12) .range1 [.blt .len [.var 3]] []), .fr (.nm 15) .range1 [.int 2] [.ite (.not (.call law_same [.lst [.call heard [.var 3, .var 5], .call back [.var 3, .var 5]], .var 13])) [.ret (.bl false)] [], .ite (.not (.call law_same [.comp (.call first_heard [.var 3, .var 5, .var 12]) [12] (.nm 12) .range1 [.blt .len [.var 3]] [], .var 14])) [.ret (.bl false)] []], .ite (.cmp .ne (.blt .repr [.tup [.var 3, .var 5]]) (.var 6)) [.ret (.bl false)] []]],
  .ret (.bl true)]⟩
def f_law_two_right (heard round_of off_and_long first_heard back : Nat) : Fn := ⟨0, 3, [
  .asg (.tup [.nm 0, .nm 1]) (.tup [.tup [.tup [.int 0], .tup [.int 0]], .tup [.tup [.neg (.int 1), .int 0], .tup [.int 0, .int 0]]]),
  .asg (.nm 2) (.tup [.tup [.int 0, .neg (.int 1)], .tup [.int 0, .int 0]]),
  .ite (.or (.cmp .ne (.call off_and_long [.var 0, .var 1]) (.tup [.int 0, .int 2])) (.or (.cmp .ne (.call round_of [.var 0, .var 2]) (.tup [.var 1, .var 2])) (.cmp .ne (.call heard [.var 0, .var 1]) (.tup [.int 1, .int 1])))) [.ret (.bl false)] [],
  .ret (.and (.cmp .eq (.call back [.var 0, .var 1]) (.var 2)) (.and (.cmp .eq (.call back [.var 0, .var 2]) (.var 1)) (.cmp .eq (.call first_heard [.var 0, .var 1, .int 1]) (.int 1))))]⟩
def f_law_three_right (round_of off_and_long back heard first_heard : Nat) : Fn := ⟨0, 5, [
  .asg (.tup [.nm 0, .nm 1]) (.tup [.tup [.tup [.int 0, .int 1], .tup [.int 0], .tup [.int 1]], .tup [.neg (.int 1), .int 0, .int 1]]),
  .asg (.nm 2) (.tup [.tup [.var 1, .tup [.int 0, .int 0, .int 0]], .tup [.tup [.int 0, .neg (.int 1), .int 1], .tup [.int 1, .int 0, .int 0]], .tup [.var 1, .tup [.int 1, .int 0, .int 0]], .tup [.tup [.int 1, .int 0, .neg (.int 1)], .tup [.int 0, .int 0, .int 0]]]),
  .fr (.nm 3) .range1 [.int 4] [.ite (.or (.cmp .ne (.call off_and_long [.var 0, .idx (.var 2) (.var 3)]) (.tup [.int 0, .int 4])) (.cmp .ne (.call round_of [.var 0, .idx (.var 2) (.var 3)]) (.var 2))) [.ret (.bl false)] [], .ite (.or (.cmp .ne (.call heard [.var 0, .idx (.var 2) (.var 3)]) (.tup [.int 2, .int 1, .int 1])) (.cmp .ne (.call back [.var 0, .idx (.var 2) (.var 3)]) (.idx (.var 2) (.bin .sub (.var 3) (.int 1))))) [.ret (.bl false)] []],
  .ite (.cmp .ne (.comp (.call first_heard [.var 0, .idx (.var 2) (.int 0), .var 3]) [3] (.nm 3) .range1 [.int 3] []) (.lst [.int 0, .int 1, .int 3])) [.ret (.bl false)] [],
  .asg (.nm 4) (.tup [.tup [.neg (.int 1), .int 1, .int 0], .tup [.int 0, .int 0, .int 0]]),
  .ite (.or (.cmp .ne (.call off_and_long [.var 0, .var 4]) (.tup [.int 2, .int 4])) (.or (.cmp .ne (.call round_of [.var 0, .var 4]) (.var 2)) (.cmp .nis (.call back [.var 0, .var 4]) (.non)))) [.ret (.bl false)] [],
  .ite (.or (.cmp .ne (.call heard [.var 0, .var 4]) (.tup [.int 2, .int 1, .int 1])) (.cmp .ne (.comp (.call first_heard [.var 0, .var 4, .var 3]) [3] (.nm 3) .range1 [.int 3] []) (.lst [.int 0, .int 2, .int 1]))) [.ret (.bl false)] [],
  .ret (.and (.cmp .isv (.call first_heard [.tup [.tup [.int 0, .int 0], .tup [.int 0], .tup [.int 0]], .idx (.var 2) (.int 0), .int 2]) (.non)) (.cmp .eq (.call heard [.tup [.tup [.int 0, .int 0], .tup [.int 0], .tup [.int 0]], .idx (.var 2) (.int 0)]) (.tup [.int 2, .int 2, .int 0])))]⟩
def f_law_refused_right (law_words : Nat) : Fn := ⟨2, 10, [
  .asg (.tup [.nm 2, .nm 3]) (.var 1),
  .asg (.nm 4) (.lst [.non, .bl true, .int 7, .str "house", .tup [], .lst [], .dic [] [], .blt .list [.var 0], .slc (.var 0) [] [.int 1], .bin .mul (.tup [.tup [.int 0]]) (.int 6), .bin .add (.slc (.var 0) [] [.neg (.int 1)]) (.tup [.tup []])]),
  .asg (.nm 4) (.bin .add (.var 4) (.lst [.bin .add (.slc (.var 0) [] [.neg (.int 1)]) (.tup [.int 0])])),
  .asg (.nm 4) (.bin .add (.var 4) (.comp (.bin .add (.slc (.var 0) [] [.neg (.int 1)]) (.tup [.var 5])) [5] (.nm 5) .seq [.lst [.bin .mul (.tup [.int 0]) (.int 4), .tup [.neg (.int 1)], .tup [.bin .sub (.blt .len [.var 0]) (.int 1)], .tup [.bl true], .tup [.non], .lst [.int 0], .tup [.str "0"]]] [])),
  .fr (.nm 6) .seq [.var 4] [.asg (.nm 7) (.blt .repr [.var 6]), .ite (.or (.cmp .ne (.call law_words [.var 6, .non, .non]) (.bin .mul (.lst [.str "! house"]) (.int 5))) (.cmp .ne (.blt .repr [.var 6]) (.var 7))) [.ret (.bl false)] []],
  .asg (.nm 4) (.lst [.non, .int 0, .str "stand", .tup [], .lst [], .dic [] [], .blt .list [.var 1], .slc (.var 1) [] [.int 1], .bin .add (.var 1) (.tup [.tup []]), .tup [.var 3, .var 2, .int 0], .tup [.blt .list [.var 2], .var 3]]),
  .asg (.nm 4) (.bin .add (.var 4) (.lst [.tup [.var 2, .blt .list [.var 3]], .tup [.slc (.var 2) [] [.neg (.int 1)], .var 3], .tup [.var 2, .slc (.var 3) [] [.neg (.int 1)]], .tup [.bin .add (.var 2) (.tup [.int 9]), .var 3]])),
  .asg (.nm 4) (.bin .add (.var 4) (.lst [.tup [.var 2, .bin .add (.var 3) (.tup [.int 0])]])),
  .asg (.nm 4) (.bin .add (.var 4) (.lst [.tup [.bin .mul (.slc (.var 2) [] [.int 1]) (.blt .len [.var 2]), .var 3], .tup [.var 2, .bin .add (.tup [.neg (.int 1)]) (.slc (.var 3) [.int 1] [])], .tup [.var 2, .bin .add (.tup [.blt .len [.idx (.var 0) (.int 0)]]) (.slc (.var 3) [.int 1] [])]])),
  .asg (.nm 4) (.bin .add (.var 4) (.lst [.tup [.var 2, .bin .add (.tup [.bl false]) (.slc (.var 3) [.int 1] [])], .tup [.var 2, .bin .add (.tup [.non]) (.slc (.var 3) [.int 1] [])]])),
  .asg (.nm 4) (.bin .add (.var 4) (.lst [.tup [.blt .tuple [.comp (.cmp .eq (.var 8) (.int 0)) [8] (.nm 8) .seq [.var 2] []], .var 3]])),
  .ex (.mth .append (.var 4) [.tup [.blt .tuple [.comp (.bin .add (.var 8) (.int 1)) [8] (.nm 8) .seq [.var 2] []], .var 3]]),
  .fr (.nm 6) .seq [.var 4] [.asg (.nm 7) (.blt .repr [.var 6]), .ite (.or (.cmp .ne (.call law_words [.var 0, .var 6, .non]) (.bin .mul (.lst [.str "! stand"]) (.int 5))) (.cmp .ne (.blt .repr [.var 6]) (.var 7))) [.ret (.bl false)] []],
  .fr (.nm 6) .seq [.lst [.non, .neg (.int 1), .blt .len [.var 0], .bl true, .bl false, .str "0", .tup [.int 0], .lst [.int 0], .dic [] [], .bin .pow (.int 10) (.int 12)]] [.ite (.cmp .ne (.idx (.call law_words [.var 0, .var 1, .var 6]) (.int 4)) (.str "! seat")) [.ret (.bl false)] []],
  .ret (.cmp .eq (.mth .count (.comp (.slc (.var 9) [] [.int 1]) [9] (.nm 9) .seq [.call law_words [.var 0, .var 1, .int 1]] []) [.str "!"]) (.int 0))]⟩
def f_law_plans : Fn := ⟨0, 1, [
  .asg (.nm 0) (.tup [.tup [.int 0, .int 1, .int 2], .tup [.int 3], .tup [.int 0, .int 0], .tup [.int 1, .int 3, .int 3], .tup [.int 2, .int 1]]),
  .ret (.lst [.tup [.tup [.tup [.int 0], .tup [.int 0]], .tup [.tup [.int 0, .neg (.int 1)], .tup [.int 0, .int 0]]], .tup [.tup [.tup [.int 0, .int 1], .tup [.int 0], .tup [.int 1]], .tup [.tup [.neg (.int 1), .int 1, .int 0], .tup [.int 1, .int 0, .int 0]]], .tup [.var 0, .tup [.tup [.int 3, .int 1, .neg (.int 1), .int 0, .int 2], .tup [.int 2, .int 0, .int 1, .int 2, .int 0]]]])]⟩
def f_law_k16 (law_three_right law_two_right law_plans law_refused_right law_named_right : Nat) : Fn := ⟨1, 4, [
  .ite (.or (.not (.call law_two_right [])) (.not (.call law_three_right []))) [.ret (.bl false)] [],
  .fr (.nm 1) .seq [.bin .add (.lst [.int 0]) (.slc (.var 0) [] [.int 3])] [.asg (.tup [.nm 2, .nm 3]) (.idx (.call law_plans []) (.bin .mod (.var 1) (.int 3))), .ite (.or (.not (.call law_named_right [.var 2, .var 3])) (.not (.call law_refused_right [.var 2, .var 3]))) [.ret (.bl false)] []],
  .ret (.bl true)]⟩
def f_keeping_hands : Fn := ⟨3, 5, [
  .asg (.nm 3) (.blt .len [.idx (.var 0) (.var 2)]),
  .ret (.comp (.var 4) [4] (.nm 4) .range1 [.var 3] [.cmp .eq (.idx (.idx (.var 0) (.var 2)) (.bin .sub (.var 4) (.int 1))) (.idx (.var 1) (.var 2))])]⟩
def f_all_seatings : Fn := ⟨1, 5, [
  .asg (.nm 1) (.lst [.tup []]),
  .fr (.nm 2) .range1 [.var 0] [.asg (.nm 1) (.comp2 (.bin .add (.var 3) (.tup [.var 4])) [3, 4] [4] (.nm 3) .seq [.var 1] [] (.nm 4) .range2 [.gc 3, .bin .sub (.var 0) (.int 1)] [.cmp .nin (.var 4) (.var 3)])],
  .ret (.var 1)]⟩
def f_counts_of (bare_of keeping_hands : Nat) : Fn := ⟨2, 10, [
  .asg (.nm 2) (.call bare_of [.var 1]),
  .asg (.nm 3) (.lst [.blt .len [.idx (.var 0) (.var 2)]]),
  .fr (.tup [.nm 4, .nm 5]) .enum [.var 0] [.ite (.cmp .ne (.var 4) (.var 2)) [.asg (.nm 6) (.blt .len [.call keeping_hands [.var 0, .var 1, .var 4]]), .asg (.nm 7) (.bin .sub (.blt .len [.var 5]) (.var 6)), .asg (.nm 3) (.comp (.bin .add (.bin .mul (.var 8) (.var 7)) (.bin .mul (.var 9) (.var 6))) [8, 9] (.tup [.nm 8, .nm 9]) .zip [.bin .add (.var 3) (.lst [.int 0]), .bin .add (.lst [.int 0]) (.var 3)] [])] []],
  .ret (.var 3)]⟩
def f_kept_counts (need_house all_seatings counts_of : Nat) : Fn := ⟨1, 5, [
  .ex (.call need_house [.var 0]),
  .asg (.nm 1) (.bin .mul (.lst [.int 0]) (.blt .len [.var 0])),
  .fr (.nm 2) .seq [.call all_seatings [.blt .len [.var 0]]] [.asg (.nm 1) (.comp (.bin .add (.var 3) (.var 4)) [3, 4] (.tup [.nm 3, .nm 4]) .zip [.var 1, .call counts_of [.var 0, .var 2]] [])],
  .ret (.blt .tuple [.var 1])]⟩
def f_law_five (law_draw : Nat) : Fn := ⟨1, 4, [
  .asg (.nm 1) (.lst []),
  .fr (.nm 2) .range1 [.int 5] [.ex (.mth .append (.var 1) [.blt .tuple [.comp (.call law_draw [.var 0, .int 4]) [3] (.nm 3) .range1 [.bin .add (.int 1) (.call law_draw [.var 0, .int 3])] []]])],
  .ret (.blt .tuple [.var 1])]⟩
def f_law_houses (law_pen law_cell_at law_house law_five : Nat) : Fn := ⟨1, 4, [
  .asg (.nm 1) (.comp (.call law_pen [.call law_cell_at [.var 0, .var 2]]) [2] (.nm 2) .range1 [.blt .max2 [.int 1, .blt .min2 [.blt .len [.var 0], .int 2]]] []),
  .ret (.bin .add (.comp (.call law_house [.var 3, .int 4]) [3] (.nm 3) .seq [.var 1] []) (.lst [.call law_five [.idx (.var 1) (.int 0)]]))]⟩
def f_law_k17 (law_houses law_all_stands law_kept law_same kept_counts : Nat) : Fn := ⟨1, 6, [
  .fr (.nm 1) .seq [.call law_houses [.var 0]] [.asg (.tup [.nm 2, .nm 3]) (.tup [.blt .repr [.var 1], .bin .mul (.lst [.int 0]) (.blt .len [.var 1])]), .fr (.nm 4) .seq [.call law_all_stands [.var 1]] [.asg (.nm 5) (.blt .len [.call law_kept [.var 1, .var 4]]), .asg (.sub (.var 3) (.var 5)) (.bin .add (.idx (.var 3) (.var 5)) (.int 1))], .ite (.not (.call law_same [.lst [.call kept_counts [.var 1], .call kept_counts [.var 1]], .lst [.blt .tuple [.var 3], .blt .tuple [.var 3]]])) [.ret (.bl false)] [], .ite (.cmp .ne (.blt .repr [.var 1]) (.var 2)) [.ret (.bl false)] []],
  .ret (.bl true)]⟩
def f_lets_of (lot_by bare_of keeping_hands : Nat) : Fn := ⟨2, 8, [
  .asg (.tup [.nm 2, .nm 3, .nm 4]) (.tup [.call lot_by [.var 0, .var 1], .call bare_of [.var 1], .lst []]),
  .fr (.tup [.nm 5, .nm 6]) .enum [.var 0] [.asg (.nm 7) (.or (.cmp .eq (.var 5) (.var 3)) (.cmp .nin (.var 5) (.var 2))), .ex (.mth .append (.var 4) [.ife (.var 7) (.blt .listR1 [.blt .len [.var 6]]) (.call keeping_hands [.var 0, .var 1, .var 5])])],
  .ret (.var 4)]⟩
def f_count_of : Fn := ⟨1, 3, [
  .asg (.nm 1) (.int 1),
  .fr (.nm 2) .seq [.var 0] [.asg (.nm 1) (.bin .mul (.var 1) (.blt .len [.var 2]))],
  .ret (.var 1)]⟩
def f_again_by_lots (all_seatings lot_by count_of lets_of : Nat) : Fn := ⟨1, 4, [
  .asg (.nm 1) (.dic [] []),
  .fr (.nm 2) .seq [.call all_seatings [.blt .len [.var 0]]] [.asg (.nm 3) (.call lot_by [.var 0, .var 2]), .asg (.sub (.var 1) (.var 3)) (.bin .add (.mth .get2 (.var 1) [.var 3, .int 0]) (.call count_of [.call lets_of [.var 0, .var 2]]))],
  .ret (.var 1)]⟩
def f_law_all_rounds (law_all_stands law_beat : Nat) : Fn := ⟨1, 6, [
  .asg (.tup [.nm 1, .nm 2]) (.tup [.dic [] [], .lst []]),
  .fr (.nm 3) .seq [.call law_all_stands [.var 0]] [.asg (.tup [.nm 4, .nm 5]) (.tup [.lst [], .var 3]), .whl (.cmp .nin (.var 5) (.var 1)) [.asg (.sub (.var 1) (.var 5)) (.var 3), .ex (.mth .append (.var 4) [.var 5]), .asg (.nm 5) (.call law_beat [.var 0, .var 5])], .ite (.and (.cmp .eq (.idx (.var 1) (.var 5)) (.var 3)) (.cmp .ne (.var 4) (.lst []))) [.ex (.mth .append (.var 2) [.slc (.var 4) [.mth .index (.var 4) [.var 5]] []])] []],
  .ret (.var 2)]⟩
def f_law_k18 (law_houses law_all_rounds law_lot law_same many_again lots_again : Nat) : Fn := ⟨1, 11, [
  .fr (.nm 1) .seq [.call law_houses [.var 0]] [.asg (.tup [.nm 2, .nm 3, .nm 4]) (.tup [.blt .repr [.var 1], .dic [] [], .int 0]), .fr (.nm 5) .seq [.call law_all_rounds [.var 1]] [.asg (.nm 4) (.bin .add (.var 4) (.blt .len [.var 5])), .fr (.tup [.nm 6, .nm 7]) .seq [.var 5] [.asg (.nm 8) (.call law_lot [.var 1, .var 6]), .asg (.sub (.var 3) (.var 8)) (.bin .add (.mth .get2 (.var 3) [.var 8, .int 0]) (.int 1))]], .asg (.nm 9) (.blt .tuple [.comp (.tup [.var 8, .idx (.var 3) (.var 8)]) [8] (.nm 8) .seq [.blt .sorted [.var 3]] []]), .fr (.nm 10) .range1 [.int 2] [.ite (.not (.call law_same [.lst [.call many_again [.var 1], .call lots_again [.var 1]], .lst [.var 4, .var 9]])) [.ret (.bl false)] []], .ite (.cmp .ne (.blt .repr [.var 1]) (.var 2)) [.ret (.bl false)] []],
  .ret (.bl true)]⟩
def f_all_again (all_seatings lets_of : Nat) : Fn := ⟨1, 8, [
  .asg (.nm 1) (.lst []),
  .fr (.nm 2) .seq [.call all_seatings [.blt .len [.var 0]]] [.asg (.nm 3) (.lst [.tup []]), .fr (.nm 4) .seq [.call lets_of [.var 0, .var 2]] [.asg (.nm 3) (.comp2 (.bin .add (.var 5) (.tup [.var 6])) [5, 6] [6] (.nm 5) .seq [.var 3] [] (.nm 6) .seq [.var 4] [])], .ex (.mth .extend (.var 1) [.comp (.tup [.var 2, .var 7]) [7] (.nm 7) .seq [.var 3] []])],
  .ret (.var 1)]⟩
def f_law_told (kept_counts many_again lots_again rounds_by_length : Nat) : Fn := ⟨1, 1, [
  .ret (.lst [.call kept_counts [.var 0], .call many_again [.var 0], .call lots_again [.var 0], .call rounds_by_length [.var 0]])]⟩
def f_law_by_hand (law_told : Nat) : Fn := ⟨0, 0, [
  .ite (.cmp .ne (.call law_told [.tup [.tup [.int 0], .tup [.int 0]]]) (.lst [.tup [.int 0, .int 2], .int 2, .tup [.tup [.tup [.int 0, .int 1], .int 2]], .tup [.tup [.int 2, .int 1]]])) [.ret (.bl false)] [],
  .ite (.cmp .ne (.call law_told [.tup [.tup [.int 0, .int 0], .tup [.int 0]]]) (.lst [.tup [.int 0, .int 4], .int 4, .tup [.tup [.tup [.int 0, .int 1], .int 4]], .tup [.tup [.int 4, .int 1]]])) [.ret (.bl false)] [],
  .ret (.cmp .eq (.call law_told [.tup [.tup [.int 0], .tup [.int 1], .tup [.int 0]]]) (.lst [.tup [.int 2, .int 2, .int 2], .int 2, .tup [.tup [.tup [.int 0, .int 2], .int 2]], .tup [.tup [.int 2, .int 1]]]))]⟩
def f_many_hands (need_seating count_of lets_of : Nat) : Fn := ⟨2, 2, [
  .ex (.call need_seating [.var 0, .var 1]),
  .ret (.call count_of [.call lets_of [.var 0, .var 1]])]⟩
def f_least_hands (need_seating lets_of : Nat) : Fn := ⟨2, 4, [
  .ex (.call need_seating [.var 0, .var 1]),
  .asg (.nm 2) (.call lets_of [.var 0, .var 1]),
  .ret (.ife (.cmp .inn (.lst []) (.var 2)) (.non) (.blt .tuple [.comp (.idx (.var 3) (.int 0)) [3] (.nm 3) .seq [.var 2] []]))]⟩
def f_law_good_hands (law_all_hands law_comes_again : Nat) : Fn := ⟨2, 3, [
  .ret (.comp (.var 2) [2] (.nm 2) .seq [.call law_all_hands [.var 0]] [.call law_comes_again [.var 0, .tup [.var 1, .var 2]]])]⟩
def f_law_k21 (law_pen law_cell_at law_house law_seating law_kept_stand law_good_hands law_same many_hands least_hands : Nat) : Fn := ⟨1, 9, [
  .fr (.nm 1) .range1 [.blt .max2 [.int 1, .blt .min2 [.blt .len [.var 0], .int 2]]] [.asg (.nm 2) (.call law_pen [.call law_cell_at [.var 0, .var 1]]), .asg (.nm 3) (.call law_house [.var 2, .int 5]), .fr (.nm 4) .seq [.lst [.call law_seating [.var 2, .blt .len [.var 3]], .idx (.call law_kept_stand [.var 2, .var 3]) (.int 0)]] [.asg (.tup [.nm 5, .nm 6]) (.tup [.blt .repr [.tup [.var 3, .var 4]], .call law_good_hands [.var 3, .var 4]]), .asg (.nm 7) (.lst [.blt .len [.var 6], .ife (.cmp .ne (.var 6) (.lst [])) (.idx (.var 6) (.int 0)) (.non)]), .fr (.nm 8) .range1 [.int 2] [.ite (.not (.call law_same [.lst [.call many_hands [.var 3, .var 4], .call least_hands [.var 3, .var 4]], .var 7])) [.ret (.bl false)] []], .ite (.cmp .ne (.blt .repr [.tup [.var 3, .var 4]]) (.var 5)) [.ret (.bl false)] []]],
  .ret (.bl true)]⟩
def f_to_be_turned (need_stand lets_of : Nat) : Fn := ⟨2, 6, [
  .ex (.call need_stand [.var 0, .var 1]),
  .asg (.tup [.nm 2, .nm 3]) (.tup [.call lets_of [.var 0, .idx (.var 1) (.int 0)], .idx (.var 1) (.int 1)]),
  .ret (.ife (.cmp .inn (.lst []) (.var 2)) (.non) (.blt .tuple [.comp (.var 4) [4, 5] (.tup [.nm 4, .nm 5]) .enum [.var 2] [.cmp .nin (.idx (.var 3) (.var 4)) (.var 5)]]))]⟩
def f_law_unlike_at : Fn := ⟨2, 4, [
  .ret (.blt .tuple [.comp (.var 2) [2, 3] (.tup [.nm 2, .nm 3]) .enum [.var 0] [.cmp .ne (.var 3) (.idx (.var 1) (.var 2))]])]⟩
def f_law_k22 (law_pen law_cell_at law_house law_any_stand law_pick law_all_hands law_good_hands law_unlike_at law_same to_be_turned : Nat) : Fn := ⟨1, 14, [
  .fr (.nm 1) .range1 [.blt .max2 [.int 1, .blt .min2 [.blt .len [.var 0], .int 2]]] [.asg (.nm 2) (.call law_pen [.call law_cell_at [.var 0, .var 1]]), .asg (.nm 3) (.call law_house [.var 2, .int 5]), .asg (.nm 4) (.call law_any_stand [.var 2, .var 3]), .asg (.nm 5) (.comp (.call law_pick [.var 2, .call law_all_hands [.var 3]]) [6] (.nm 6) .range1 [.int 3] []), .asg (.nm 7) (.call law_good_hands [.var 3, .idx (.var 4) (.int 0)]), .fr (.nm 8) .seq [.bin .add (.lst [.var 4]) (.comp (.tup [.idx (.var 4) (.int 0), .var 9]) [9] (.nm 9) .seq [.var 5] [])] [.asg (.nm 10) (.blt .sorted [.comp (.tup [.blt .len [.call law_unlike_at [.idx (.var 8) (.int 1), .var 9]], .call law_unlike_at [.idx (.var 8) (.int 1), .var 9]]) [9] (.nm 9) .seq [.var 7] []]), .asg (.tup [.nm 11, .nm 12]) (.tup [.blt .repr [.tup [.var 3, .var 8]], .ife (.cmp .ne (.var 10) (.lst [])) (.idx (.idx (.var 10) (.int 0)) (.int 1)) (.non)]), .ite (.not (.call law_same [.comp (.call to_be_turned [.var 3, .var 8]) [13] (.nm 13) .range1 [.int 2] [], .lst [.var 12, .var 12]])) [.ret (.bl false)] [], .ite (.cmp .ne (.blt .repr [.tup [.var 3, .var 8]]) (.var 11)) [.ret (.bl false)] []]],
  .ret (.bl true)]⟩
def f_law_no_houses_3 : Fn := ⟨1, 2, [
  .asg (.nm 1) (.lst [.non, .tup [], .lst [], .int 7, .str "0 0", .blt .list [.var 0], .slc (.var 0) [] [.int 1], .bin .add (.var 0) (.tup [.tup []]), .tup [.var 0], .dic [] [], .bin .mul (.tup [.tup [.int 0]]) (.int 6)]),
  .ex (.mth .append (.var 1) [.tup [.tup [.int 0], .tup [.int 0, .int 0, .int 0, .int 0]]]),
  .ret (.bin .add (.var 1) (.lst [.tup [.tup [.int 0], .tup []], .tup [.tup [.int 0], .tup [.int 1]], .tup [.tup [.int 0], .tup [.neg (.int 1)]], .tup [.tup [.int 0], .tup [.bl true]], .tup [.tup [.int 0], .lst [.int 0]], .tup [.tup [.int 0], .tup [.str "0"]], .tup [.tup [.int 0], .int 0]]))]⟩
def f_law_no_seatings_2 : Fn := ⟨1, 5, [
  .asg (.nm 1) (.lst [.non, .tup [], .lst [], .int 7, .blt .list [.var 0], .bin .add (.var 0) (.tup [.int 9]), .slc (.var 0) [] [.neg (.int 1)], .bin .add (.slc (.var 0) [] [.neg (.int 1)]) (.slc (.var 0) [] [.int 1]), .dic [] [], .str "-"]),
  .asg (.nm 2) (.comp (.var 3) [3, 4] (.tup [.nm 3, .nm 4]) .enum [.var 0] [.cmp .gt (.var 4) (.neg (.int 1))]),
  .ite (.cmp .gt (.blt .len [.var 2]) (.int 1)) [.ex (.mth .append (.var 1) [.blt .tuple [.comp (.ife (.cmp .eq (.var 3) (.idx (.var 2) (.neg (.int 1)))) (.idx (.var 0) (.idx (.var 2) (.int 0))) (.var 4)) [3, 4] (.tup [.nm 3, .nm 4]) .enum [.var 0] []]])] [],
  .ret (.bin .add (.var 1) (.lst [.blt .tuple [.comp (.bin .add (.var 4) (.int 1)) [4] (.nm 4) .seq [.var 0] []], .bin .add (.tup [.bl true]) (.slc (.var 0) [.int 1] []), .bin .add (.tup [.non]) (.slc (.var 0) [.int 1] []), .tup [.var 0]]))]⟩
def f_law_no_stands_3 (law_no_seatings : Nat) : Fn := ⟨2, 6, [
  .asg (.tup [.nm 2, .nm 3]) (.var 1),
  .asg (.nm 4) (.lst [.non, .tup [], .lst [], .int 7, .blt .list [.var 1], .bin .add (.var 1) (.tup [.int 0]), .tup [.var 2], .tup [.var 3, .var 2], .tup [.var 2, .blt .list [.var 3]], .dic [] []]),
  .asg (.nm 4) (.bin .add (.var 4) (.lst [.tup [.var 2, .bin .add (.var 3) (.tup [.int 0])], .tup [.var 2, .slc (.var 3) [] [.neg (.int 1)]], .tup [.var 2, .bin .add (.tup [.blt .len [.idx (.var 0) (.int 0)]]) (.slc (.var 3) [.int 1] [])], .str "-@0"])),
  .asg (.nm 4) (.bin .add (.var 4) (.lst [.tup [.var 2, .bin .add (.tup [.neg (.int 1)]) (.slc (.var 3) [.int 1] [])], .tup [.var 2, .bin .add (.tup [.bl false]) (.slc (.var 3) [.int 1] [])], .tup [.var 2, .bin .add (.tup [.non]) (.slc (.var 3) [.int 1] [])]])),
  .ret (.bin .add (.var 4) (.comp (.tup [.var 5, .var 3]) [5] (.nm 5) .seq [.call law_no_seatings [.var 2]] []))]⟩
def f_need_two (is_seating_of is_long NoSeating : Nat) : Fn := ⟨2, 3, [
  .fr (.nm 2) .seq [.tup [.var 0, .var 1]] [.ite (.or (.not (.call is_long [.var 2, .gc 0, .gc 7])) (.not (.call is_seating_of [.blt .len [.var 2], .var 2]))) [.raise NoSeating] []],
  .ite (.cmp .ne (.blt .len [.var 0]) (.blt .len [.var 1])) [.raise NoSeating] []]⟩
def f_fewest_by (bare_of : Nat) : Fn := ⟨2, 7, [
  .asg (.tup [.nm 2, .nm 3]) (.tup [.int 0, .comp (.var 4) [4] (.nm 4) .range1 [.blt .len [.var 0]] [.cmp .ne (.idx (.var 0) (.var 4)) (.idx (.var 1) (.var 4))]]),
  .whl (.cmp .ne (.var 3) (.lst [])) [.asg (.tup [.nm 5, .nm 6]) (.tup [.idx (.var 3) (.int 0), .lst []]), .whl (.cmp .nin (.var 5) (.var 6)) [.ex (.mth .append (.var 6) [.var 5]), .asg (.nm 5) (.mth .index (.var 1) [.idx (.var 0) (.var 5)])], .asg (.nm 2) (.bin .add (.var 2) (.ife (.cmp .inn (.call bare_of [.var 0]) (.var 6)) (.bin .sub (.blt .len [.var 6]) (.int 1)) (.bin .add (.blt .len [.var 6]) (.int 1)))), .asg (.nm 3) (.comp (.var 4) [4] (.nm 4) .seq [.var 3] [.cmp .nin (.var 4) (.var 6)])],
  .ret (.var 2)]⟩
def f_fewest (need_two fewest_by : Nat) : Fn := ⟨2, 2, [
  .ex (.call need_two [.var 0, .var 1]),
  .ret (.call fewest_by [.var 0, .var 1])]⟩
def f_law_off_by_rings : Fn := ⟨2, 8, [
  .asg (.tup [.nm 2, .nm 3]) (.tup [.int 0, .lst []]),
  .fr (.tup [.nm 4, .nm 5]) .enum [.var 0] [.asg (.nm 6) (.lst []), .whl (.cmp .nin (.var 4) (.var 3)) [.ex (.mth .append (.var 3) [.var 4]), .ex (.mth .append (.var 6) [.var 4]), .asg (.nm 4) (.mth .index (.var 1) [.idx (.var 0) (.var 4)])], .ite (.cmp .gt (.blt .len [.var 6]) (.int 1)) [.asg (.nm 2) (.bin .add (.bin .sub (.bin .add (.var 2) (.blt .len [.var 6])) (.int 1)) (.bin .mul (.int 2) (.blt .toInt [.cmp .nin (.neg (.int 1)) (.comp (.idx (.var 0) (.var 7)) [7] (.nm 7) .seq [.var 6] [])])))] []],
  .ret (.var 2)]⟩
def f_law_k24 (law_pen law_cell_at law_seating law_draw law_far_from law_pick law_off_by_rings law_same fewest : Nat) : Fn := ⟨1, 13, [
  .fr (.nm 1) .range1 [.blt .max2 [.int 1, .blt .min2 [.blt .len [.var 0], .int 2]]] [.asg (.nm 2) (.call law_pen [.call law_cell_at [.var 0, .var 1]]), .asg (.nm 3) (.call law_seating [.var 2, .bin .add (.int 2) (.call law_draw [.var 2, .int 5])]), .asg (.nm 4) (.call law_far_from [.var 3]), .asg (.nm 5) (.blt .sorted [.blt .list [.var 4]]), .fr (.nm 6) .seq [.bin .add (.lst [.var 3]) (.comp (.call law_pick [.var 2, .var 5]) [7] (.nm 7) .range1 [.int 20] [])] [.asg (.tup [.nm 8, .nm 9]) (.tup [.blt .repr [.tup [.var 6, .var 3]], .idx (.var 4) (.var 6)]), .ite (.cmp .ne (.var 9) (.call law_off_by_rings [.var 6, .var 3])) [.ret (.bl false)] [], .ite (.or (.not (.call law_same [.comp (.call fewest [.var 6, .var 3]) [10] (.nm 10) .range1 [.int 2] [], .lst [.var 9, .var 9]])) (.cmp .ne (.blt .repr [.tup [.var 6, .var 3]]) (.var 8))) [.ret (.bl false)] []], .fr (.nm 11) .seq [.tup [.int 7, .int 8]] [.fr (.nm 7) .range1 [.int 6] [.asg (.tup [.nm 6, .nm 12]) (.tup [.call law_seating [.var 2, .var 11], .call law_seating [.var 2, .var 11]]), .ite (.not (.call law_same [.call fewest [.var 6, .var 12], .call law_off_by_rings [.var 6, .var 12]])) [.ret (.bl false)] []]]],
  .ret (.bl true)]⟩
def f_taken (with_at bare_of : Nat) : Fn := ⟨2, 2, [
  .ret (.call with_at [.call with_at [.var 0, .call bare_of [.var 0], .idx (.var 0) (.var 1)], .var 1, .gc 3])]⟩
def f_least_row (need_two fewest_by bare_of taken : Nat) : Fn := ⟨2, 7, [
  .ex (.call need_two [.var 0, .var 1]),
  .asg (.tup [.nm 2, .nm 3]) (.tup [.tup [], .call fewest_by [.var 0, .var 1]]),
  .whl (.cmp .gt (.var 3) (.int 0)) [.asg (.nm 4) (.comp (.var 5) [5] (.nm 5) .range1 [.blt .len [.var 0]] [.cmp .ne (.var 5) (.call bare_of [.var 0])]), .asg (.nm 5) (.idx (.comp (.var 6) [6] (.nm 6) .seq [.var 4] [.cmp .eq (.call fewest_by [.call taken [.var 0, .var 6], .var 1]) (.bin .sub (.var 3) (.int 1))]) (.int 0)), .asg (.tup [.nm 2, .nm 0, .nm 3]) (.tup [.bin .add (.var 2) (.tup [.var 5]), .call taken [.var 0, .var 5], .bin .sub (.var 3) (.int 1)])],
  .ret (.var 2)]⟩
def f_law_due (law_off_by_rings law_took : Nat) : Fn := ⟨2, 8, [
  .asg (.tup [.nm 2, .nm 3]) (.tup [.lst [], .call law_off_by_rings [.var 0, .var 1]]),
  .whl (.cmp .gt (.var 3) (.int 0)) [.asg (.nm 4) (.comp (.var 5) [5, 6] (.tup [.nm 5, .nm 6]) .enum [.var 0] [.cmp .ge (.var 6) (.int 0)]), .asg (.nm 5) (.idx (.comp (.var 7) [7] (.nm 7) .seq [.var 4] [.cmp .lt (.call law_off_by_rings [.call law_took [.var 0, .var 7], .var 1]) (.var 3)]) (.int 0)), .asg (.tup [.nm 0, .nm 3]) (.tup [.call law_took [.var 0, .var 5], .bin .sub (.var 3) (.int 1)]), .ex (.mth .append (.var 2) [.var 5])],
  .ret (.blt .tuple [.var 2])]⟩
def f_law_by_layers (law_took : Nat) : Fn := ⟨2, 7, [
  .asg (.nm 2) (.lst []),
  .whl (.cmp .gt (.idx (.var 0) (.var 1)) (.int 0)) [.asg (.nm 3) (.comp (.var 4) [4, 5] (.tup [.nm 4, .nm 5]) .enum [.var 1] [.cmp .ge (.var 5) (.int 0)]), .asg (.nm 4) (.idx (.comp (.var 6) [6] (.nm 6) .seq [.var 3] [.cmp .lt (.idx (.var 0) (.call law_took [.var 1, .var 6])) (.idx (.var 0) (.var 1))]) (.int 0)), .asg (.nm 1) (.call law_took [.var 1, .var 4]), .ex (.mth .append (.var 2) [.var 4])],
  .ret (.blt .tuple [.var 2])]⟩
def f_law_k25 (law_pen law_cell_at law_seating law_draw law_far_from law_pick law_by_layers least_row law_same law_due : Nat) : Fn := ⟨1, 14, [
  .fr (.nm 1) .range1 [.blt .max2 [.int 1, .blt .min2 [.blt .len [.var 0], .int 2]]] [.asg (.nm 2) (.call law_pen [.call law_cell_at [.var 0, .var 1]]), .asg (.nm 3) (.call law_seating [.var 2, .bin .add (.int 2) (.call law_draw [.var 2, .int 5])]), .asg (.nm 4) (.call law_far_from [.var 3]), .asg (.nm 5) (.blt .sorted [.blt .list [.var 4]]), .fr (.nm 6) .seq [.bin .add (.lst [.var 3]) (.comp (.call law_pick [.var 2, .var 5]) [7] (.nm 7) .range1 [.int 12] [])] [.asg (.tup [.nm 8, .nm 9]) (.tup [.blt .repr [.tup [.var 6, .var 3]], .call law_by_layers [.var 4, .var 6]]), .asg (.nm 10) (.comp (.call least_row [.var 6, .var 3]) [11] (.nm 11) .range1 [.int 2] []), .ite (.or (.not (.call law_same [.var 10, .lst [.var 9, .var 9]])) (.cmp .ne (.blt .repr [.tup [.var 6, .var 3]]) (.var 8))) [.ret (.bl false)] []], .fr (.nm 12) .seq [.tup [.int 7, .int 8]] [.fr (.nm 7) .range1 [.int 4] [.asg (.tup [.nm 6, .nm 13]) (.tup [.call law_seating [.var 2, .var 12], .call law_seating [.var 2, .var 12]]), .ite (.not (.call law_same [.call least_row [.var 6, .var 13], .call law_due [.var 6, .var 13]])) [.ret (.bl false)] []]]],
  .ret (.bl true)]⟩
def f_leads (need_two bare_of is_within taken : Nat) : Fn := ⟨3, 4, [
  .ex (.call need_two [.var 0, .var 1]),
  .ite (.not (.blt .isTup [.var 2])) [.ret (.bl false)] [],
  .fr (.nm 3) .seq [.var 2] [.ite (.or (.not (.call is_within [.var 3, .int 0, .bin .sub (.blt .len [.var 0]) (.int 1)])) (.cmp .eq (.var 3) (.call bare_of [.var 0]))) [.ret (.bl false)] [], .asg (.nm 0) (.call taken [.var 0, .var 3])],
  .ret (.cmp .eq (.var 0) (.var 1))]⟩
def f_law_leads (law_took : Nat) : Fn := ⟨3, 4, [
  .ite (.not (.blt .isTup [.var 2])) [.ret (.bl false)] [],
  .fr (.nm 3) .seq [.var 2] [.ite (.or (.not (.blt .isInt [.var 3])) (.or (.blt .isBool [.var 3]) (.or (.not (.chain .le .lt (.int 0) (.var 3) (.blt .len [.var 0]))) (.cmp .lt (.idx (.var 0) (.var 3)) (.int 0))))) [.ret (.bl false)] [], .asg (.nm 0) (.call law_took [.var 0, .var 3])],
  .ret (.cmp .eq (.var 0) (.var 1))]⟩
def f_law_walk (law_pick law_took : Nat) : Fn := ⟨3, 7, [
  .asg (.nm 3) (.lst []),
  .fr (.nm 4) .range1 [.var 2] [.ex (.mth .append (.var 3) [.call law_pick [.var 0, .comp (.var 5) [5, 6] (.tup [.nm 5, .nm 6]) .enum [.var 1] [.cmp .ge (.var 6) (.int 0)]]]), .asg (.nm 1) (.call law_took [.var 1, .idx (.var 3) (.neg (.int 1))])],
  .ret (.tup [.blt .tuple [.var 3], .var 1])]⟩
def f_law_k26 (law_pen law_cell_at law_seating law_draw law_walk law_things law_leads leads law_same : Nat) : Fn := ⟨1, 12, [
  .fr (.nm 1) .range1 [.blt .max2 [.int 1, .blt .min2 [.blt .len [.var 0], .int 2]]] [.asg (.nm 2) (.call law_pen [.call law_cell_at [.var 0, .var 1]]), .fr (.nm 3) .range1 [.int 3] [.asg (.nm 4) (.call law_seating [.var 2, .bin .add (.int 2) (.call law_draw [.var 2, .int 7])]), .asg (.tup [.nm 5, .nm 6]) (.call law_walk [.var 2, .var 4, .idx (.lst [.int 0, .int 1, .int 3, .int 9, .int 60]) (.call law_draw [.var 2, .int 5])]), .fr (.nm 7) .seq [.call law_things [.var 2, .var 4, .var 6, .var 5]] [.asg (.tup [.nm 8, .nm 9]) (.tup [.blt .repr [.tup [.var 4, .var 6, .var 7]], .call law_leads [.var 4, .var 6, .var 7]]), .asg (.nm 10) (.comp (.call leads [.var 4, .var 6, .var 7]) [11] (.nm 11) .range1 [.int 2] []), .ite (.or (.not (.call law_same [.var 10, .lst [.var 9, .var 9]])) (.cmp .ne (.blt .repr [.tup [.var 4, .var 6, .var 7]]) (.var 8))) [.ret (.bl false)] []]]],
  .ret (.bl true)]⟩
def f_moved_on : Fn := ⟨3, 4, [
  .ret (.bin .add (.bin .mul (.lst [.int 0]) (.var 1)) (.comp (.bin .mul (.var 2) (.var 3)) [3] (.nm 3) .seq [.var 0] []))]⟩
def f_added : Fn := ⟨2, 5, [
  .asg (.nm 2) (.blt .max2 [.blt .len [.var 0], .blt .len [.var 1]]),
  .ret (.comp (.bin .add (.var 3) (.var 4)) [3, 4] (.tup [.nm 3, .nm 4]) .zip [.bin .add (.var 0) (.bin .mul (.lst [.int 0]) (.bin .sub (.var 2) (.blt .len [.var 0]))), .bin .add (.var 1) (.bin .mul (.lst [.int 0]) (.bin .sub (.var 2) (.blt .len [.var 1])))] [])]⟩
def f_rings_of (added moved_on : Nat) : Fn := ⟨1, 6, [
  .asg (.nm 1) (.lst [.lst [.int 1]]),
  .fr (.nm 2) .range2 [.int 1, .bin .add (.var 0) (.int 1)] [.asg (.tup [.nm 3, .nm 4]) (.tup [.lst [], .int 1]), .fr (.nm 5) .range2 [.int 1, .bin .add (.var 2) (.int 1)] [.asg (.nm 3) (.call added [.var 3, .call moved_on [.idx (.var 1) (.bin .sub (.var 2) (.var 5)), .ife (.cmp .eq (.var 5) (.int 1)) (.int 0) (.bin .add (.var 5) (.int 1)), .var 4]]), .asg (.nm 4) (.bin .mul (.var 4) (.bin .sub (.var 2) (.var 5)))], .ex (.mth .append (.var 1) [.var 3])],
  .ret (.var 1)]⟩
def f_how_far (is_within NoNumber rings_of added moved_on : Nat) : Fn := ⟨1, 5, [
  .ite (.not (.call is_within [.var 0, .gc 0, .gc 7])) [.raise NoNumber] [],
  .asg (.tup [.nm 1, .nm 2, .nm 3]) (.tup [.call rings_of [.bin .sub (.var 0) (.int 1)], .lst [], .int 1]),
  .fr (.nm 4) .range2 [.int 1, .bin .add (.var 0) (.int 1)] [.asg (.nm 2) (.call added [.var 2, .call moved_on [.idx (.var 1) (.bin .sub (.var 0) (.var 4)), .bin .sub (.var 4) (.int 1), .var 3]]), .asg (.nm 3) (.bin .mul (.var 3) (.bin .sub (.var 0) (.var 4)))],
  .ret (.blt .tuple [.var 2])]⟩
def f_law_k27 (how_far law_pen law_cell_at law_draw law_counted law_by_lots law_same : Nat) : Fn := ⟨1, 4, [
  .ite (.or (.cmp .ne (.call how_far [.int 2]) (.tup [.int 1, .int 1])) (.cmp .ne (.call how_far [.int 3]) (.tup [.int 1, .int 2, .int 2, .int 1]))) [.ret (.bl false)] [],
  .asg (.nm 1) (.call law_pen [.call law_cell_at [.var 0, .int 0]]),
  .fr (.nm 2) .seq [.lst [.bin .add (.int 2) (.call law_draw [.var 1, .int 5]), .int 7, .int 8]] [.asg (.nm 3) (.ife (.cmp .lt (.var 2) (.int 8)) (.call law_counted [.var 2]) (.call law_by_lots [.var 2])), .ite (.or (.not (.call law_same [.lst [.call how_far [.var 2], .call how_far [.var 2]], .lst [.var 3, .var 3]])) (.cmp .ne (.var 3) (.call law_by_lots [.var 2]))) [.ret (.bl false)] []],
  .ret (.bl true)]⟩
def f_parted (need_stand way_of heard_at : Nat) : Fn := ⟨4, 7, [
  .ex (.call need_stand [.var 0, .var 1]),
  .ex (.call need_stand [.var 2, .var 3]),
  .asg (.tup [.nm 4, .nm 5]) (.tup [.call way_of [.var 0, .var 1], .call way_of [.var 2, .var 3]]),
  .fr (.nm 6) .range1 [.bin .add (.bin .add (.blt .max2 [.idx (.var 4) (.int 1), .idx (.var 5) (.int 1)]) (.blt .len [.idx (.var 4) (.int 0)])) (.blt .len [.idx (.var 5) (.int 0)])] [.ite (.cmp .ne (.call heard_at [.var 4, .var 6]) (.call heard_at [.var 5, .var 6])) [.ret (.var 6)] []],
  .ret (.non)]⟩
def f_heard_at (bare_of : Nat) : Fn := ⟨2, 5, [
  .asg (.tup [.nm 2, .nm 3]) (.var 0),
  .asg (.nm 4) (.ife (.cmp .lt (.var 1) (.var 3)) (.var 1) (.bin .add (.var 3) (.bin .mod (.bin .sub (.var 1) (.var 3)) (.bin .sub (.blt .len [.var 2]) (.var 3))))),
  .ret (.call bare_of [.idx (.idx (.var 2) (.var 4)) (.int 0)])]⟩
def f_law_heard_row (law_bare law_beat : Nat) : Fn := ⟨3, 5, [
  .asg (.nm 3) (.lst []),
  .fr (.nm 4) .range1 [.var 2] [.ex (.mth .append (.var 3) [.call law_bare [.var 1]]), .asg (.nm 1) (.call law_beat [.var 0, .var 1])],
  .ret (.var 3)]⟩
def f_law_due_2 (law_line law_heard_row : Nat) : Fn := ⟨4, 13, [
  .asg (.tup [.tup [.nm 4, .nm 5], .tup [.nm 6, .nm 7]]) (.tup [.call law_line [.var 0, .var 1], .call law_line [.var 2, .var 3]]),
  .asg (.nm 8) (.bin .add (.bin .add (.blt .max2 [.var 5, .var 7]) (.blt .len [.var 4])) (.blt .len [.var 6])),
  .asg (.nm 9) (.lst [.call law_heard_row [.var 0, .var 1, .var 8], .call law_heard_row [.var 2, .var 3, .var 8]]),
  .asg (.nm 10) (.comp (.cmp .ne (.var 11) (.var 12)) [11, 12] (.tup [.nm 11, .nm 12]) .zip [.idx (.var 9) (.int 0), .idx (.var 9) (.int 1)] []),
  .ret (.ife (.cmp .inn (.bl true) (.var 10)) (.mth .index (.var 10) [.bl true]) (.non))]⟩
def f_law_others (law_house law_draw law_beat law_stand law_any_stand : Nat) : Fn := ⟨3, 12, [
  .asg (.tup [.nm 3, .nm 4]) (.tup [.call law_house [.var 0, .int 4], .call law_house [.var 0, .int 3]]),
  .asg (.nm 5) (.blt .tuple [.comp (.call law_draw [.var 0, .blt .len [.var 6]]) [6] (.nm 6) .seq [.var 1] []]),
  .asg (.nm 7) (.lst [.tup [.var 1, .var 2], .tup [.var 1, .call law_beat [.var 1, .var 2]], .tup [.var 1, .tup [.idx (.var 2) (.int 0), .var 5]]]),
  .ex (.mth .append (.var 7) [.tup [.var 1, .call law_stand [.var 0, .var 1]]]),
  .asg (.nm 8) (.call law_draw [.var 0, .blt .len [.var 1]]),
  .asg (.nm 6) (.slc (.bin .add (.idx (.var 1) (.var 8)) (.tup [.call law_draw [.var 0, .bin .sub (.blt .len [.var 1]) (.int 1)]])) [.neg (.int 3)] []),
  .asg (.nm 9) (.bin .add (.bin .add (.slc (.var 1) [] [.var 8]) (.tup [.var 6])) (.slc (.var 1) [.bin .add (.var 8) (.int 1)] [])),
  .ex (.mth .append (.var 7) [.tup [.var 9, .tup [.idx (.var 2) (.int 0), .blt .tuple [.comp (.blt .min2 [.var 10, .bin .sub (.blt .len [.var 11]) (.int 1)]) [10, 11] (.tup [.nm 10, .nm 11]) .zip [.idx (.var 2) (.int 1), .var 9] []]]]]),
  .ret (.bin .add (.var 7) (.lst [.tup [.var 3, .call law_any_stand [.var 0, .var 3]], .tup [.var 4, .call law_any_stand [.var 0, .var 4]]]))]⟩
def f_law_k29 (law_pen law_cell_at law_house law_any_stand law_others law_due parted law_same : Nat) : Fn := ⟨1, 10, [
  .fr (.nm 1) .range1 [.blt .max2 [.int 1, .blt .min2 [.blt .len [.var 0], .int 3]]] [.asg (.nm 2) (.call law_pen [.call law_cell_at [.var 0, .var 1]]), .asg (.nm 3) (.call law_house [.var 2, .bin .add (.int 4) (.blt .toInt [.cmp .eq (.var 1) (.int 0)])]), .asg (.nm 4) (.call law_any_stand [.var 2, .var 3]), .fr (.tup [.nm 5, .nm 6]) .seq [.call law_others [.var 2, .var 3, .var 4]] [.asg (.tup [.nm 7, .nm 8]) (.tup [.blt .repr [.tup [.var 3, .var 4, .var 5, .var 6]], .call law_due [.var 3, .var 4, .var 5, .var 6]]), .asg (.nm 9) (.lst [.call parted [.var 3, .var 4, .var 5, .var 6], .call parted [.var 3, .var 4, .var 5, .var 6]]), .ex (.mth .append (.var 9) [.call parted [.var 5, .var 6, .var 3, .var 4]]), .ite (.or (.not (.call law_same [.var 9, .bin .mul (.lst [.var 8]) (.int 3)])) (.cmp .ne (.blt .repr [.tup [.var 3, .var 4, .var 5, .var 6]]) (.var 7))) [.ret (.bl false)] []]],
  .ret (.bl true)]⟩
def f_law_hand_right (parted : Nat) : Fn := ⟨0, 7, [
  .asg (.tup [.nm 0, .nm 1]) (.tup [.tup [.neg (.int 1), .int 0, .int 1], .tup [.tup [.int 0, .int 1], .tup [.int 0], .tup [.int 1]]]),
  .asg (.nm 2) (.lst [.tup [.var 1, .tup [.int 1, .int 0, .int 0], .int 1], .tup [.tup [.tup [.int 0, .int 1, .int 0], .tup [.int 0], .tup [.int 1]], .tup [.int 0, .int 0, .int 0], .int 7], .tup [.tup [.tup [.int 0, .int 1, .int 1], .tup [.int 0], .tup [.int 1]], .tup [.int 0, .int 0, .int 0], .int 5]]),
  .asg (.nm 2) (.bin .add (.var 2) (.lst [.tup [.tup [.tup [.int 1, .int 0], .tup [.int 0], .tup [.int 1]], .tup [.int 1, .int 0, .int 0], .non], .tup [.tup [.tup [.int 0, .int 1], .tup [.int 0, .int 0, .int 0], .tup [.int 1, .int 1]], .tup [.int 0, .int 2, .int 1], .non]])),
  .asg (.nm 2) (.bin .add (.var 2) (.lst [.tup [.tup [.tup [.int 0], .tup [.int 0], .tup [.int 1]], .tup [.int 0, .int 0, .int 0], .int 3], .tup [.tup [.tup [.int 1], .tup [.int 0], .tup [.int 1]], .tup [.int 0, .int 0, .int 0], .int 1], .tup [.var 1, .tup [.int 0, .int 0, .int 0], .non]])),
  .fr (.tup [.nm 3, .nm 4, .nm 5]) .seq [.var 2] [.asg (.nm 6) (.lst [.call parted [.var 1, .tup [.var 0, .tup [.int 0, .int 0, .int 0]], .var 3, .tup [.var 0, .var 4]]]), .ex (.mth .append (.var 6) [.call parted [.var 3, .tup [.var 0, .var 4], .var 1, .tup [.var 0, .tup [.int 0, .int 0, .int 0]]]]), .ite (.cmp .ne (.blt .repr [.var 6]) (.blt .repr [.lst [.var 5, .var 5]])) [.ret (.bl false)] []],
  .ret (.bl true)]⟩
def f_law_seats_right (parted : Nat) : Fn := ⟨0, 6, [
  .asg (.tup [.nm 0, .nm 1, .nm 2]) (.tup [.tup [.tup [.int 0], .tup [.int 0]], .tup [.tup [.int 0, .int 1], .tup [.int 0], .tup [.int 1]], .tup [.tup [.int 0, .int 0], .tup [.int 0], .tup [.int 0]]]),
  .asg (.tup [.nm 3, .nm 4]) (.tup [.tup [.tup [.neg (.int 1), .int 0], .tup [.int 0, .int 0]], .tup [.neg (.int 1), .int 0, .int 1]]),
  .asg (.nm 5) (.lst [.call parted [.var 0, .var 3, .var 2, .tup [.var 4, .tup [.int 0, .int 0, .int 0]]], .call parted [.var 0, .var 3, .var 1, .tup [.var 4, .tup [.int 0, .int 0, .int 0]]]]),
  .ex (.mth .append (.var 5) [.call parted [.var 2, .tup [.var 4, .tup [.int 1, .int 0, .int 0]], .var 0, .tup [.tup [.int 0, .neg (.int 1)], .tup [.int 0, .int 0]]]]),
  .ret (.and (.cmp .eq (.var 5) (.lst [.non, .int 3, .int 0])) (.cmp .isv (.call parted [.var 0, .var 3, .var 0, .var 3]) (.non)))]⟩
def f_law_great_right (law_same parted law_due : Nat) : Fn := ⟨1, 5, [
  .asg (.nm 1) (.idx (.lst [.tup [.neg (.int 1), .int 0, .int 1, .int 2, .int 3], .tup [.int 3, .neg (.int 1), .int 0, .int 2, .int 1], .tup [.int 1, .int 2, .int 3, .int 0, .neg (.int 1)]]) (.bin .mod (.var 0) (.int 3))),
  .asg (.nm 2) (.tup [.tup [.int 0, .int 1, .int 2], .tup [.int 0, .int 3, .int 1], .tup [.int 2, .int 1, .int 0], .tup [.int 3, .int 3, .int 2], .tup [.int 1, .int 2]]),
  .asg (.nm 3) (.bin .add (.slc (.var 2) [] [.int 4]) (.tup [.tup [.int 1, .int 2, .int 1]])),
  .asg (.nm 4) (.tup [.var 1, .tup [.int 0, .int 1, .int 2, .int 0, .int 0]]),
  .ret (.call law_same [.call parted [.var 2, .var 4, .var 3, .var 4], .call law_due [.var 2, .var 4, .var 3, .var 4]])]⟩
def f_law_k30 (law_seats_right law_hand_right law_great_right : Nat) : Fn := ⟨1, 2, [
  .ite (.or (.not (.call law_hand_right [])) (.not (.call law_seats_right []))) [.ret (.bl false)] [],
  .fr (.nm 1) .seq [.bin .add (.lst [.int 0]) (.slc (.var 0) [] [.int 2])] [.ite (.not (.call law_great_right [.var 1])) [.ret (.bl false)] []],
  .ret (.bl true)]⟩
def f_law_no_plans : Fn := ⟨1, 3, [
  .asg (.nm 1) (.lst [.non, .bl true, .int 7, .str "house", .tup [], .lst [], .dic [] [], .blt .list [.var 0], .slc (.var 0) [] [.int 1], .bin .mul (.tup [.tup [.int 0]]) (.int 6), .bin .add (.slc (.var 0) [] [.neg (.int 1)]) (.tup [.tup []])]),
  .asg (.nm 1) (.bin .add (.var 1) (.lst [.bin .add (.slc (.var 0) [] [.neg (.int 1)]) (.tup [.int 0])])),
  .ret (.bin .add (.var 1) (.comp (.bin .add (.slc (.var 0) [] [.neg (.int 1)]) (.tup [.var 2])) [2] (.nm 2) .seq [.lst [.bin .mul (.tup [.int 0]) (.int 4), .tup [.neg (.int 1)], .tup [.bin .sub (.blt .len [.var 0]) (.int 1)], .tup [.bl true], .tup [.non], .lst [.int 0], .tup [.str "0"]]] []))]⟩
def f_law_no_marks : Fn := ⟨1, 5, [
  .asg (.tup [.nm 1, .nm 2]) (.var 0),
  .asg (.nm 3) (.lst [.non, .int 0, .str "stand", .tup [], .lst [], .dic [] [], .blt .list [.var 0], .slc (.var 0) [] [.int 1], .bin .add (.var 0) (.tup [.tup []]), .tup [.blt .list [.var 1], .var 2]]),
  .asg (.nm 3) (.bin .add (.var 3) (.lst [.tup [.var 1, .blt .list [.var 2]]])),
  .asg (.nm 3) (.bin .add (.var 3) (.lst [.tup [.slc (.var 1) [] [.neg (.int 1)], .var 2], .tup [.var 1, .slc (.var 2) [] [.neg (.int 1)]], .tup [.bin .add (.var 1) (.tup [.int 9]), .var 2], .tup [.var 1, .bin .add (.var 2) (.tup [.int 0])]])),
  .asg (.nm 3) (.bin .add (.var 3) (.lst [.tup [.var 2, .var 1, .int 0]])),
  .asg (.nm 3) (.bin .add (.var 3) (.lst [.tup [.bin .mul (.slc (.var 1) [] [.int 1]) (.blt .len [.var 1]), .var 2], .tup [.var 1, .bin .add (.tup [.neg (.int 1)]) (.slc (.var 2) [.int 1] [])], .tup [.var 1, .bin .add (.tup [.int 3]) (.slc (.var 2) [.int 1] [])]])),
  .asg (.nm 3) (.bin .add (.var 3) (.lst [.tup [.var 1, .bin .add (.tup [.bl false]) (.slc (.var 2) [.int 1] [])], .tup [.var 1, .bin .add (.tup [.non]) (.slc (.var 2) [.int 1] [])]])),
  .ret (.bin .add (.var 3) (.lst [.tup [.blt .tuple [.comp (.cmp .eq (.var 4) (.int 0)) [4] (.nm 4) .seq [.var 1] []], .var 2]]))]⟩
def f_law_refused (law_said : Nat) : Fn := ⟨2, 2, [
  .ret (.cmp .eq (.call law_said [.var 0]) (.bin .add (.str "! ") (.var 1)))]⟩
def f_law_k31 (law_plans law_right : Nat) : Fn := ⟨1, 7, [
  .asg (.nm 1) (.call law_plans []),
  .fr (.nm 2) .seq [.bin .add (.lst [.int 0]) (.slc (.var 0) [] [.int 3])] [.asg (.tup [.nm 3, .nm 4]) (.idx (.var 1) (.bin .mod (.var 2) (.int 3))), .asg (.tup [.nm 5, .nm 6]) (.idx (.var 1) (.bin .mod (.bin .fdiv (.var 2) (.int 3)) (.int 3))), .ite (.not (.call law_right [.var 3, .var 4, .var 5, .var 6])) [.ret (.bl false)] []],
  .ret (.bl true)]⟩
def f_wall : Fn := ⟨1, 1, [
  .whl (.bl true) [.pass]]⟩
def f_law_after (law_line : Nat) : Fn := ⟨3, 5, [
  .asg (.tup [.nm 3, .nm 4]) (.call law_line [.var 0, .var 1]),
  .ite (.cmp .lt (.var 2) (.blt .len [.var 3])) [.ret (.idx (.var 3) (.var 2))] [],
  .ret (.idx (.var 3) (.bin .add (.var 4) (.bin .mod (.bin .sub (.var 2) (.var 4)) (.bin .sub (.blt .len [.var 3]) (.var 4)))))]⟩
def f_law_ways (law_bare : Nat) : Fn := ⟨2, 9, [
  .asg (.tup [.nm 2, .nm 3]) (.tup [.lst [], .lst [.tup [.call law_bare [.tup [.var 1, .tup []]]]]]),
  .whl (.cmp .ne (.var 3) (.lst [])) [.asg (.nm 2) (.bin .add (.var 2) (.var 3)), .asg (.nm 4) (.lst []), .fr (.nm 5) .seq [.var 3] [.asg (.nm 6) (.idx (.var 0) (.idx (.var 5) (.neg (.int 1)))), .asg (.nm 4) (.bin .add (.var 4) (.comp (.bin .add (.var 5) (.tup [.var 7])) [7, 8] (.tup [.nm 7, .nm 8]) .enum [.var 1] [.and (.cmp .inn (.var 8) (.var 6)) (.cmp .nin (.var 7) (.var 5))]))], .asg (.nm 3) (.var 4)],
  .ret (.var 2)]⟩
def f_law_paper (law_kept law_ways law_lot : Nat) : Fn := ⟨2, 5, [
  .asg (.nm 2) (.call law_kept [.var 0, .var 1]),
  .asg (.nm 3) (.comp (.tup [.blt .len [.var 4], .var 4]) [4] (.nm 4) .seq [.call law_ways [.var 0, .idx (.var 1) (.int 0)]] [.and (.cmp .gt (.blt .len [.var 4]) (.int 1)) (.cmp .nin (.idx (.var 4) (.neg (.int 1))) (.var 2))]),
  .ret (.ife (.cmp .eq (.var 3) (.lst [])) (.tup [.str "again", .call law_lot [.var 0, .idx (.var 1) (.int 0)]]) (.tup [.str "never", .idx (.blt .min1 [.var 3]) (.int 1)]))]⟩
def f_law_deed (law_draw law_seating law_after : Nat) : Fn := ⟨4, 9, [
  .asg (.nm 4) (.call law_draw [.var 0, .int 5]),
  .ite (.and (.cmp .eq (.var 4) (.int 0)) (.cmp .ne (.var 3) (.lst []))) [.ret (.tup [.str "undo", .tup [], .idx (.var 3) (.neg (.int 1))])] [],
  .ite (.cmp .eq (.var 4) (.int 1)) [.asg (.nm 5) (.call law_seating [.var 0, .blt .len [.var 1]]), .ret (.tup [.str "seat", .tup [.var 5], .tup [.var 5, .idx (.var 2) (.int 1)]])] [],
  .ite (.cmp .eq (.var 4) (.int 2)) [.asg (.nm 6) (.call law_draw [.var 0, .blt .len [.var 1]]), .asg (.nm 7) (.call law_draw [.var 0, .blt .len [.idx (.var 1) (.var 6)]]), .ret (.tup [.str "turn", .tup [.var 6, .var 7], .tup [.idx (.var 2) (.int 0), .bin .add (.bin .add (.slc (.idx (.var 2) (.int 1)) [] [.var 6]) (.tup [.var 7])) (.slc (.idx (.var 2) (.int 1)) [.bin .add (.var 6) (.int 1)] [])]])] [],
  .asg (.nm 8) (.idx (.lst [.int 0, .int 1, .bin .add (.int 1) (.call law_draw [.var 0, .int 20]), .call law_draw [.var 0, .bin .add (.bin .pow (.int 10) (.int 12)) (.int 1)]]) (.call law_draw [.var 0, .int 4])),
  .ret (.tup [.str "beats", .tup [.var 8], .call law_after [.var 1, .var 2, .var 8]])]⟩
def f_law_first : Fn := ⟨1, 1, [
  .ret (.tup [.blt .tupR2 [.neg (.int 1), .bin .sub (.blt .len [.var 0]) (.int 1)], .bin .mul (.tup [.int 0]) (.blt .len [.var 0])])]⟩
def f_law_alike : Fn := ⟨3, 3, [
  .ite (.cmp .ne (.lst [.cmp .eq (.var 0) (.var 1), .cmp .eq (.var 1) (.var 0), .cmp .ne (.var 0) (.var 1), .cmp .ne (.var 1) (.var 0)]) (.lst [.var 2, .var 2, .not (.var 2), .not (.var 2)])) [.ret (.bl false)] [],
  .ret (.cmp .eq (.cmp .inn (.var 0) (.lst [.var 1])) (.var 2))]⟩
def f_law_no_houses_4 : Fn := ⟨1, 2, [
  .asg (.nm 1) (.lst [.non, .tup [], .int 0, .str "0 0", .dic [] [], .blt .list [.var 0], .slc (.var 0) [] [.int 1], .bin .mul (.tup [.tup [.int 0]]) (.int 6), .tup [.tup [], .tup [.int 0]], .tup [.tup [.int 0], .tup [.int 1]], .tup [.tup [.int 0], .tup [.neg (.int 1)]]]),
  .ret (.bin .add (.var 1) (.lst [.tup [.tup [.int 0], .lst [.int 0]], .tup [.tup [.int 0], .tup [.bl true]], .tup [.bin .mul (.tup [.int 0]) (.int 4), .tup [.int 0]], .tup [.tup [.int 0], .int 0], .bin .add (.slc (.var 0) [] [.neg (.int 1)]) (.tup [.tup [.blt .len [.var 0]]]), .tup [.var 0]]))]⟩
def f_law_no_seatings_3 (law_seating : Nat) : Fn := ⟨2, 6, [
  .asg (.nm 2) (.blt .len [.var 1]),
  .asg (.nm 3) (.call law_seating [.var 0, .var 2]),
  .asg (.nm 4) (.lst [.non, .tup [], .int 0, .str "-1 0", .dic [] [], .blt .list [.var 3], .slc (.var 3) [.int 1] [], .bin .add (.var 3) (.tup [.bin .sub (.var 2) (.int 1)]), .bin .mul (.tup [.int 0]) (.var 2), .bin .mul (.tup [.neg (.int 1)]) (.var 2)]),
  .ret (.bin .add (.var 4) (.lst [.bin .mul (.tup [.non]) (.var 2), .bin .add (.tup [.bl false]) (.bin .mul (.tup [.int 0]) (.bin .sub (.var 2) (.int 1))), .blt .tuple [.comp (.bin .add (.var 5) (.int 1)) [5] (.nm 5) .seq [.var 3] []], .tup [.var 3]]))]⟩
def f_number_in : Fn := ⟨1, 2, [
  .ite (.or (.cmp .eq (.var 0) (.str "")) (.or (.not (.blt .all [.comp (.cmp .inn (.var 1) (.gc 8)) [1] (.nm 1) .seq [.var 0] []])) (.and (.cmp .eq (.idx (.var 0) (.int 0)) (.str "0")) (.cmp .ne (.var 0) (.str "0"))))) [.ret (.non)] [],
  .ret (.blt .toInt [.var 0])]⟩
def f_numbers_in (number_in NoLine : Nat) : Fn := ⟨1, 3, [
  .asg (.nm 1) (.comp (.ife (.cmp .le (.blt .len [.var 2]) (.gc 15)) (.call number_in [.var 2]) (.non)) [2] (.nm 2) .seq [.var 0] []),
  .ite (.cmp .inn (.non) (.var 1)) [.raise NoLine] [],
  .ret (.var 1)]⟩
def f_law_k35 (law_texts_right law_errors_right law_pen law_cell_at law_voice_right law_draw : Nat) : Fn := ⟨1, 4, [
  .ite (.or (.not (.call law_errors_right [])) (.not (.call law_texts_right [.tup [.tup [.int 1], .tup [.int 0, .int 1], .tup [.int 0]], .tup [.tup [.int 0, .neg (.int 1), .int 1], .tup [.int 0, .int 1, .int 0]]]))) [.ret (.bl false)] [],
  .fr (.nm 1) .range1 [.blt .max2 [.int 1, .blt .min2 [.blt .len [.var 0], .int 3]]] [.asg (.nm 2) (.call law_pen [.call law_cell_at [.var 0, .var 1]]), .fr (.nm 3) .range1 [.int 2] [.ite (.not (.call law_voice_right [.call law_draw [.var 2, .bin .pow (.int 10) (.int 11)]])) [.ret (.bl false)] []]],
  .ret (.bl true)]⟩
def f_law_right_5 (law_house_text law_stand_text law_same house_text stand_text read_house read_stand : Nat) : Fn := ⟨2, 5, [
  .asg (.tup [.nm 2, .nm 3]) (.tup [.blt .repr [.lst [.var 0, .var 1]], .lst [.call law_house_text [.var 0], .call law_stand_text [.var 1]]]),
  .fr (.nm 4) .range1 [.int 2] [.ite (.not (.call law_same [.lst [.call house_text [.var 0], .call stand_text [.var 0, .var 1]], .var 3])) [.ret (.bl false)] [], .ite (.not (.call law_same [.lst [.call read_house [.idx (.var 3) (.int 0)], .call read_stand [.var 0, .idx (.var 3) (.int 1)]], .lst [.var 0, .var 1]])) [.ret (.bl false)] []],
  .ret (.cmp .eq (.blt .repr [.lst [.var 0, .var 1]]) (.var 2))]⟩
def f_law_k36 (law_pen law_cell_at law_house law_stand law_any_stand law_first law_right : Nat) : Fn := ⟨1, 6, [
  .fr (.nm 1) .range1 [.blt .max2 [.int 1, .blt .min2 [.blt .len [.var 0], .int 4]]] [.asg (.nm 2) (.call law_pen [.call law_cell_at [.var 0, .var 1]]), .fr (.nm 3) .range1 [.int 4] [.asg (.nm 4) (.call law_house [.var 2, .int 5]), .fr (.nm 5) .seq [.lst [.call law_stand [.var 2, .var 4], .call law_any_stand [.var 2, .var 4], .call law_first [.var 4]]] [.ite (.not (.call law_right [.var 4, .var 5])) [.ret (.bl false)] []]]],
  .ret (.bl true)]⟩
def f_law_figures : Fn := ⟨1, 2, [
  .ite (.or (.cmp .eq (.var 0) (.str "")) (.cmp .ne (.comp (.var 1) [1] (.nm 1) .seq [.var 0] [.cmp .nin (.var 1) (.str "0123456789")]) (.lst []))) [.ret (.non)] [],
  .ret (.ife (.and (.cmp .gt (.blt .len [.var 0]) (.int 1)) (.cmp .eq (.idx (.var 0) (.int 0)) (.str "0"))) (.non) (.blt .toInt [.var 0]))]⟩
def f_law_k37 (law_pen law_cell_at law_house law_stand law_bent_text law_house_text law_stand_text law_none_right law_right : Nat) : Fn := ⟨1, 10, [
  .asg (.nm 1) (.lst [.str "", .str " ", .str "0", .str "0 0", .str "0  0", .str "00 0", .str "0,1 0", .str "0 0 0 0 0 0", .str "1 0 1", .str "1 0 2", .str "0 0\n", .str "0,0,0,0 0", .str "0, 0"]),
  .asg (.nm 1) (.bin .add (.var 1) (.lst [.str " 0 0", .str "-@0 0@0", .str "0@0 -@0", .str "-@0 -@0", .str "-@00 0@0", .str "-@0 0@1", .str "-@ 0@0", .str "@0 0@0", .str "-@0 1@0"])),
  .asg (.nm 1) (.bin .add (.var 1) (.lst [.str "-@0  0@0", .str "-1@0 0@0", .str "-@0 0@0 ", .str "-@0	0@0", .str "-@0 0@0\n"])),
  .fr (.nm 2) .range1 [.blt .max2 [.int 1, .blt .min2 [.blt .len [.var 0], .int 3]]] [.asg (.nm 3) (.call law_pen [.call law_cell_at [.var 0, .var 2]]), .fr (.nm 4) .seq [.lst [.tup [.tup [.int 0], .tup [.int 0]], .call law_house [.var 3, .int 5]]] [.asg (.tup [.nm 5, .nm 6]) (.tup [.call law_stand [.var 3, .var 4], .bin .add (.var 1) (.lst [.non, .int 0, .bl true, .lst [], .tup [], .dic [] [], .lst [.str "0 0"], .tup [.str "0 0"]])]), .fr (.nm 7) .range1 [.int 8] [.asg (.nm 8) (.call law_bent_text [.var 3, .idx (.lst [.call law_house_text [.var 4], .call law_stand_text [.var 5]]) (.bin .mod (.var 7) (.int 2))]), .asg (.nm 6) (.bin .add (.var 6) (.lst [.var 8, .call law_bent_text [.var 3, .var 8]]))], .ite (.or (.not (.blt .all [.comp (.call law_right [.var 4, .var 9]) [9] (.nm 9) .seq [.var 6] []])) (.not (.call law_none_right [.var 4, .var 5]))) [.ret (.bl false)] []]],
  .ret (.bl true)]⟩
def f_law_right_6 (law_answer law_same law_asked : Nat) : Fn := ⟨2, 4, [
  .asg (.nm 2) (.lst []),
  .fr (.nm 3) .seq [.tup [.str "show", .str "where", .str "keeps", .str "paper", .str "round", .str "ahead"]] [.ex (.mth .append (.var 2) [.call law_answer [.idx (.var 1) (.int 0), .idx (.var 1) (.int 1), .var 3]])],
  .ret (.call law_same [.lst [.call law_asked [.var 0], .call law_asked [.var 0]], .lst [.var 2, .var 2]])]⟩
def f_law_bads : Fn := ⟨0, 1, [
  .asg (.nm 0) (.lst [.str "", .str " ", .str "show ", .str " show", .str "Show", .str "show 1", .str "where 0", .str "keeps -", .str "paper 0", .str "round 1 2", .str "ahead 0", .str "sh"]),
  .asg (.nm 0) (.bin .add (.var 0) (.lst [.str "\n", .str "turn", .str "turn 0", .str "turn 0 0 0", .str "turn x 0", .str "turn 00 0", .str "turn -1 0", .str "turn 0  0", .str "turn 0 01"])),
  .asg (.nm 0) (.bin .add (.var 0) (.lst [.str "turn  0 0", .str "turn 0 10000000000000", .str "turn 0,0 0", .str "beats", .str "beats ", .str "beats -1", .str "beats 01"])),
  .asg (.nm 0) (.bin .add (.var 0) (.lst [.str "beats 1 1", .str "beats 1 ", .str "beats 10000000000000", .str "beats one", .str "beats 1\n", .str "undo 1", .str "undo "])),
  .asg (.nm 0) (.bin .add (.var 0) (.lst [.str "house", .str "stand", .str "House 0 0", .str "houses 0 0", .str "stands -@0 0@0", .str "show\n", .str "show	where", .str "ok"])),
  .ret (.bin .add (.var 0) (.lst [.str "undo undo", .str "0 0", .non, .int 7, .bl true, .tup [], .lst [.str "show"], .tup [.str "undo"], .dic [] []]))]⟩
def f_law_right_7 (bare_seat keeping lot paper off_and_long round_of shows : Nat) : Fn := ⟨2, 9, [
  .asg (.tup [.nm 2, .nm 3]) (.tup [.call bare_seat [.var 0, .var 1], .call keeping [.var 0, .var 1]]),
  .asg (.tup [.nm 4, .nm 5, .nm 6]) (.tup [.call lot [.var 0, .idx (.var 1) (.int 0)], .call paper [.var 0, .var 1], .idx (.call off_and_long [.var 0, .var 1]) (.int 0)]),
  .asg (.nm 7) (.cmp .eq (.comp (.var 8) [8] (.nm 8) .seq [.var 4] [.and (.cmp .ne (.var 8) (.var 2)) (.cmp .nin (.var 8) (.var 3))]) (.lst [])),
  .ite (.or (.cmp .ne (.cmp .eq (.var 6) (.int 0)) (.var 7)) (.or (.cmp .ne (.cmp .eq (.idx (.var 5) (.int 0)) (.str "again")) (.var 7)) (.cmp .ne (.cmp .inn (.var 1) (.call round_of [.var 0, .var 1])) (.var 7)))) [.ret (.bl false)] [],
  .ite (.or (.cmp .nis (.call shows [.var 0, .var 1, .var 5]) (.bl true)) (.call shows [.var 0, .var 1, .tup [.ife (.var 7) (.str "never") (.str "again"), .idx (.var 5) (.int 1)]])) [.ret (.bl false)] [],
  .ret (.ife (.not (.var 7)) (.not (.call shows [.var 0, .var 1, .tup [.str "again", .var 4]])) (.cmp .eq (.var 5) (.tup [.str "again", .var 4])))]⟩
def f_law_ahead_right (ahead paper back beat round_of : Nat) : Fn := ⟨2, 4, [
  .asg (.nm 2) (.comp (.var 3) [3] (.nm 3) .seq [.call ahead [.var 0, .var 1]] [.cmp .eq (.idx (.call paper [.var 0, .var 3]) (.int 0)) (.str "again")]),
  .ite (.cmp .eq (.idx (.call paper [.var 0, .var 1]) (.int 0)) (.str "never")) [.ret (.and (.cmp .eq (.var 2) (.lst [])) (.cmp .isv (.call back [.var 0, .var 1]) (.non)))] [],
  .ite (.or (.cmp .ne (.var 2) (.lst [.call back [.var 0, .var 1]])) (.cmp .ne (.call beat [.var 0, .idx (.var 2) (.int 0)]) (.var 1))) [.ret (.bl false)] [],
  .ret (.cmp .inn (.idx (.var 2) (.int 0)) (.call round_of [.var 0, .var 1]))]⟩
def f_law_k80 (law_pen law_cell_at law_house law_stand law_kept_stand law_any_stand round_of beat law_ahead_right law_right : Nat) : Fn := ⟨1, 8, [
  .fr (.nm 1) .range1 [.blt .max2 [.int 1, .blt .min2 [.blt .len [.var 0], .int 3]]] [.asg (.nm 2) (.call law_pen [.call law_cell_at [.var 0, .var 1]]), .fr (.nm 3) .range1 [.int 3] [.asg (.nm 4) (.call law_house [.var 2, .int 5]), .fr (.nm 5) .seq [.lst [.call law_stand [.var 2, .var 4], .call law_kept_stand [.var 2, .var 4], .call law_any_stand [.var 2, .var 4]]] [.asg (.nm 6) (.idx (.call round_of [.var 4, .var 5]) (.int 0)), .fr (.nm 7) .seq [.lst [.var 5, .var 6, .call beat [.var 4, .var 5]]] [.ite (.or (.not (.call law_right [.var 4, .var 7])) (.not (.call law_ahead_right [.var 4, .var 7]))) [.ret (.bl false)] []]]]],
  .ret (.bl true)]⟩
def f_law_all_right (law_all_stands ahead keeping : Nat) : Fn := ⟨1, 5, [
  .asg (.tup [.nm 1, .nm 2]) (.tup [.call law_all_stands [.var 0], .lst []]),
  .fr (.nm 3) .seq [.var 1] [.ex (.mth .extend (.var 2) [.blt .list [.call ahead [.var 0, .var 3]]])],
  .asg (.nm 4) (.blt .sum [.comp (.blt .len [.call keeping [.var 0, .var 3]]) [3] (.nm 3) .seq [.var 1] []]),
  .ret (.and (.cmp .eq (.blt .sorted [.var 2]) (.var 1)) (.cmp .eq (.var 4) (.blt .len [.var 1])))]⟩
def f_law_k81 (law_pen law_cell_at law_house law_any_stand ahead law_right law_all_right : Nat) : Fn := ⟨1, 8, [
  .fr (.nm 1) .range1 [.blt .max2 [.int 1, .blt .min2 [.blt .len [.var 0], .int 3]]] [.asg (.nm 2) (.call law_pen [.call law_cell_at [.var 0, .var 1]]), .fr (.nm 3) .range1 [.int 3] [.asg (.nm 4) (.call law_house [.var 2, .int 5]), .asg (.nm 5) (.call law_any_stand [.var 2, .var 4]), .fr (.nm 6) .seq [.bin .add (.tup [.var 5]) (.call ahead [.var 4, .var 5])] [.ite (.not (.call law_right [.var 4, .var 6])) [.ret (.bl false)] [], .fr (.nm 7) .seq [.call ahead [.var 4, .var 6]] [.ite (.not (.call law_right [.var 4, .var 7])) [.ret (.bl false)] []]]], .ite (.not (.call law_all_right [.call law_house [.var 2, .int 3]])) [.ret (.bl false)] []],
  .ret (.bl true)]⟩
def f_law_step_right (keeping lot bare_seat : Nat) : Fn := ⟨3, 10, [
  .asg (.tup [.nm 3, .nm 4, .nm 5]) (.tup [.call keeping [.var 0, .var 1], .call keeping [.var 0, .var 2], .call lot [.var 0, .idx (.var 1) (.int 0)]]),
  .asg (.nm 6) (.call bare_seat [.var 0, .var 2]),
  .ite (.or (.cmp .ne (.blt .len [.var 4]) (.bin .add (.blt .len [.var 3]) (.blt .toInt [.cmp .nin (.var 6) (.var 3)]))) (.cmp .nin (.call bare_seat [.var 0, .var 1]) (.var 4))) [.ret (.bl false)] [],
  .ite (.cmp .ne (.comp (.var 7) [7] (.nm 7) .seq [.call lot [.var 0, .idx (.var 2) (.int 0)]] [.cmp .nin (.var 7) (.var 5)]) (.lst [])) [.ret (.bl false)] [],
  .fr (.tup [.nm 8, .nm 9]) .zip [.var 1, .var 2] [.fr (.nm 7) .range1 [.blt .len [.var 0]] [.ite (.and (.cmp .nin (.var 7) (.var 5)) (.cmp .ne (.idx (.var 8) (.var 7)) (.idx (.var 9) (.var 7)))) [.ret (.bl false)] []]],
  .ret (.bl true)]⟩
def f_law_all_keep (keeping bare_seat lot : Nat) : Fn := ⟨2, 5, [
  .asg (.tup [.nm 2, .nm 3]) (.tup [.call keeping [.var 0, .var 1], .call bare_seat [.var 0, .var 1]]),
  .ret (.cmp .eq (.comp (.var 4) [4] (.nm 4) .seq [.call lot [.var 0, .idx (.var 1) (.int 0)]] [.and (.cmp .ne (.var 4) (.var 3)) (.cmp .nin (.var 4) (.var 2))]) (.lst []))]⟩
def f_law_line_right (off_and_long after keeping lot law_all_keep beat law_step_right : Nat) : Fn := ⟨2, 9, [
  .asg (.tup [.nm 2, .nm 3]) (.call off_and_long [.var 0, .var 1]),
  .asg (.nm 4) (.call after [.var 0, .var 1, .var 2]),
  .asg (.tup [.nm 5, .nm 6]) (.tup [.blt .len [.call keeping [.var 0, .var 4]], .call lot [.var 0, .idx (.var 4) (.int 0)]]),
  .fr (.nm 7) .range1 [.blt .min2 [.bin .add (.var 2) (.bin .mul (.int 2) (.var 3)), .int 400]] [.ite (.cmp .ne (.call law_all_keep [.var 0, .var 1]) (.cmp .ge (.var 7) (.var 2))) [.ret (.bl false)] [], .ite (.and (.cmp .ge (.var 7) (.var 2)) (.cmp .ne (.blt .len [.call keeping [.var 0, .var 1]]) (.var 5))) [.ret (.bl false)] [], .ite (.and (.cmp .ge (.var 7) (.var 2)) (.cmp .ne (.call lot [.var 0, .idx (.var 1) (.int 0)]) (.var 6))) [.ret (.bl false)] [], .asg (.nm 8) (.call beat [.var 0, .var 1]), .ite (.not (.call law_step_right [.var 0, .var 1, .var 8])) [.ret (.bl false)] [], .asg (.nm 1) (.var 8)],
  .ret (.bl true)]⟩
def f_law_k82 (law_pen law_cell_at law_house law_stand law_kept_stand law_line_right : Nat) : Fn := ⟨1, 6, [
  .fr (.nm 1) .range1 [.blt .max2 [.int 1, .blt .min2 [.blt .len [.var 0], .int 3]]] [.asg (.nm 2) (.call law_pen [.call law_cell_at [.var 0, .var 1]]), .fr (.nm 3) .range1 [.int 2] [.asg (.nm 4) (.call law_house [.var 2, .int 5]), .fr (.nm 5) .seq [.lst [.call law_stand [.var 2, .var 4], .call law_kept_stand [.var 2, .var 4]]] [.ite (.not (.call law_line_right [.var 4, .var 5])) [.ret (.bl false)] []]]],
  .ret (.bl true)]⟩
def f_law_calls (bare_seat : Nat) : Fn := ⟨2, 7, [
  .asg (.nm 2) (.comp (.bin .mul (.lst [.int 0]) (.blt .len [.var 3])) [3] (.nm 3) .seq [.var 0] []),
  .fr (.nm 4) .seq [.var 1] [.asg (.nm 5) (.idx (.var 2) (.call bare_seat [.var 0, .var 4])), .asg (.nm 6) (.idx (.idx (.var 4) (.int 1)) (.call bare_seat [.var 0, .var 4])), .asg (.sub (.var 5) (.var 6)) (.bin .add (.idx (.var 5) (.var 6)) (.int 1))],
  .ret (.var 2)]⟩
def f_law_k83 (law_cell_at law_pen law_house law_any_stand round_of law_names_right law_ring_right first_heard lot heard : Nat) : Fn := ⟨1, 9, [
  .fr (.nm 1) .seq [.bin .add (.lst [.call law_cell_at [.var 0, .int 0]]) (.slc (.var 0) [.int 1] [.int 3])] [.asg (.nm 2) (.call law_pen [.var 1]), .fr (.nm 3) .range1 [.int 3] [.asg (.nm 4) (.call law_house [.var 2, .int 5]), .asg (.nm 5) (.call law_any_stand [.var 2, .var 4]), .asg (.nm 6) (.call round_of [.var 4, .var 5]), .ite (.or (.not (.call law_ring_right [.var 4, .var 6])) (.not (.call law_names_right [.var 4, .var 6]))) [.ret (.bl false)] [], .asg (.nm 7) (.comp (.var 8) [8] (.nm 8) .range1 [.blt .len [.var 4]] [.cmp .nis (.call first_heard [.var 4, .var 5, .var 8]) (.non)]), .ite (.cmp .ne (.comp (.var 8) [8] (.nm 8) .seq [.var 7] [.cmp .nin (.var 8) (.call lot [.var 4, .idx (.var 5) (.int 0)])]) (.lst [])) [.ret (.bl false)] [], .ite (.cmp .ne (.comp (.var 8) [8] (.nm 8) .seq [.call lot [.var 4, .idx (.idx (.var 6) (.int 0)) (.int 0)]] [.cmp .nin (.var 8) (.var 7)]) (.lst [])) [.ret (.bl false)] [], .ite (.cmp .ne (.call heard [.var 4, .var 5]) (.call heard [.var 4, .idx (.var 6) (.int 0)])) [.ret (.bl false)] []]],
  .ret (.bl true)]⟩
def f_law_all : Fn := ⟨1, 4, [
  .asg (.nm 1) (.int 1),
  .fr (.tup [.nm 2, .nm 3]) .enum [.var 0] [.asg (.nm 1) (.bin .mul (.bin .mul (.var 1) (.bin .add (.var 2) (.int 1))) (.blt .len [.var 3]))],
  .ret (.var 1)]⟩
def f_law_counts_right (kept_counts many_again law_all lots_again rounds_by_length law_seatings many_hands : Nat) : Fn := ⟨1, 8, [
  .asg (.tup [.nm 1, .nm 2]) (.tup [.call kept_counts [.var 0], .call many_again [.var 0]]),
  .ite (.or (.cmp .ne (.blt .sum [.var 1]) (.call law_all [.var 0])) (.cmp .ne (.blt .len [.var 1]) (.blt .len [.var 0]))) [.ret (.bl false)] [],
  .ite (.cmp .ne (.blt .sum [.comp (.bin .mul (.var 3) (.var 4)) [3, 4] (.tup [.nm 3, .nm 4]) .enum [.var 1] []]) (.call law_all [.var 0])) [.ret (.bl false)] [],
  .ite (.cmp .ne (.blt .sum [.comp (.var 4) [5, 4] (.tup [.nm 5, .nm 4]) .seq [.call lots_again [.var 0]] []]) (.var 2)) [.ret (.bl false)] [],
  .ite (.cmp .ne (.blt .sum [.comp (.bin .mul (.var 6) (.var 4)) [6, 4] (.tup [.nm 6, .nm 4]) .seq [.call rounds_by_length [.var 0]] []]) (.var 2)) [.ret (.bl false)] [],
  .ite (.cmp .ne (.blt .sum [.comp (.call many_hands [.var 0, .var 7]) [7] (.nm 7) .seq [.call law_seatings [.blt .len [.var 0]]] []]) (.var 2)) [.ret (.bl false)] [],
  .ret (.chain .le .le (.int 1) (.var 2) (.bin .sub (.call law_all [.var 0]) (.idx (.var 1) (.int 0))))]⟩
def f_law_k84 (law_pen law_cell_at law_house law_counts_right law_stand law_kept_stand law_stand_right : Nat) : Fn := ⟨1, 5, [
  .fr (.nm 1) .range1 [.blt .max2 [.int 1, .blt .min2 [.blt .len [.var 0], .int 3]]] [.asg (.nm 2) (.call law_pen [.call law_cell_at [.var 0, .var 1]]), .asg (.nm 3) (.call law_house [.var 2, .int 4]), .ite (.not (.call law_counts_right [.var 3])) [.ret (.bl false)] [], .fr (.nm 4) .seq [.lst [.call law_stand [.var 2, .var 3], .call law_kept_stand [.var 2, .var 3]]] [.ite (.not (.call law_stand_right [.var 3, .var 4])) [.ret (.bl false)] []]],
  .ret (.bl true)]⟩
def f_law_named : Fn := ⟨3, 7, [
  .asg (.nm 3) (.bin .mul (.lst [.non]) (.blt .len [.var 0])),
  .fr (.tup [.nm 4, .nm 5]) .enum [.var 0] [.asg (.sub (.var 3) (.idx (.var 1) (.var 4))) (.blt .tuple [.comp (.idx (.var 2) (.var 6)) [6] (.nm 6) .seq [.var 5] []])],
  .ret (.blt .tuple [.var 3])]⟩
def f_law_seats_named : Fn := ⟨2, 3, [
  .ret (.blt .tuple [.blt .sorted [.comp (.idx (.var 1) (.var 2)) [2] (.nm 2) .seq [.var 0] []]])]⟩
def f_law_beats_right (beat law_named_stand after keeping law_seats_named ahead : Nat) : Fn := ⟨7, 9, [
  .ite (.cmp .ne (.call beat [.var 1, .var 3]) (.call law_named_stand [.call beat [.var 0, .var 2], .var 4, .var 5])) [.ret (.bl false)] [],
  .ite (.cmp .ne (.call after [.var 1, .var 3, .var 6]) (.call law_named_stand [.call after [.var 0, .var 2, .var 6], .var 4, .var 5])) [.ret (.bl false)] [],
  .ite (.cmp .ne (.call keeping [.var 1, .var 3]) (.call law_seats_named [.call keeping [.var 0, .var 2], .var 4])) [.ret (.bl false)] [],
  .asg (.nm 7) (.blt .sorted [.comp (.call law_named_stand [.var 8, .var 4, .var 5]) [8] (.nm 8) .seq [.call ahead [.var 0, .var 2]] []]),
  .ret (.cmp .eq (.call ahead [.var 1, .var 3]) (.blt .tuple [.var 7]))]⟩
def f_law_papers_right (lot law_seats_named paper many_hands shows to_be_turned : Nat) : Fn := ⟨5, 12, [
  .ite (.cmp .ne (.call lot [.var 1, .idx (.var 3) (.int 0)]) (.call law_seats_named [.call lot [.var 0, .idx (.var 2) (.int 0)], .var 4])) [.ret (.bl false)] [],
  .asg (.tup [.tup [.nm 5, .nm 6], .nm 7]) (.tup [.call paper [.var 0, .var 2], .call paper [.var 1, .var 3]]),
  .ite (.or (.cmp .ne (.idx (.var 7) (.int 0)) (.var 5)) (.cmp .ne (.blt .len [.idx (.var 7) (.int 1)]) (.blt .len [.var 6]))) [.ret (.bl false)] [],
  .asg (.nm 8) (.ife (.cmp .eq (.var 5) (.str "again")) (.call law_seats_named [.var 6, .var 4]) (.blt .tuple [.comp (.idx (.var 4) (.var 9)) [9] (.nm 9) .seq [.var 6] []])),
  .ite (.or (.cmp .nis (.call shows [.var 1, .var 3, .tup [.var 5, .var 8]]) (.bl true)) (.cmp .ne (.call many_hands [.var 1, .idx (.var 3) (.int 0)]) (.call many_hands [.var 0, .idx (.var 2) (.int 0)]))) [.ret (.bl false)] [],
  .asg (.tup [.nm 10, .nm 11]) (.tup [.call to_be_turned [.var 1, .var 3], .call to_be_turned [.var 0, .var 2]]),
  .ret (.cmp .eq (.var 10) (.ife (.cmp .isv (.var 11) (.non)) (.non) (.call law_seats_named [.var 11, .var 4])))]⟩
def f_law_rounds_right (off_and_long round_of law_named_stand heard first_heard back : Nat) : Fn := ⟨6, 10, [
  .ite (.cmp .ne (.call off_and_long [.var 1, .var 3]) (.call off_and_long [.var 0, .var 2])) [.ret (.bl false)] [],
  .asg (.nm 6) (.blt .sorted [.comp (.call law_named_stand [.var 7, .var 4, .var 5]) [7] (.nm 7) .seq [.call round_of [.var 0, .var 2]] []]),
  .ite (.cmp .ne (.blt .sorted [.call round_of [.var 1, .var 3]]) (.var 6)) [.ret (.bl false)] [],
  .fr (.nm 8) .range1 [.blt .len [.var 0]] [.ite (.cmp .ne (.idx (.call heard [.var 1, .var 3]) (.idx (.var 4) (.var 8))) (.idx (.call heard [.var 0, .var 2]) (.var 8))) [.ret (.bl false)] [], .ite (.cmp .ne (.call first_heard [.var 1, .var 3, .idx (.var 4) (.var 8)]) (.call first_heard [.var 0, .var 2, .var 8])) [.ret (.bl false)] []],
  .asg (.nm 9) (.call back [.var 0, .var 2]),
  .ret (.cmp .eq (.call back [.var 1, .var 3]) (.ife (.cmp .isv (.var 9) (.non)) (.non) (.call law_named_stand [.var 9, .var 4, .var 5])))]⟩
def f_law_k85 (law_pen law_cell_at law_house law_mixed law_named law_stand law_kept_stand law_named_stand law_draw law_beats_right law_papers_right law_rounds_right kept_counts many_again rounds_by_length : Nat) : Fn := ⟨1, 12, [
  .fr (.nm 1) .range1 [.blt .max2 [.int 1, .blt .min2 [.blt .len [.var 0], .int 2]]] [.asg (.nm 2) (.call law_pen [.call law_cell_at [.var 0, .var 1]]), .fr (.nm 3) .range1 [.int 3] [.asg (.nm 4) (.call law_house [.var 2, .idx (.lst [.int 5, .int 4, .int 3]) (.var 3)]), .asg (.nm 5) (.call law_mixed [.var 2, .blt .listR1 [.blt .len [.var 4]]]), .asg (.nm 6) (.call law_mixed [.var 2, .blt .listR1 [.bin .sub (.blt .len [.var 4]) (.int 1)]]), .asg (.nm 7) (.call law_named [.var 4, .var 5, .var 6]), .fr (.nm 8) .seq [.lst [.call law_stand [.var 2, .var 4], .call law_kept_stand [.var 2, .var 4]]] [.asg (.tup [.nm 9, .nm 10]) (.tup [.call law_named_stand [.var 8, .var 5, .var 6], .call law_draw [.var 2, .bin .pow (.int 10) (.int 12)]]), .ite (.not (.call law_beats_right [.var 4, .var 7, .var 8, .var 9, .var 5, .var 6, .var 10])) [.ret (.bl false)] [], .ite (.not (.call law_papers_right [.var 4, .var 7, .var 8, .var 9, .var 5])) [.ret (.bl false)] [], .ite (.not (.call law_rounds_right [.var 4, .var 7, .var 8, .var 9, .var 5, .var 6])) [.ret (.bl false)] []], .ite (.cmp .eq (.var 3) (.int 2)) [.asg (.nm 11) (.lst [.call kept_counts [.var 7], .call many_again [.var 7], .call rounds_by_length [.var 7]]), .ite (.cmp .ne (.var 11) (.lst [.call kept_counts [.var 4], .call many_again [.var 4], .call rounds_by_length [.var 4]])) [.ret (.bl false)] []] []]],
  .ret (.bl true)]⟩
def f_law_cut (law_draw law_mixed : Nat) : Fn := ⟨1, 5, [
  .asg (.nm 1) (.bin .add (.int 3) (.call law_draw [.var 0, .int 3])),
  .asg (.nm 2) (.bin .add (.int 2) (.call law_draw [.var 0, .bin .sub (.var 1) (.int 2)])),
  .asg (.tup [.nm 3, .nm 4]) (.tup [.call law_mixed [.var 0, .blt .listR1 [.var 1]], .call law_mixed [.var 0, .blt .listR1 [.bin .sub (.var 1) (.int 1)]]]),
  .ret (.tup [.slc (.var 3) [] [.var 2], .slc (.var 3) [.var 2] [], .slc (.var 4) [] [.bin .sub (.var 2) (.int 1)], .slc (.var 4) [.bin .sub (.var 2) (.int 1)] []])]⟩
def f_law_list (law_draw law_pick : Nat) : Fn := ⟨2, 3, [
  .ret (.blt .tuple [.comp (.call law_pick [.var 0, .var 1]) [2] (.nm 2) .range1 [.bin .add (.int 1) (.call law_draw [.var 0, .int 3])] []])]⟩
def f_law_times : Fn := ⟨2, 4, [
  .asg (.nm 2) (.int 1),
  .fr (.nm 3) .seq [.var 1] [.asg (.nm 2) (.bin .mul (.var 2) (.blt .len [.idx (.var 0) (.var 3)]))],
  .ret (.var 2)]⟩
def f_law_right_8 (lot paper shows heard off_and_long parted first_heard many_hands law_times to_be_turned : Nat) : Fn := ⟨4, 10, [
  .asg (.tup [.nm 4, .nm 5]) (.tup [.call lot [.var 0, .idx (.var 1) (.int 0)], .call paper [.var 0, .var 1]]),
  .ite (.or (.cmp .ne (.call lot [.var 2, .idx (.var 3) (.int 0)]) (.var 4)) (.or (.cmp .ne (.call paper [.var 2, .var 3]) (.var 5)) (.cmp .nis (.call shows [.var 2, .var 3, .var 5]) (.bl true)))) [.ret (.bl false)] [],
  .ite (.or (.cmp .ne (.call off_and_long [.var 2, .var 3]) (.call off_and_long [.var 0, .var 1])) (.cmp .ne (.call heard [.var 2, .var 3]) (.call heard [.var 0, .var 1]))) [.ret (.bl false)] [],
  .ite (.cmp .nis (.call parted [.var 0, .var 1, .var 2, .var 3]) (.non)) [.ret (.bl false)] [],
  .asg (.nm 6) (.comp (.var 7) [7] (.nm 7) .range1 [.blt .len [.var 0]] [.cmp .nin (.var 7) (.var 4)]),
  .ite (.cmp .ne (.comp (.var 7) [7] (.nm 7) .seq [.var 6] [.cmp .nis (.call first_heard [.var 0, .var 1, .var 7]) (.non)]) (.lst [])) [.ret (.bl false)] [],
  .fr (.nm 7) .seq [.var 4] [.ite (.cmp .ne (.call first_heard [.var 2, .var 3, .var 7]) (.call first_heard [.var 0, .var 1, .var 7])) [.ret (.bl false)] []],
  .asg (.tup [.nm 8, .nm 9]) (.tup [.call many_hands [.var 0, .idx (.var 1) (.int 0)], .call many_hands [.var 2, .idx (.var 3) (.int 0)]]),
  .ite (.cmp .ne (.bin .mul (.var 8) (.call law_times [.var 2, .var 6])) (.bin .mul (.var 9) (.call law_times [.var 0, .var 6]))) [.ret (.bl false)] [],
  .ret (.cmp .eq (.call to_be_turned [.var 2, .var 3]) (.call to_be_turned [.var 0, .var 1]))]⟩
def f_law_k86 (law_pen law_cell_at law_cut law_own law_whole law_right : Nat) : Fn := ⟨1, 13, [
  .fr (.nm 1) .range1 [.blt .max2 [.int 1, .blt .min2 [.blt .len [.var 0], .int 4]]] [.asg (.nm 2) (.call law_pen [.call law_cell_at [.var 0, .var 1]]), .fr (.nm 3) .range1 [.int 4] [.asg (.tup [.nm 4, .nm 5, .nm 6, .nm 7]) (.call law_cut [.var 2]), .asg (.nm 8) (.call law_own [.var 2, .var 4, .var 6]), .asg (.tup [.nm 9, .nm 10]) (.call law_whole [.var 2, .var 8, .var 5, .var 7]), .asg (.tup [.nm 11, .nm 12]) (.call law_whole [.var 2, .var 8, .var 5, .var 7]), .ite (.not (.call law_right [.var 9, .var 10, .var 11, .var 12])) [.ret (.bl false)] []]],
  .ret (.bl true)]⟩
def f_law_turned (least_hands : Nat) : Fn := ⟨3, 6, [
  .asg (.nm 3) (.call least_hands [.var 0, .idx (.var 1) (.int 0)]),
  .ret (.tup [.idx (.var 1) (.int 0), .blt .tuple [.comp (.ife (.cmp .inn (.var 4) (.var 2)) (.idx (.var 3) (.var 4)) (.var 5)) [4, 5] (.tup [.nm 4, .nm 5]) .enum [.idx (.var 1) (.int 1)] []]])]⟩
def f_law_does (paper off_and_long : Nat) : Fn := ⟨2, 4, [
  .asg (.tup [.nm 2, .nm 3]) (.tup [.idx (.call paper [.var 0, .var 1]) (.int 0), .idx (.call off_and_long [.var 0, .var 1]) (.int 0)]),
  .ret (.ife (.cmp .eq (.cmp .eq (.var 2) (.str "again")) (.cmp .eq (.var 3) (.int 0))) (.cmp .eq (.var 3) (.int 0)) (.non))]⟩
def f_law_stand_right (to_be_turned law_does law_turned : Nat) : Fn := ⟨3, 6, [
  .asg (.nm 3) (.call to_be_turned [.var 0, .var 1]),
  .ite (.or (.cmp .ne (.call law_does [.var 0, .var 1]) (.cmp .inn (.idx (.var 1) (.int 1)) (.var 2))) (.cmp .ne (.cmp .isv (.var 3) (.non)) (.cmp .eq (.var 2) (.lst [])))) [.ret (.bl false)] [],
  .ite (.cmp .isv (.var 3) (.non)) [.ret (.bl true)] [],
  .ite (.or (.cmp .ne (.cmp .eq (.var 3) (.tup [])) (.cmp .inn (.idx (.var 1) (.int 1)) (.var 2))) (.cmp .nis (.call law_does [.var 0, .call law_turned [.var 0, .var 1, .var 3]]) (.bl true))) [.ret (.bl false)] [],
  .fr (.nm 4) .seq [.var 3] [.ite (.cmp .nis (.call law_does [.var 0, .call law_turned [.var 0, .var 1, .comp (.var 5) [5] (.nm 5) .seq [.var 3] [.cmp .ne (.var 5) (.var 4)]]]) (.bl false)) [.ret (.bl false)] []],
  .ret (.bl true)]⟩
def f_law_k87 (law_pen law_cell_at law_house law_all_hands law_seating law_kept_stand off_and_long many_hands least_hands law_stand_right law_pick law_seatings many_again : Nat) : Fn := ⟨1, 10, [
  .fr (.nm 1) .range1 [.blt .max2 [.int 1, .blt .min2 [.blt .len [.var 0], .int 2]]] [.asg (.nm 2) (.call law_pen [.call law_cell_at [.var 0, .var 1]]), .asg (.nm 3) (.call law_house [.var 2, .int 5]), .asg (.nm 4) (.call law_all_hands [.var 3]), .fr (.nm 5) .seq [.lst [.call law_seating [.var 2, .blt .len [.var 3]], .idx (.call law_kept_stand [.var 2, .var 3]) (.int 0)]] [.asg (.nm 6) (.comp (.var 7) [7] (.nm 7) .seq [.var 4] [.cmp .eq (.idx (.call off_and_long [.var 3, .tup [.var 5, .var 7]]) (.int 0)) (.int 0)]), .ite (.cmp .ne (.call many_hands [.var 3, .var 5]) (.blt .len [.var 6])) [.ret (.bl false)] [], .ite (.cmp .ne (.call least_hands [.var 3, .var 5]) (.ife (.cmp .ne (.var 6) (.lst [])) (.idx (.var 6) (.int 0)) (.non))) [.ret (.bl false)] [], .fr (.nm 8) .range1 [.int 6] [.ite (.not (.call law_stand_right [.var 3, .tup [.var 5, .call law_pick [.var 2, .var 4]], .var 6])) [.ret (.bl false)] []]], .asg (.nm 9) (.blt .sum [.comp (.call many_hands [.var 3, .var 5]) [5] (.nm 5) .seq [.call law_seatings [.blt .len [.var 3]]] []]), .ite (.cmp .ne (.var 9) (.call many_again [.var 3])) [.ret (.bl false)] []],
  .ret (.bl true)]⟩
def f_law_bares : Fn := ⟨2, 2, [
  .ret (.bin .add (.lst [.mth .index (.var 0) [.neg (.int 1)]]) (.blt .list [.var 1]))]⟩
def f_law_called : Fn := ⟨3, 6, [
  .asg (.nm 3) (.bin .mul (.lst [.int 0]) (.blt .len [.var 0])),
  .fr (.tup [.nm 4, .nm 5]) .enum [.var 0] [.asg (.sub (.var 3) (.idx (.var 1) (.var 4))) (.ife (.cmp .ge (.var 5) (.int 0)) (.idx (.var 2) (.var 5)) (.neg (.int 1)))],
  .ret (.blt .tuple [.var 3])]⟩
def f_law_house_right (law_house law_any_stand law_draw beat bare_seat least_row fewest leads : Nat) : Fn := ⟨1, 7, [
  .asg (.nm 1) (.call law_house [.var 0, .int 5]),
  .asg (.tup [.nm 2, .nm 3]) (.tup [.call law_any_stand [.var 0, .var 1], .lst []]),
  .asg (.tup [.nm 4, .nm 5]) (.tup [.idx (.var 2) (.int 0), .idx (.var 2) (.int 0)]),
  .fr (.nm 6) .range1 [.bin .add (.int 1) (.call law_draw [.var 0, .int 9])] [.asg (.nm 2) (.call beat [.var 1, .var 2]), .ex (.mth .append (.var 3) [.call bare_seat [.var 1, .var 2]]), .ite (.or (.cmp .ne (.call fewest [.var 5, .idx (.var 2) (.int 0)]) (.int 1)) (.cmp .ne (.call least_row [.var 5, .idx (.var 2) (.int 0)]) (.tup [.idx (.var 3) (.neg (.int 1))]))) [.ret (.bl false)] [], .asg (.nm 5) (.idx (.var 2) (.int 0))],
  .ret (.and (.cmp .isv (.call leads [.var 4, .var 5, .blt .tuple [.var 3]]) (.bl true)) (.cmp .le (.call fewest [.var 4, .var 5]) (.blt .len [.var 3])))]⟩
def f_law_k88 (law_pen law_cell_at law_draw law_seating law_house_right law_three_right law_seatings fewest how_far : Nat) : Fn := ⟨1, 11, [
  .fr (.nm 1) .range1 [.blt .max2 [.int 1, .blt .min2 [.blt .len [.var 0], .int 2]]] [.asg (.nm 2) (.call law_pen [.call law_cell_at [.var 0, .var 1]]), .fr (.nm 3) .range1 [.int 3] [.asg (.nm 4) (.bin .add (.int 2) (.call law_draw [.var 2, .int 7])), .asg (.nm 5) (.comp (.call law_seating [.var 2, .var 4]) [6] (.nm 6) .range1 [.int 3] []), .ite (.or (.not (.call law_three_right [.var 2, .idx (.var 5) (.int 0), .idx (.var 5) (.int 1), .idx (.var 5) (.int 2)])) (.not (.call law_house_right [.var 2]))) [.ret (.bl false)] []], .asg (.nm 4) (.bin .add (.int 2) (.call law_draw [.var 2, .int 4])), .asg (.nm 7) (.blt .tupR2 [.neg (.int 1), .bin .sub (.var 4) (.int 1)]), .asg (.nm 8) (.comp (.call fewest [.var 7, .var 9]) [9] (.nm 9) .seq [.call law_seatings [.var 4]] []), .ite (.cmp .ne (.call how_far [.var 4]) (.blt .tuple [.comp (.mth .count (.var 8) [.var 10]) [10] (.nm 10) .range1 [.bin .add (.blt .max1 [.var 8]) (.int 1)] []])) [.ret (.bl false)] []],
  .ret (.bl true)]⟩
def f_law_otherwise (law_draw : Nat) : Fn := ⟨3, 8, [
  .asg (.tup [.nm 3, .nm 4]) (.tup [.lst [], .lst []]),
  .fr (.tup [.nm 5, .nm 6]) .zip [.var 1, .idx (.var 2) (.int 1)] [.ite (.cmp .eq (.blt .len [.var 5]) (.int 1)) [.ex (.mth .append (.var 3) [.bin .mul (.var 5) (.bin .add (.int 1) (.call law_draw [.var 0, .int 3]))]), .ex (.mth .append (.var 4) [.call law_draw [.var 0, .blt .len [.idx (.var 3) (.neg (.int 1))]]])] [.asg (.nm 7) (.call law_draw [.var 0, .blt .len [.var 5]]), .ex (.mth .append (.var 3) [.bin .add (.slc (.var 5) [.var 7] []) (.slc (.var 5) [] [.var 7])]), .ex (.mth .append (.var 4) [.bin .mod (.bin .sub (.var 6) (.var 7)) (.blt .len [.var 5])])]],
  .ret (.tup [.blt .tuple [.var 3], .tup [.idx (.var 2) (.int 0), .blt .tuple [.var 4]]])]⟩
def f_law_called_2 (law_mixed : Nat) : Fn := ⟨3, 7, [
  .asg (.nm 3) (.call law_mixed [.var 0, .blt .listR1 [.bin .sub (.blt .len [.var 1]) (.int 1)]]),
  .asg (.nm 4) (.blt .tuple [.comp (.blt .tuple [.comp (.idx (.var 3) (.var 5)) [5] (.nm 5) .seq [.var 6] []]) [6] (.nm 6) .seq [.var 1] []]),
  .ret (.tup [.var 4, .tup [.blt .tuple [.comp (.ife (.cmp .lt (.var 5) (.int 0)) (.var 5) (.idx (.var 3) (.var 5))) [5] (.nm 5) .seq [.idx (.var 2) (.int 0)] []], .idx (.var 2) (.int 1)]])]⟩
def f_law_alike_2 (parted paper keeping off_and_long : Nat) : Fn := ⟨4, 4, [
  .ite (.or (.cmp .nis (.call parted [.var 0, .var 1, .var 2, .var 3]) (.non)) (.cmp .nis (.call parted [.var 2, .var 3, .var 0, .var 1]) (.non))) [.ret (.bl false)] [],
  .ite (.or (.cmp .ne (.call keeping [.var 0, .var 1]) (.call keeping [.var 2, .var 3])) (.cmp .ne (.call paper [.var 0, .var 1]) (.call paper [.var 2, .var 3]))) [.ret (.bl false)] [],
  .ret (.cmp .eq (.idx (.call off_and_long [.var 0, .var 1]) (.int 0)) (.idx (.call off_and_long [.var 2, .var 3]) (.int 0)))]⟩
def f_law_parts_right (after bare_seat parted : Nat) : Fn := ⟨5, 8, [
  .fr (.nm 5) .range1 [.bin .add (.var 4) (.int 1)] [.asg (.tup [.nm 6, .nm 7]) (.tup [.call after [.var 0, .var 1, .var 5], .call after [.var 2, .var 3, .var 5]]), .ite (.cmp .ne (.cmp .eq (.call bare_seat [.var 0, .var 6]) (.call bare_seat [.var 2, .var 7])) (.cmp .lt (.var 5) (.var 4))) [.ret (.bl false)] [], .ite (.cmp .ne (.call parted [.var 0, .var 6, .var 2, .var 7]) (.bin .sub (.var 4) (.var 5))) [.ret (.bl false)] []],
  .ret (.bl true)]⟩
def f_law_off_right (off_and_long back round_of beat after : Nat) : Fn := ⟨3, 7, [
  .asg (.tup [.nm 3, .nm 4]) (.call off_and_long [.var 0, .var 1]),
  .ite (.or (.cmp .ne (.var 4) (.blt .len [.var 2])) (.cmp .ne (.cmp .eq (.var 3) (.int 0)) (.cmp .inn (.var 1) (.var 2)))) [.ret (.bl false)] [],
  .asg (.nm 5) (.var 1),
  .fr (.nm 6) .range1 [.blt .min2 [.var 3, .int 60]] [.ite (.or (.cmp .inn (.var 5) (.var 2)) (.or (.cmp .nis (.call back [.var 0, .var 5]) (.non)) (.cmp .ne (.call off_and_long [.var 0, .var 5]) (.tup [.bin .sub (.var 3) (.var 6), .var 4])))) [.ret (.bl false)] [], .ite (.cmp .ne (.call round_of [.var 0, .var 5]) (.var 2)) [.ret (.bl false)] [], .asg (.nm 5) (.call beat [.var 0, .var 5])],
  .ret (.and (.cmp .eq (.var 5) (.call after [.var 0, .var 1, .blt .min2 [.var 3, .int 60]])) (.cmp .inn (.call after [.var 0, .var 1, .var 3]) (.var 2)))]⟩
def f_law_beats_right_2 (law_draw law_pick after beat : Nat) : Fn := ⟨3, 7, [
  .asg (.tup [.nm 3, .nm 4]) (.comp (.call law_draw [.var 0, .call law_pick [.var 0, .lst [.int 9, .int 200, .bin .pow (.int 10) (.int 11)]]]) [5] (.nm 5) .range1 [.int 2] []),
  .asg (.nm 6) (.call after [.var 1, .call after [.var 1, .var 2, .var 3], .var 4]),
  .ite (.or (.cmp .ne (.var 6) (.call after [.var 1, .var 2, .bin .add (.var 3) (.var 4)])) (.cmp .ne (.var 6) (.call after [.var 1, .call after [.var 1, .var 2, .var 4], .var 3]))) [.ret (.bl false)] [],
  .ret (.and (.cmp .eq (.call after [.var 1, .var 2, .int 0]) (.var 2)) (.cmp .eq (.call after [.var 1, .var 2, .int 1]) (.call beat [.var 1, .var 2])))]⟩
def f_law_heard_right (first_heard off_and_long bare_seat after : Nat) : Fn := ⟨2, 8, [
  .fr (.nm 2) .range1 [.blt .len [.var 0]] [.asg (.nm 3) (.call first_heard [.var 0, .var 1, .var 2]), .ite (.cmp .isv (.var 3) (.non)) [.asg (.tup [.nm 4, .nm 5]) (.call off_and_long [.var 0, .var 1]), .asg (.nm 6) (.comp (.call bare_seat [.var 0, .call after [.var 0, .var 1, .var 7]]) [7] (.nm 7) .range1 [.bin .add (.var 4) (.var 5)] []), .ite (.cmp .inn (.var 2) (.var 6)) [.ret (.bl false)] []] [.asg (.nm 6) (.comp (.call bare_seat [.var 0, .call after [.var 0, .var 1, .var 7]]) [7] (.nm 7) .range1 [.bin .add (.var 3) (.int 1)] []), .ite (.cmp .ne (.mth .index (.var 6) [.var 2]) (.var 3)) [.ret (.bl false)] []]],
  .ret (.bl true)]⟩
def f_law_k90 (law_pen law_cell_at law_house law_any_stand law_stand round_of law_off_right law_ring_right law_beats_right law_heard_right : Nat) : Fn := ⟨1, 8, [
  .fr (.nm 1) .range1 [.blt .max2 [.int 1, .blt .min2 [.blt .len [.var 0], .int 3]]] [.asg (.nm 2) (.call law_pen [.call law_cell_at [.var 0, .var 1]]), .fr (.nm 3) .seq [.tup [.int 5, .int 4, .int 3]] [.asg (.nm 4) (.call law_house [.var 2, .var 3]), .fr (.nm 5) .seq [.lst [.call law_any_stand [.var 2, .var 4], .call law_stand [.var 2, .var 4]]] [.asg (.nm 6) (.call round_of [.var 4, .var 5]), .ite (.or (.not (.call law_ring_right [.var 2, .var 4, .var 6])) (.not (.call law_off_right [.var 4, .var 5, .var 6]))) [.ret (.bl false)] [], .ite (.not (.call law_beats_right [.var 2, .var 4, .var 5])) [.ret (.bl false)] []], .asg (.nm 7) (.call law_house [.var 2, .int 3]), .ite (.not (.call law_heard_right [.var 7, .call law_any_stand [.var 2, .var 7]])) [.ret (.bl false)] []]],
  .ret (.bl true)]⟩
def f_law_right_9 (law_mirror paper lot off_and_long heard back beat : Nat) : Fn := ⟨2, 6, [
  .asg (.tup [.nm 2, .nm 3]) (.call law_mirror [.var 0, .var 1]),
  .ite (.cmp .ne (.call paper [.var 2, .var 3]) (.tup [.str "again", .call lot [.var 0, .idx (.var 1) (.int 0)]])) [.ret (.bl false)] [],
  .ite (.cmp .ne (.call off_and_long [.var 2, .var 3]) (.call off_and_long [.var 0, .var 1])) [.ret (.bl false)] [],
  .ite (.or (.cmp .ne (.call heard [.var 2, .var 3]) (.call heard [.var 0, .var 1])) (.cmp .ne (.call law_mirror [.var 2, .var 3]) (.tup [.var 0, .var 1]))) [.ret (.bl false)] [],
  .asg (.nm 4) (.var 1),
  .fr (.nm 5) .range1 [.blt .min2 [.idx (.call off_and_long [.var 0, .var 1]) (.int 1), .int 60]] [.asg (.tup [.nm 4, .nm 3]) (.tup [.call back [.var 0, .var 4], .call beat [.var 2, .var 3]]), .ite (.or (.cmp .isv (.var 4) (.non)) (.cmp .ne (.idx (.var 4) (.int 0)) (.idx (.var 3) (.int 0)))) [.ret (.bl false)] [], .ite (.cmp .ne (.call law_mirror [.var 0, .var 4]) (.tup [.var 2, .var 3])) [.ret (.bl false)] []],
  .ret (.bl true)]⟩
def f_law_k92 (law_pen law_cell_at law_house law_kept_stand law_any_stand off_and_long law_right after law_draw : Nat) : Fn := ⟨1, 7, [
  .fr (.nm 1) .range1 [.blt .max2 [.int 1, .blt .min2 [.blt .len [.var 0], .int 3]]] [.asg (.nm 2) (.call law_pen [.call law_cell_at [.var 0, .var 1]]), .fr (.nm 3) .range1 [.int 3] [.asg (.nm 4) (.call law_house [.var 2, .int 5]), .fr (.nm 5) .seq [.lst [.call law_kept_stand [.var 2, .var 4], .call law_any_stand [.var 2, .var 4]]] [.asg (.nm 6) (.idx (.call off_and_long [.var 4, .var 5]) (.int 0)), .ite (.not (.call law_right [.var 4, .call after [.var 4, .var 5, .bin .add (.var 6) (.call law_draw [.var 2, .int 9])]])) [.ret (.bl false)] []]]],
  .ret (.bl true)]⟩
def f_law_ways_right (paper keeping law_pick shows : Nat) : Fn := ⟨3, 10, [
  .asg (.tup [.nm 3, .nm 4]) (.call paper [.var 1, .var 2]),
  .asg (.nm 5) (.call keeping [.var 1, .var 2]),
  .fr (.nm 6) .range1 [.bin .mul (.int 6) (.blt .toInt [.cmp .eq (.var 3) (.str "never")])] [.asg (.nm 7) (.comp (.var 8) [8, 9] (.tup [.nm 8, .nm 9]) .enum [.idx (.var 2) (.int 0)] [.cmp .inn (.var 9) (.idx (.var 1) (.idx (.var 4) (.neg (.int 1))))]), .asg (.nm 4) (.bin .add (.var 4) (.tup [.call law_pick [.var 0, .var 7]])), .ite (.cmp .ne (.call shows [.var 1, .var 2, .tup [.str "never", .var 4]]) (.cmp .nin (.idx (.var 4) (.neg (.int 1))) (.var 5))) [.ret (.bl false)] []],
  .ret (.bl true)]⟩
def f_law_hands_right (lot law_draw paper : Nat) : Fn := ⟨3, 7, [
  .asg (.nm 3) (.call lot [.var 1, .idx (.var 2) (.int 0)]),
  .asg (.nm 4) (.blt .tuple [.comp (.ife (.cmp .inn (.var 5) (.var 3)) (.var 6) (.call law_draw [.var 0, .blt .len [.idx (.var 1) (.var 5)]])) [5, 6] (.tup [.nm 5, .nm 6]) .enum [.idx (.var 2) (.int 1)] []]),
  .ret (.cmp .eq (.call paper [.var 1, .tup [.idx (.var 2) (.int 0), .var 4]]) (.call paper [.var 1, .var 2]))]⟩
def f_law_k93 (law_pen law_cell_at law_house law_kept_stand law_any_stand law_stand law_hands_right law_lots_right law_ways_right : Nat) : Fn := ⟨1, 6, [
  .fr (.nm 1) .range1 [.blt .max2 [.int 1, .blt .min2 [.blt .len [.var 0], .int 3]]] [.asg (.nm 2) (.call law_pen [.call law_cell_at [.var 0, .var 1]]), .fr (.nm 3) .range1 [.int 3] [.asg (.nm 4) (.call law_house [.var 2, .int 5]), .fr (.nm 5) .seq [.lst [.call law_kept_stand [.var 2, .var 4], .call law_any_stand [.var 2, .var 4], .call law_stand [.var 2, .var 4]]] [.ite (.or (.not (.call law_lots_right [.var 4, .var 5])) (.not (.call law_hands_right [.var 2, .var 4, .var 5]))) [.ret (.bl false)] [], .ite (.not (.call law_ways_right [.var 2, .var 4, .var 5])) [.ret (.bl false)] []]]],
  .ret (.bl true)]⟩
def f_law_line (law_beat : Nat) : Fn := ⟨2, 5, [
  .asg (.nm 2) (.lst [.var 1]),
  .asg (.tup [.nm 3, .nm 4]) (.tup [.dic [.var 1] [.int 0], .call law_beat [.var 0, .var 1]]),
  .whl (.cmp .nin (.var 4) (.var 3)) [.asg (.sub (.var 3) (.var 4)) (.blt .len [.var 2]), .ex (.mth .append (.var 2) [.var 4]), .asg (.nm 4) (.call law_beat [.var 0, .var 4])],
  .ret (.tup [.var 2, .idx (.var 3) (.var 4)])]⟩
def f_law_far_from (law_took : Nat) : Fn := ⟨1, 8, [
  .asg (.tup [.nm 1, .nm 2]) (.tup [.dic [.var 0] [.int 0], .lst [.var 0]]),
  .whl (.cmp .ne (.var 2) (.lst [])) [.asg (.nm 3) (.lst []), .fr (.nm 4) .seq [.var 2] [.fr (.nm 5) .seq [.comp (.var 5) [5, 6] (.tup [.nm 5, .nm 6]) .enum [.var 4] [.cmp .ge (.var 6) (.int 0)]] [.asg (.nm 7) (.call law_took [.var 4, .var 5]), .ite (.cmp .nin (.var 7) (.var 1)) [.asg (.sub (.var 1) (.var 7)) (.bin .add (.idx (.var 1) (.var 4)) (.int 1)), .ex (.mth .append (.var 3) [.var 7])] []]], .asg (.nm 2) (.var 3)],
  .ret (.var 1)]⟩
end DV
set_option linter.all false
set_option autoImplicit false
set_option maxRecDepth 100000
/-! PA: ways to walk the small language. -/
namespace DV
open PySem (Str PyData)
def RN (T : Tab) (n : Nat) : Env := ⟨callN T n, T.consts⟩
theorem callN_succ {T : Tab} {n i : Nat} {F : Fn} (h : T.fns[i]? = some F) : callN T (n + 1) i = runFn (RN T n) F := by
  funext ds st
  show (match T.fns[i]? with | some F => _ | none => _) = _
  rw [h]
  rfl
/-- a table's environment -/
structure Std (R : Env) : Prop where
  c : R.consts = consts0
theorem bare_bare (st : Sto) : st.bare.bare = st.bare := rfl
theorem esc_none (e : Option Nat) : escMin e none = e := by cases e <;> rfl
theorem bare_back (st : Sto) (e : Option Nat) : st.bare.back e = ⟨st.objs, e⟩ := by cases e <;> rfl
theorem bare_back_self (st : Sto) : st.bare.back st.esc = st := bare_back st _
mutual
theorem pure_noL : ∀ d : D, d.pure = true → d.noL = true
  | .non, _ => rfl
  | .bl _, _ => rfl
  | .int _, _ => rfl
  | .str _, _ => rfl
  | .exn _, h => by simp [D.pure] at h
  | .tup xs, h => by simp only [D.noL]; exact pures_noL xs (by simpa [D.pure] using h)
  | .tl _, h => by simp [D.pure] at h
  | .td _ _, h => by simp [D.pure] at h
  | .loc _, h => by simp [D.pure] at h
  | .fro _, h => by simp [D.pure] at h
theorem pures_noL : ∀ ds : List D, D.pures ds = true → D.noLs ds = true
  | [], _ => rfl
  | x :: xs, h => by
    simp only [D.pures, Bool.and_eq_true] at h
    simp only [D.noLs, pure_noL x h.1, pures_noL xs h.2, Bool.and_self]
end
mutual
theorem pureNoT : ∀ d : D, d.pure = true → d.noT = true
  | .non, _ => rfl
  | .bl _, _ => rfl
  | .int _, _ => rfl
  | .str _, _ => rfl
  | .exn _, h => by simp [D.pure] at h
  | .tup xs, h => by simp only [D.noT]; exact pures_noT xs (by simpa [D.pure] using h)
  | .tl _, h => by simp [D.pure] at h
  | .td _ _, h => by simp [D.pure] at h
  | .loc _, h => by simp [D.pure] at h
  | .fro _, h => by simp [D.pure] at h
theorem pures_noT : ∀ ds : List D, D.pures ds = true → D.noTs ds = true
  | [], _ => rfl
  | x :: xs, h => by
    simp only [D.pures, Bool.and_eq_true] at h
    simp only [D.noTs, pureNoT x h.1, pures_noT xs h.2, Bool.and_self]
end
theorem stl_pure {d : D} (st : Sto) (h : d.pure = true) : stl d st = (d, st) := by simp [stl, pureNoT d h]
theorem stlNoT {d : D} (st : Sto) (h : d.noT = true) : stl d st = (d, st) := by simp [stl, h]
theorem dem_noL {o : List MO} {n k : Nat} {d : D} (h : d.noL = true) : dem o n (k + 1) d = some (d, []) := by cases d <;> simp_all [dem]
theorem clean_none (n : Nat) : cleanAt none n = true := rfl
/-- the end of a call: a value without objects; what was made new is left behind -/
theorem fin_noL {st : Sto} {e : Option Nat} {o : List MO} {d : D} (h : d.noL = true) : fin st.objs.length e d ⟨st.objs ++ o, none⟩ = .ok d ⟨st.objs, e⟩ := by
  simp only [fin, clean_none, if_true, dem_noL h, List.nodup_nil]
  simp [Sto.trunc]
theorem fin_pure {st : Sto} {d : D} (h : d.pure = true) : fin st.objs.length st.esc d st.bare = .ok d st := by
  have := fin_noL (st := st) (e := st.esc) (o := []) (pure_noL d h)
  simpa [Sto.bare] using this
/-- what a call's end makes of its result, where it left the store as it was -/
theorem finC_ok {st : Sto} {d : D} : finC st.objs.length st.esc (.ok d st.bare) = .ok d st := by
  simp only [finC, Sto.bare, if_true]
  simp [Sto.back, esc_none]
/-! ### steps -/
section
variable {R : Env} {α β : Type}
@[simp] theorem bindOk (a : α) (st : Sto) (f : α → Sto → Res β) : (Res.ok a st).bind f = f a st := id rfl
@[simp] theorem bind_exc (c : Nat) (st : Sto) (f : α → Sto → Res β) : (Res.exc c st : Res α).bind f = .exc c st := id rfl
@[simp] theorem bind_bad (f : α → Sto → Res β) : (Res.bad : Res α).bind f = .bad := id rfl
@[simp] theorem stm_ok (a : α) (st : Sto) (s : Slots) (f : α → Sto → SRes) : (Res.ok a st).stm s f = f a st := id rfl
@[simp] theorem stm_exc (c : Nat) (st : Sto) (s : Slots) (f : α → Sto → SRes) : (Res.exc c st : Res α).stm s f = .exc c s st := id rfl
def SRes.seq (r : SRes) (f : Slots → Sto → SRes) : SRes :=
  match r with
  | .nxt s st => f s st
  | r => r
@[simp] theorem seq_nxt (s : Slots) (st : Sto) (f : Slots → Sto → SRes) : (SRes.nxt s st).seq f = f s st := id rfl
@[simp] theorem seq_ret (d : D) (st : Sto) (f : Slots → Sto → SRes) : (SRes.ret d st).seq f = .ret d st := id rfl
@[simp] theorem seq_exc (c : Nat) (s : Slots) (st : Sto) (f : Slots → Sto → SRes) : (SRes.exc c s st).seq f = .exc c s st := id rfl
@[simp] theorem bare_esc (st : Sto) : st.bare.esc = none := id rfl
@[simp] theorem bare_objs (st : Sto) : st.bare.objs = st.objs := id rfl
@[simp] theorem bare_bare' (st : Sto) : st.bare.bare = st.bare := id rfl
/-- what stands at a place -/
def optR (o : Option D) (st : Sto) : Res D :=
  match o with
  | some d => .ok d st
  | none => .bad
@[simp] theorem optR_some (d : D) (st : Sto) : optR (some d) st = .ok d st := id rfl
def slotR (s : Slots) (i : Nat) (st : Sto) : Res D :=
  match s[i]? with
  | some (some d) => .ok d st
  | _ => .bad
@[simp] theorem slotR_zero (d : D) (s : Slots) (st : Sto) : slotR (some d :: s) 0 st = .ok d st := id rfl
@[simp] theorem slotR_succ (x : Option D) (s : Slots) (i : Nat) (st : Sto) : slotR (x :: s) (i + 1) st = slotR s i st := id rfl
@[simp] theorem e_var (i : Nat) (s : Slots) (st : Sto) : evE R (.var i) s st = slotR s i st := by simp only [evE] <;> rfl
@[simp] theorem e_gc (k : Nat) (s : Slots) (st : Sto) : evE R (.gc k) s st = optR R.consts[k]? st := by simp only [evE] <;> rfl
@[simp] theorem e_int (i : Int) (s : Slots) (st : Sto) : evE R (.int i) s st = .ok (.int i) st := by simp only [evE]
@[simp] theorem e_str (i : Str) (s : Slots) (st : Sto) : evE R (.str i) s st = .ok (.str i) st := by simp only [evE]
@[simp] theorem e_bl (i : Bool) (s : Slots) (st : Sto) : evE R (.bl i) s st = .ok (.bl i) st := by simp only [evE]
@[simp] theorem e_non (s : Slots) (st : Sto) : evE R .non s st = .ok .non st := by simp only [evE]
/-- a display's end -/
def tupR (ds : List D) (st : Sto) : Res D := if ds.length ≤ line then .ok (.tup ds) st else .bad
def tlR (ds : List D) (st : Sto) : Res D := if ds.length ≤ line then .ok (.tl ds) st else .bad
theorem tupR_ok {ds : List D} {st : Sto} (h : ds.length ≤ line) : tupR ds st = .ok (.tup ds) st := if_pos h
theorem tlR_ok {ds : List D} {st : Sto} (h : ds.length ≤ line) : tlR ds st = .ok (.tl ds) st := if_pos h
@[simp] theorem tupR_0 (st : Sto) : tupR [] st = .ok (.tup []) st := id rfl
@[simp] theorem tupR_1 (a : D) (st : Sto) : tupR [a] st = .ok (.tup [a]) st := id rfl
@[simp] theorem tupR_2 (a b : D) (st : Sto) : tupR [a, b] st = .ok (.tup [a, b]) st := id rfl
@[simp] theorem tupR_3 (a b c : D) (st : Sto) : tupR [a, b, c] st = .ok (.tup [a, b, c]) st := id rfl
@[simp] theorem tupR_4 (a b c d : D) (st : Sto) : tupR [a, b, c, d] st = .ok (.tup [a, b, c, d]) st := id rfl
@[simp] theorem tlR_0 (st : Sto) : tlR [] st = .ok (.tl []) st := id rfl
@[simp] theorem tlR_1 (a : D) (st : Sto) : tlR [a] st = .ok (.tl [a]) st := id rfl
@[simp] theorem tlR_2 (a b : D) (st : Sto) : tlR [a, b] st = .ok (.tl [a, b]) st := id rfl
@[simp] theorem tlR_3 (a b c : D) (st : Sto) : tlR [a, b, c] st = .ok (.tl [a, b, c]) st := id rfl
@[simp] theorem tlR_4 (a b c d : D) (st : Sto) : tlR [a, b, c, d] st = .ok (.tl [a, b, c, d]) st := id rfl
@[simp] theorem e_tup (es : List Ex) (s : Slots) (st : Sto) : evE R (.tup es) s st = (evEs R es s st).bind tupR := by simp only [evE] <;> rfl
@[simp] theorem e_lst (es : List Ex) (s : Slots) (st : Sto) : evE R (.lst es) s st = (evEs R es s st).bind tlR := by simp only [evE] <;> rfl
@[simp] theorem e_dic (s : Slots) (st : Sto) : evE R (.dic [] []) s st = .ok (.td [] []) st := by simp only [evE]
@[simp] theorem e_bin (o : Bop) (a b : Ex) (s : Slots) (st : Sto) : evE R (.bin o a b) s st = (evE R a s st).bind fun x st => (evE R b s st).bind fun y st => binop o x y st := by simp only [evE]
def negR (x : D) (st : Sto) : Res D :=
  match x with
  | .int i => .ok (.int (-i)) st
  | _ => .bad
@[simp] theorem negR_int (i : Int) (st : Sto) : negR (.int i) st = .ok (.int (-i)) st := id rfl
@[simp] theorem e_neg (a : Ex) (s : Slots) (st : Sto) : evE R (.neg a) s st = (evE R a s st).bind negR := by simp only [evE] <;> rfl
@[simp] theorem asB_bl (b : Bool) (st : Sto) : asB (.bl b) st = .ok b st := id rfl
@[simp] theorem e_not (a : Ex) (s : Slots) (st : Sto) : evE R (.not a) s st = (evE R a s st).bind fun x st => (asB x st).bind fun b st => .ok (.bl (!b)) st := by simp only [evE]
@[simp] theorem e_and (a b : Ex) (s : Slots) (st : Sto) : evE R (.and a b) s st = (evE R a s st).bind fun x st => (asB x st).bind fun k st => if k then (evE R b s st).bind fun y st => (asB y st).bind fun k st => .ok (.bl k) st else .ok (.bl false) st := by simp only [evE]
@[simp] theorem e_or (a b : Ex) (s : Slots) (st : Sto) : evE R (.or a b) s st = (evE R a s st).bind fun x st => (asB x st).bind fun k st => if k then .ok (.bl true) st else (evE R b s st).bind fun y st => (asB y st).bind fun k st => .ok (.bl k) st := by simp only [evE]
@[simp] theorem e_cmp (o : Cop) (a b : Ex) (s : Slots) (st : Sto) : evE R (.cmp o a b) s st = (evE R a s st).bind fun x st => (evE R b s st).bind fun y st => cmpop o x y st := by simp only [evE]
@[simp] theorem e_chain (o p : Cop) (a b c : Ex) (s : Slots) (st : Sto) : evE R (.chain o p a b c) s st = (evE R a s st).bind fun x st => (evE R b s st).bind fun y st => (cmpop o x y st).bind fun k st => (asB k st).bind fun k st =>
      if k then (evE R c s st).bind fun z st => cmpop p y z st else .ok (.bl false) st := by simp only [evE]
@[simp] theorem e_ife (c a b : Ex) (s : Slots) (st : Sto) : evE R (.ife c a b) s st = (evE R c s st).bind fun x st => (asB x st).bind fun k st => if k then evE R a s st else evE R b s st := by simp only [evE]
@[simp] theorem e_idx (a b : Ex) (s : Slots) (st : Sto) : evE R (.idx a b) s st = (evE R a s st).bind fun x st => (evE R b s st).bind fun y st => opIdx x y st := by simp only [evE]
@[simp] theorem e_slc (a : Ex) (lo hi : List Ex) (s : Slots) (st : Sto) : evE R (.slc a lo hi) s st = (evE R a s st).bind fun x st => ((evEs R lo s st).bind iO).bind fun l st => ((evEs R hi s st).bind iO).bind fun h st => opSlc x l h st := by simp only [evE]
@[simp] theorem iO_0 (st : Sto) : iO [] st = .ok none st := id rfl
@[simp] theorem iO_1 (i : Int) (st : Sto) : iO [.int i] st = .ok (some i) st := id rfl
@[simp] theorem e_rev (a : Ex) (s : Slots) (st : Sto) : evE R (.rev a) s st = (evE R a s st).bind fun x st => opRev x st := by simp only [evE]
/-- a call: its arguments laid, what it gives -/
def finS (st : Sto) (d : D) (st' : Sto) : Res D := fin st.objs.length st.esc d st'
def finXS (st st' : Sto) : Sto := finX st.objs.length st.esc st'
def endC (st : Sto) (r : Res D) : Res D := finC st.objs.length st.esc r
def callR (R : Env) (f : Nat) (st : Sto) (r : Res (List D)) : Res D := endC st (r.bind fun ds st => R.call f ds st)
@[simp] theorem callR_ok (f : Nat) (st : Sto) (ds : List D) (st' : Sto) : callR R f st (.ok ds st') = endC st (R.call f ds st') := id rfl
@[simp] theorem endC_bare (st : Sto) (d : D) : endC st (.ok d st.bare) = .ok d st := finC_ok
@[simp] theorem endC_bare2 (st : Sto) (d : D) : endC st.bare (.ok d st.bare) = .ok d st.bare := finC_ok (st := st.bare)
@[simp] theorem bare_mk (o : List MO) (e : Option Nat) : Sto.bare ⟨o, e⟩ = ⟨o, none⟩ := id rfl
@[simp] theorem endC_mk (o : List MO) (e : Option Nat) (d : D) : endC ⟨o, e⟩ (.ok d ⟨o, none⟩) = .ok d ⟨o, e⟩ := finC_ok (st := ⟨o, e⟩)
theorem endC_len {st : Sto} {o : List MO} (h : o.length = st.objs.length) (d : D) (e : Option Nat) : endC st (.ok d ⟨o, e⟩) = .ok d ⟨o, escMin st.esc e⟩ := by
  simp only [endC, finC, h, if_true, Sto.back]
@[simp] theorem endC_exc (st : Sto) (c : Nat) (st' : Sto) : endC st (.exc c st') = .exc c (finXS st st') := id rfl
@[simp] theorem e_call (f : Nat) (es : List Ex) (s : Slots) (st : Sto) : evE R (.call f es) s st = callR R f st (evAs R es s st.bare) := by simp only [evE] <;> rfl
theorem finS_pure {st : Sto} {d : D} (h : d.pure = true) : finS st d st.bare = .ok d st := fin_pure h
theorem finS_noL {st : Sto} {o : List MO} {d : D} (h : d.noL = true) : finS st d ⟨st.objs ++ o, none⟩ = .ok d st := fin_noL h
@[simp] theorem e_blt (b : Blt) (es : List Ex) (s : Slots) (st : Sto) : evE R (.blt b es) s st = (evEs R es s st).bind fun ds st => bltRun b ds st := by simp only [evE]
@[simp] theorem e_mth (m : Mth) (r : Ex) (es : List Ex) (s : Slots) (st : Sto) : evE R (.mth m r es) s st = (evE R r s st).bind fun x st => if mthOk m x st then (evEs R es s st).bind fun ds st => mthRun m x ds st else .bad := by simp only [evE]
/-- a comprehension; its parts stand unopened -/
def compE (R : Env) (e : Ex) (cs : List Ex) (t : Tg) (k : SrcK) (s : Slots) (ds : List D) (st : Sto) : Res D := compR k t (oneB (fun s st => evC R cs s st) (fun s st => evE R e s st)) s ds st
def compE2 (R : Env) (e : Ex) (cs : List Ex) (own1 : List Nat) (t1 : Tg) (k1 : SrcK) (es1 cs1 : List Ex) (t : Tg) (k : SrcK) (s : Slots) (ds : List D) (st : Sto) : Res D := compR k t (twoB (fun s st => evC R cs s st) (fun s st => (evEs R es1 s st).bind prepS) k1 t1 own1 (oneB (fun s st => evC R cs1 s st) (fun s st => evE R e s st))) s ds st
@[simp] theorem e_comp (e : Ex) (own : List Nat) (t : Tg) (k : SrcK) (es cs : List Ex) (s : Slots) (st : Sto) : evE R (.comp e own t k es cs) s st = ((evEs R es s st).bind prepS).bind (compE R e cs t k (wipeD s own)) := by simp only [evE] <;> rfl
@[simp] theorem e_comp2 (e : Ex) (own own1 : List Nat) (t : Tg) (k : SrcK) (es cs : List Ex) (t1 : Tg) (k1 : SrcK) (es1 cs1 : List Ex) (s : Slots) (st : Sto) : evE R (.comp2 e own own1 t k es cs t1 k1 es1 cs1) s st = ((evEs R es s st).bind prepS).bind (compE2 R e cs own1 t1 k1 es1 cs1 t k (wipeD s own)) := by simp only [evE] <;> rfl
@[simp] theorem es_nil (s : Slots) (st : Sto) : evEs R [] s st = .ok [] st := by simp only [evEs]
@[simp] theorem es_cons (e : Ex) (es : List Ex) (s : Slots) (st : Sto) : evEs R (e :: es) s st = (evE R e s st).bind fun d st => (evEs R es s st).bind fun ds st => .ok (d :: ds) st := by simp only [evEs]
@[simp] theorem as_nil (s : Slots) (st : Sto) : evAs R [] s st = .ok [] st := by simp only [evAs]
@[simp] theorem as_cons (e : Ex) (es : List Ex) (s : Slots) (st : Sto) : evAs R (e :: es) s st = (evE R e s st).bind fun d st => (evAs R es s (stl d st).2).bind fun ds st' => .ok ((stl d st).1 :: ds) st' := by simp only [evAs]
@[simp] theorem c_nil (s : Slots) (st : Sto) : evC R [] s st = .ok true st := by simp only [evC]
@[simp] theorem c_one (e : Ex) (s : Slots) (st : Sto) : evC R [e] s st = (evE R e s st).bind fun d st => asB d st := by
  simp only [evC]
  cases evE R e s st with
  | ok d st1 => cases d <;> rfl
  | exc c st1 => rfl
  | bad => rfl
@[simp] theorem p_nil (st : Sto) : prepS [] st = .ok [] st := id rfl
@[simp] theorem p_cons (d : D) (ds : List D) (st : Sto) : prepS (d :: ds) st = (prepS ds (prep d st).2).bind fun ds st' => .ok ((prep d st).1 :: ds) st' := id rfl
/-! statements -/
@[simp] theorem s_nil (s : Slots) (st : Sto) : evSs R [] s st = .nxt s st := by simp only [evSs]
@[simp] theorem s_cons (x : St) (xs : List St) (s : Slots) (st : Sto) : evSs R (x :: xs) s st = (evS R x s st).seq fun s st => evSs R xs s st := by
  simp only [evSs]
  cases evS R x s st <;> rfl
@[simp] theorem s_asg (t : Tg) (e : Ex) (s : Slots) (st : Sto) : evS R (.asg t e) s st = (evE R e s st).stm s fun d st => assignTo R t (stl d st).1 s (stl d st).2 .nxt := by simp only [evS]
@[simp] theorem s_ex (e : Ex) (s : Slots) (st : Sto) : evS R (.ex e) s st = (evE R e s st).stm s fun _ st => .nxt s st := by simp only [evS]
@[simp] theorem s_ite (c : Ex) (a b : List St) (s : Slots) (st : Sto) : evS R (.ite c a b) s st = ((evE R c s st).bind asB).stm s fun k st => if k then evSs R a s st else evSs R b s st := by simp only [evS]
def whE (R : Env) (c : Ex) (b : List St) (s : Slots) (st : Sto) : SRes := whlL (fun s st => (evE R c s st).bind asB) (fun s st => evSs R b s st) turns s st
@[simp] theorem s_whl (c : Ex) (b : List St) (s : Slots) (st : Sto) : evS R (.whl c b) s st = whE R c b s st := by simp only [evS] <;> rfl
def frR (k : SrcK) (t : Tg) (b : Slots → Sto → SRes) (s : Slots) (ds : List D) (st : Sto) : SRes :=
  match srcItems k ds st with
  | some (xs, ls) => forL t b ls xs s st
  | none => .bad
def frE (R : Env) (k : SrcK) (t : Tg) (b : List St) (s : Slots) (ds : List D) (st : Sto) : SRes := frR k t (fun s st => evSs R b s st) s ds st
@[simp] theorem s_fr (t : Tg) (k : SrcK) (es : List Ex) (b : List St) (s : Slots) (st : Sto) : evS R (.fr t k es b) s st = ((evEs R es s st).bind prepS).stm s fun ds st => frE R k t b s ds st := by simp only [evS] <;> rfl
@[simp] theorem s_ret (e : Ex) (s : Slots) (st : Sto) : evS R (.ret e) s st = (evE R e s st).stm s fun d st => .ret d st := by simp only [evS]
@[simp] theorem s_retN (s : Slots) (st : Sto) : evS R .retN s st = .ret .non st := by simp only [evS]
@[simp] theorem s_raise (c : Nat) (s : Slots) (st : Sto) : evS R (.raise c) s st = .exc c s st := by simp only [evS]
@[simp] theorem s_pass (s : Slots) (st : Sto) : evS R .pass s st = .nxt s st := by simp only [evS]
/-! targets -/
@[simp] theorem at_nm (i : Nat) (d : D) (s : Slots) (st : Sto) (f : Slots → Sto → SRes) : assignTo R (.nm i) d s st f = f (s.set i (some d)) st := by simp only [assignTo, setTo]
def optT (o : Option Slots) (f : Slots → SRes) : SRes :=
  match o with
  | some s => f s
  | none => .bad
@[simp] theorem optT_some (s : Slots) (f : Slots → SRes) : optT (some s) f = f s := id rfl
@[simp] theorem at_tup (ts : List Tg) (d : D) (s : Slots) (st : Sto) (f : Slots → Sto → SRes) : assignTo R (.tup ts) d s st f = optT (setTo (.tup ts) d s) fun s => f s st := by
  simp only [assignTo]
  cases setTo (.tup ts) d s <;> rfl
@[simp] theorem at_sub (o i : Ex) (d : D) (s : Slots) (st : Sto) (f : Slots → Sto → SRes) : assignTo R (.sub o i) d s st f = (evE R o s st).stm s fun ov st => (evE R i s st).stm s fun iv st => optS (setIx ov iv d st) fun st => f s st := by simp only [assignTo]
@[simp] theorem optS_some (st : Sto) (f : Sto → SRes) : optS (some st) f = f st := id rfl
@[simp] theorem set_nm (i : Nat) (d : D) (s : Slots) : setTo (.nm i) d s = some (s.set i (some d)) := by simp only [setTo]
@[simp] theorem set_tup (ts : List Tg) (xs : List D) (s : Slots) : setTo (.tup ts) (.tup xs) s = setTos ts xs s := by simp only [setTo]
@[simp] theorem sets_nil (s : Slots) : setTos [] [] s = some s := by simp only [setTos]
@[simp] theorem sets_cons (t : Tg) (ts : List Tg) (x : D) (xs : List D) (s : Slots) : setTos (t :: ts) (x :: xs) s = (setTo t x s).bind fun s' => setTos ts xs s' := by
  simp only [setTos]
  cases setTo t x s <;> rfl
/-! a def's run -/
def endR (st : Sto) (r : SRes) : Res D :=
  match r with
  | .nxt _ st' => finS st .non st'
  | .ret d st' => finS st d st'
  | .exc c _ st' => .exc c (finXS st st')
  | _ => .bad
@[simp] theorem end_nxt (st : Sto) (s : Slots) (st' : Sto) : endR st (.nxt s st') = finS st .non st' := id rfl
@[simp] theorem end_ret (st : Sto) (d : D) (st' : Sto) : endR st (.ret d st') = finS st d st' := id rfl
@[simp] theorem end_exc (st : Sto) (c : Nat) (s : Slots) (st' : Sto) : endR st (.exc c s st') = .exc c (finXS st st') := id rfl
theorem run_eq (F : Fn) (ds : List D) (st : Sto) (h : ds.length = F.np) : runFn R F ds st = endR st (evSs R F.body (ds.map some ++ List.replicate (F.slots - F.np) none) st.bare) := by
  unfold runFn
  rw [if_pos h]
  cases evSs R F.body (ds.map some ++ List.replicate (F.slots - F.np) none) st.bare <;> rfl
/-! operations on numbers -/
@[simp] theorem add_int (i j : Int) (st : Sto) : binop .add (.int i) (.int j) st = .ok (.int (i + j)) st := id rfl
@[simp] theorem sub_int (i j : Int) (st : Sto) : binop .sub (.int i) (.int j) st = .ok (.int (i - j)) st := id rfl
theorem mul_int {i j : Int} {st : Sto} (h : mulOk i j = true) : binop .mul (.int i) (.int j) st = .ok (.int (i * j)) st := by simp only [binop, opMul, h, if_true]
theorem mod_int {i j : Int} {st : Sto} (h : 0 < j) : binop .mod (.int i) (.int j) st = .ok (.int (i % j)) st := by simp only [binop, opMod, if_pos h]
theorem fdiv_int {i j : Int} {st : Sto} (h : 0 < j ∧ j < 2 ^ 64) : binop .fdiv (.int i) (.int j) st = .ok (.int (i / j)) st := by simp only [binop, opFdiv, if_pos h]
@[simp] theorem lt_int (i j : Int) (st : Sto) : cmpop .lt (.int i) (.int j) st = .ok (.bl (decide (i < j))) st := id rfl
@[simp] theorem le_int (i j : Int) (st : Sto) : cmpop .le (.int i) (.int j) st = .ok (.bl (decide (i ≤ j))) st := id rfl
@[simp] theorem gt_int (i j : Int) (st : Sto) : cmpop .gt (.int i) (.int j) st = .ok (.bl (decide (j < i))) st := id rfl
@[simp] theorem ge_int (i j : Int) (st : Sto) : cmpop .ge (.int i) (.int j) st = .ok (.bl (decide (j ≤ i))) st := id rfl
theorem eqv_int (i j : Int) : PyData.eqv (.int i) (.int j) = decide (i = j) := by simp only [PyData.eqv]; exact Bool.beq_eq_decide_eq i j
@[simp] theorem data_int (i : Int) (st : Sto) : st.data (.int i) = some (.int i) := id rfl
@[simp] theorem eq_int (i j : Int) (st : Sto) : cmpop .eq (.int i) (.int j) st = .ok (.bl (decide (i = j))) st := by
  simp only [cmpop, opEq, eqD, data_int, eqv_int, blO]
@[simp] theorem ne_int (i j : Int) (st : Sto) : cmpop .ne (.int i) (.int j) st = .ok (.bl (!decide (i = j))) st := by
  simp only [cmpop, opNe, eqD, data_int, eqv_int]
/-! sequences -/
theorem add_tup {xs ys : List D} {st : Sto} (h : xs.length + ys.length ≤ line) : binop .add (.tup xs) (.tup ys) st = .ok (.tup (xs ++ ys)) st := by simp only [binop, opAdd, if_pos h]
@[simp] theorem seq_tup (xs : List D) (st : Sto) : st.seq (.tup xs) = some xs := id rfl
@[simp] theorem seq_tl (xs : List D) (st : Sto) : st.seq (.tl xs) = some xs := id rfl
@[simp] theorem seq_fro (xs : List D) (st : Sto) : st.seq (.fro xs) = some xs := id rfl
theorem atIx_nat (xs : List α) (k : Nat) : atIx xs (k : Int) = xs[k]? := by
  unfold atIx ixOf
  rw [if_pos (Int.natCast_nonneg k)]
  by_cases h : k < xs.length
  · rw [if_pos (by omega)]; rfl
  · rw [if_neg (by omega), List.getElem?_eq_none (by omega)]; rfl
theorem atIx_pos {xs : List α} {i : Int} (h : 0 ≤ i) : atIx xs i = xs[i.toNat]? := by
  obtain ⟨k, rfl⟩ := Int.eq_ofNat_of_zero_le h
  exact atIx_nat xs k
@[simp] theorem idx_tup (xs : List D) (i : Int) (st : Sto) : opIdx (.tup xs) (.int i) st = optR (atIx xs i) st := by
  simp only [opIdx, seq_tup, optR]
  all_goals (cases atIx xs i <;> rfl)
@[simp] theorem idx_tl (xs : List D) (i : Int) (st : Sto) : opIdx (.tl xs) (.int i) st = optR (atIx xs i) st := by
  simp only [opIdx, seq_tl, optR]
  all_goals (cases atIx xs i <;> rfl)
@[simp] theorem idx_fro (xs : List D) (i : Int) (st : Sto) : opIdx (.fro xs) (.int i) st = optR (atIx xs i) st := by
  simp only [opIdx, seq_fro, optR]
  all_goals (cases atIx xs i <;> rfl)
theorem slc_tup {xs : List D} {lo hi : Option Int} {st : Sto} (h : D.noTs xs = true) : opSlc (.tup xs) lo hi st = .ok (.tup (cutD xs lo hi)) st := by simp only [opSlc, h, if_true]
theorem cut_to (xs : List α) (k : Nat) : cutD xs none (some (k : Int)) = xs.take k := by
  unfold cutD cutIx
  dsimp only
  rw [if_neg (by omega)]
  simp only [Int.toNat_natCast, List.drop_zero, Nat.sub_zero]
  by_cases h : k ≤ xs.length
  · rw [Nat.min_eq_left h]
  · rw [Nat.min_eq_right (by omega), List.take_of_length_le (by omega), List.take_of_length_le (by omega)]
theorem cut_from (xs : List α) (k : Nat) : cutD xs (some (k : Int)) none = xs.drop k := by
  unfold cutD cutIx
  dsimp only
  rw [if_neg (by omega)]
  simp only [Int.toNat_natCast]
  by_cases h : k ≤ xs.length
  · rw [Nat.min_eq_left h, List.take_of_length_le (by simp)]
  · rw [Nat.min_eq_right (by omega)]
    simp
    omega
theorem set_cut {xs : List α} {k : Nat} {d : α} (h : k < xs.length) : xs.take k ++ [d] ++ xs.drop (k + 1) = xs.set k d := by
  rw [List.set_eq_take_append_cons_drop, if_pos h, List.append_assoc]; rfl
@[simp] theorem mthOk_index (xs : List D) (st : Sto) : mthOk .index (.tup xs) st = true := id rfl
@[simp] theorem mthOk_count (xs : List D) (st : Sto) : mthOk .count (.tup xs) st = true := id rfl
@[simp] theorem len_tup (xs : List D) (st : Sto) : bltRun .len [.tup xs] st = .ok (.int xs.length) st := id rfl
@[simp] theorem len_tl (xs : List D) (st : Sto) : bltRun .len [.tl xs] st = .ok (.int xs.length) st := id rfl
@[simp] theorem len_fro (xs : List D) (st : Sto) : bltRun .len [.fro xs] st = .ok (.int xs.length) st := id rfl
@[simp] theorem tuple_tup (xs : List D) (st : Sto) : bltRun .tuple [.tup xs] st = .ok (.tup xs) st := id rfl
@[simp] theorem tuple_tl (xs : List D) (st : Sto) : bltRun .tuple [.tl xs] st = .ok (.tup xs) st := id rfl
@[simp] theorem list_tup (xs : List D) (st : Sto) : bltRun .list [.tup xs] st = .ok (.tl xs) st := id rfl
@[simp] theorem list_tl (xs : List D) (st : Sto) : bltRun .list [.tl xs] st = .ok (.tl xs) st := id rfl
end
end DV
set_option linter.all false
set_option autoImplicit false
set_option maxRecDepth 100000
/-! PB: values as data, comprehensions, loops. -/
namespace DV
open PySem (Str PyData)
section
variable {R : Env} {α β : Type}
theorem pures_mem {ds : List D} : D.pures ds = true ↔ ∀ d ∈ ds, d.pure = true := by
  induction ds with
  | nil => simp [D.pures]
  | cons x xs ih => simp [D.pures, ih]
theorem pures_map {xs : List α} {f : α → D} (h : ∀ x ∈ xs, (f x).pure = true) : D.pures (xs.map f) = true := by
  rw [pures_mem]
  intro d hd
  obtain ⟨x, hx, rfl⟩ := List.mem_map.mp hd
  exact h x hx
theorem pures_set {xs : List D} {k : Nat} {d : D} (h : D.pures xs = true) (hd : d.pure = true) : D.pures (xs.set k d) = true := by
  rw [pures_mem] at *
  intro y hy
  rcases List.mem_or_eq_of_mem_set hy with q | rfl
  · exact h y q
  · exact hd
@[simp] theorem pure_tup (xs : List D) : (D.tup xs).pure = D.pures xs := by simp [D.pure]
@[simp] theorem pure_int (i : Int) : (D.int i).pure = true := by simp only [D.pure]
@[simp] theorem pure_str (i : Str) : (D.str i).pure = true := by simp only [D.pure]
@[simp] theorem pure_bl (i : Bool) : (D.bl i).pure = true := by simp only [D.pure]
@[simp] theorem pure_non : D.non.pure = true := by simp only [D.pure]
@[simp] theorem pures_nil : D.pures [] = true := by simp only [D.pures]
@[simp] theorem pures_cons (x : D) (xs : List D) : D.pures (x :: xs) = (x.pure && D.pures xs) := by simp only [D.pures]
@[simp] theorem pures_append (xs ys : List D) : D.pures (xs ++ ys) = (D.pures xs && D.pures ys) := by
  induction xs with
  | nil => simp
  | cons x xs ih => simp [ih, Bool.and_assoc]
@[simp] theorem pures_ints (xs : List Int) : D.pures (xs.map D.int) = true := pures_map fun _ _ => rfl
@[simp] theorem noT_tup (xs : List D) : (D.tup xs).noT = D.noTs xs := by simp [D.noT]
@[simp] theorem noT_int (i : Int) : (D.int i).noT = true := by simp only [D.noT]
@[simp] theorem noT_str (i : Str) : (D.str i).noT = true := by simp only [D.noT]
@[simp] theorem noT_bl (i : Bool) : (D.bl i).noT = true := by simp only [D.noT]
@[simp] theorem noT_loc (l : Nat) : (D.loc l).noT = true := by simp only [D.noT]
@[simp] theorem noT_fro (l : List D) : (D.fro l).noT = true := by simp only [D.noT]
@[simp] theorem noT_non : D.non.noT = true := by simp only [D.noT]
@[simp] theorem noTs_nil : D.noTs [] = true := by simp only [D.noTs]
@[simp] theorem noTs_cons (x : D) (xs : List D) : D.noTs (x :: xs) = (x.noT && D.noTs xs) := by simp only [D.noTs]
theorem noTs_mem {ds : List D} : D.noTs ds = true ↔ ∀ d ∈ ds, d.noT = true := by
  induction ds with
  | nil => simp [D.noTs]
  | cons x xs ih => simp [D.noTs, ih]
/-! laying -/
@[simp] theorem stl_int (i : Int) (st : Sto) : stl (.int i) st = (.int i, st) := id rfl
@[simp] theorem stl_str (i : Str) (st : Sto) : stl (.str i) st = (.str i, st) := id rfl
@[simp] theorem stl_bl (i : Bool) (st : Sto) : stl (.bl i) st = (.bl i, st) := id rfl
@[simp] theorem stl_non (st : Sto) : stl .non st = (.non, st) := id rfl
@[simp] theorem stl_loc (l : Nat) (st : Sto) : stl (.loc l) st = (.loc l, st) := id rfl
@[simp] theorem stl_fro (l : List D) (st : Sto) : stl (.fro l) st = (.fro l, st) := id rfl
theorem stl_tup {xs : List D} {st : Sto} (h : D.noTs xs = true) : stl (.tup xs) st = (.tup xs, st) := stlNoT st (by simpa using h)
@[simp] theorem prep_int (i : Int) (st : Sto) : prep (.int i) st = (.int i, st) := id rfl
@[simp] theorem prep_loc (l : Nat) (st : Sto) : prep (.loc l) st = (.loc l, st) := id rfl
@[simp] theorem prep_fro (l : List D) (st : Sto) : prep (.fro l) st = (.fro l, st) := id rfl
theorem prep_tup {xs : List D} {st : Sto} (h : D.noTs xs = true) : prep (.tup xs) st = (.tup xs, st) := stl_tup h
theorem prep_tl {xs : List D} {st : Sto} (h : D.noTs xs = true) : prep (.tl xs) st = (.tl xs, st) := by simp [prep, h]
/-! data -/
/-- a type whose values stand as values of the language -/
class Enc (α : Type) where
  toD : α → D
  dat : α → PyData
  dep : Nat
  pur : ∀ a, (toD a).pure = true
  toPd : ∀ o k a, dep ≤ k → DV.toP o k (toD a) = some (dat a)
  inj : ∀ a b, PyData.eqv (dat a) (dat b) = true ↔ a = b
  alk : ∀ a b, PySem.W.alike (dat a) (dat b) = true
open Enc
instance : Enc Int where
  toD i := .int i
  dat i := .int i
  dep := 1
  pur _ := rfl
  toPd o k a h := by cases k with | zero => omega | succ k => rfl
  inj a b := by rw [eqv_int, decide_eq_true_eq]
  alk _ _ := by simp [PySem.W.alike]
instance : Enc Nat where
  toD i := .int (i : Int)
  dat i := .int (i : Int)
  dep := 1
  pur _ := rfl
  toPd o k a h := by cases k with | zero => omega | succ k => rfl
  inj a b := by rw [eqv_int, decide_eq_true_eq]; omega
  alk _ _ := by simp [PySem.W.alike]
instance : Enc Bool where
  toD i := .bl i
  dat i := .bool i
  dep := 1
  pur _ := rfl
  toPd o k a h := by cases k with | zero => omega | succ k => rfl
  inj a b := by cases a <;> cases b <;> simp [PyData.eqv]
  alk _ _ := by simp [PySem.W.alike]
theorem mapO_map {f : β → Option PyData} {g : α → β} {h : α → PyData} (e : ∀ a, f (g a) = some (h a)) : ∀ xs : List α, mapO f (xs.map g) = some (xs.map h)
  | [] => rfl
  | x :: xs => by simp only [List.map_cons, mapO, e, mapO_map e xs, Option.map_some]
theorem mapO_mem {f : β → Option α} {h : β → α} : ∀ {xs : List β}, (∀ x ∈ xs, f x = some (h x)) → mapO f xs = some (xs.map h)
  | [], _ => rfl
  | x :: xs, e => by simp only [List.map_cons, mapO, e x (by simp), mapO_mem fun y hy => e y (List.mem_cons_of_mem _ hy), Option.map_some]
theorem eqvAll_inj [Enc α] : ∀ xs ys : List α, PyData.eqvAll (xs.map dat) (ys.map dat) = true ↔ xs = ys
  | [], [] => by simp [PyData.eqvAll]
  | [], _ :: _ => by simp [PyData.eqvAll]
  | _ :: _, [] => by simp [PyData.eqvAll]
  | x :: xs, y :: ys => by simp [PyData.eqvAll, inj, eqvAll_inj xs ys]
theorem alikeAll_enc [Enc α] : ∀ xs ys : List α, PySem.W.alikeAll (xs.map dat) (ys.map dat) = true
  | [], _ => by simp [PySem.W.alikeAll]
  | _ :: _, [] => by simp [PySem.W.alikeAll]
  | x :: xs, y :: ys => by simp [PySem.W.alikeAll, alk, alikeAll_enc xs ys]
instance [Enc α] : Enc (List α) where
  toD xs := .tup (xs.map toD)
  dat xs := .tuple (xs.map dat)
  dep := dep α + 1
  pur xs := by rw [pure_tup]; exact pures_map fun a _ => pur a
  toPd o k xs h := by
    cases k with
    | zero => omega
    | succ k =>
      show (mapO (DV.toP o k) (xs.map toD)).map PyData.tuple = _
      rw [mapO_map (h := dat) fun a => toPd o k a (by omega)]
      rfl
  inj a b := by rw [PyData.eqv, eqvAll_inj]
  alk a b := by rw [PySem.W.alike]; exact alikeAll_enc a b
instance [Enc α] [Enc β] : Enc (α × β) where
  toD p := .tup [toD p.1, toD p.2]
  dat p := .tuple [dat p.1, dat p.2]
  dep := max (dep α) (dep β) + 1
  pur p := by simp [pur]
  toPd o k p h := by
    cases k with
    | zero => omega
    | succ k =>
      show (mapO (DV.toP o k) [toD p.1, toD p.2]).map PyData.tuple = _
      simp only [mapO, toPd o k p.1 (by omega), toPd o k p.2 (by omega), Option.map_some]
  inj a b := by simp [PyData.eqv, PyData.eqvAll, inj, Prod.ext_iff]
  alk a b := by simp [PySem.W.alike, PySem.W.alikeAll, alk]
@[simp] theorem toD_int (i : Int) : toD i = .int i := id rfl
@[simp] theorem toD_nat (i : Nat) : toD i = .int (i : Int) := id rfl
@[simp] theorem toD_bool (i : Bool) : toD i = .bl i := id rfl
theorem toD_list [Enc α] (xs : List α) : toD xs = .tup (xs.map toD) := rfl
theorem toD_prod [Enc α] [Enc β] (p : α × β) : toD p = .tup [toD p.1, toD p.2] := rfl
@[simp] theorem pure_toD [Enc α] (a : α) : (toD a).pure = true := pur a
@[simp] theorem noT_toD [Enc α] (a : α) : (toD a).noT = true := pureNoT _ (pur a)
@[simp] theorem noL_toD [Enc α] (a : α) : (toD a).noL = true := pure_noL _ (pur a)
@[simp] theorem stl_toD [Enc α] (a : α) (st : Sto) : stl (toD a) st = (toD a, st) := stlNoT st (noT_toD a)
theorem noTs_map {xs : List α} {f : α → D} (h : ∀ a ∈ xs, (f a).noT = true) : D.noTs (xs.map f) = true := by
  rw [noTs_mem]
  intro d hd
  obtain ⟨x, hx, rfl⟩ := List.mem_map.mp hd
  exact h x hx
theorem noLs_mem {ds : List D} : D.noLs ds = true ↔ ∀ d ∈ ds, d.noL = true := by
  induction ds with
  | nil => simp [D.noLs]
  | cons x xs ih => simp [D.noLs, ih]
theorem noLs_map {xs : List α} {f : α → D} (h : ∀ a ∈ xs, (f a).noL = true) : D.noLs (xs.map f) = true := by
  rw [noLs_mem]
  intro d hd
  obtain ⟨x, hx, rfl⟩ := List.mem_map.mp hd
  exact h x hx
@[simp] theorem noTs_enc [Enc α] (xs : List α) : D.noTs (xs.map toD) = true := noTs_map fun a _ => noT_toD a
@[simp] theorem noLs_enc [Enc α] (xs : List α) : D.noLs (xs.map toD) = true := noLs_map fun a _ => noL_toD a
@[simp] theorem pures_enc [Enc α] (xs : List α) : D.pures (xs.map toD) = true := pures_map fun a _ => pur a
@[simp] theorem prep_toD [Enc α] (a : α) (st : Sto) : prep (toD a) st = (toD a, st) := by
  have h := noT_toD a
  unfold prep
  split
  · rename_i xs e
    rw [e] at h
    simp [D.noT] at h
  · exact stlNoT st h
theorem data_toD [Enc α] (h : dep α ≤ 16) (st : Sto) (a : α) : st.data (toD a) = some (dat a) := toPd st.objs tops a h
theorem mapO_toD [Enc α] (h : dep α ≤ 16) (st : Sto) (xs : List α) : mapO st.data (xs.map toD) = some (xs.map dat) := mapO_map (fun a => data_toD h st a) xs
theorem eqv_dec [Enc α] [DecidableEq α] (a b : α) : PyData.eqv (dat a) (dat b) = decide (a = b) := by
  rw [Bool.eq_iff_iff, inj, decide_eq_true_eq]
theorem eqD_toD [Enc α] [DecidableEq α] (h : dep α ≤ 16) (st : Sto) (a b : α) : eqD st (toD a) (toD b) = some (decide (a = b)) := by
  simp only [eqD, data_toD h, eqv_dec]
theorem eq_toD [Enc α] [DecidableEq α] (h : dep α ≤ 16) (st : Sto) (a b : α) : cmpop .eq (toD a) (toD b) st = .ok (.bl (decide (a = b))) st := by
  simp only [cmpop, opEq, eqD_toD h, blO]
theorem ne_toD [Enc α] [DecidableEq α] (h : dep α ≤ 16) (st : Sto) (a b : α) : cmpop .ne (toD a) (toD b) st = .ok (.bl (!decide (a = b))) st := by
  simp only [cmpop, opNe, eqD_toD h]
theorem dataIn_toD [Enc α] [DecidableEq α] (h : dep α ≤ 16) (st : Sto) (xs : List α) (a : α) : dataIn st (xs.map toD) (toD a) = some (decide (a ∈ xs)) := by
  simp only [dataIn, mapO_toD h, data_toD h]
  congr 1
  rw [Bool.eq_iff_iff, List.any_eq_true, decide_eq_true_eq]
  constructor
  · rintro ⟨p, hp, e⟩
    obtain ⟨b, hb, rfl⟩ := List.mem_map.mp hp
    rw [inj] at e
    rw [← e]; exact hb
  · intro ha
    exact ⟨dat a, List.mem_map.mpr ⟨a, ha, rfl⟩, (inj a a).mpr rfl⟩
theorem findMap {p : β → Bool} {f : α → β} : ∀ xs : List α, (xs.map f).findIdx? p = xs.findIdx? fun a => p (f a)
  | [] => rfl
  | x :: xs => by simp only [List.map_cons, List.findIdx?_cons, findMap xs]
theorem dataFind_toD [Enc α] [DecidableEq α] (h : dep α ≤ 16) (st : Sto) (xs : List α) (a : α) : dataFind st (xs.map toD) (toD a) = some (xs.findIdx? fun b => decide (b = a)) := by
  simp only [dataFind, mapO_toD h, data_toD h, findMap, eqv_dec]
theorem findIdx_idxOf [DecidableEq α] {xs : List α} {a : α} (h : a ∈ xs) : (xs.findIdx? fun b => decide (b = a)) = some (xs.idxOf a) := by
  induction xs with
  | nil => cases h
  | cons x xs ih =>
    rw [List.findIdx?_cons, List.idxOf_cons]
    by_cases e : x = a
    · simp [e]
    · have e2 : (x == a) = false := by simpa using e
      rw [e2]
      simp only [e, decide_false, Bool.false_eq_true, if_false, cond_false]
      rcases List.mem_cons.mp h with q | q
      · exact absurd q.symm e
      · rw [ih q]; rfl
theorem dataCount_toD [Enc α] [DecidableEq α] (h : dep α ≤ 16) (st : Sto) (xs : List α) (a : α) : dataCount st (xs.map toD) (toD a) = some (xs.count a) := by
  simp only [dataCount, mapO_toD h, data_toD h, List.countP_map, List.count]
  congr 1
  apply List.countP_congr
  intro b _
  simp [inj]
theorem in_seq [Enc α] [DecidableEq α] (h : dep α ≤ 16) {st : Sto} {d : D} {xs : List α} (hs : st.seq d = some (xs.map toD)) (a : α) : cmpop .inn (toD a) d st = .ok (.bl (decide (a ∈ xs))) st := by
  simp only [cmpop, opIn, hs, dataIn_toD h, blO]
theorem nin_seq [Enc α] [DecidableEq α] (h : dep α ≤ 16) {st : Sto} {d : D} {xs : List α} (hs : st.seq d = some (xs.map toD)) (a : α) : cmpop .nin (toD a) d st = .ok (.bl (!decide (a ∈ xs))) st := by
  simp only [cmpop, opNin, opIn, hs, dataIn_toD h, blO, notB]
theorem index_seq [Enc α] [DecidableEq α] (h : dep α ≤ 16) {st : Sto} {d : D} {xs : List α} (hs : st.seq d = some (xs.map toD)) {a : α} (ha : a ∈ xs) : mthRun .index d [toD a] st = .ok (.int (xs.idxOf a)) st := by
  simp only [mthRun, indexD, hs, dataFind_toD h, findIdx_idxOf ha]
theorem count_seq [Enc α] [DecidableEq α] (h : dep α ≤ 16) {st : Sto} {d : D} {xs : List α} (hs : st.seq d = some (xs.map toD)) (a : α) : mthRun .count d [toD a] st = .ok (.int (xs.count a)) st := by
  simp only [mthRun, countD, hs, dataCount_toD h]
@[simp] theorem seq_list [Enc α] (xs : List α) (st : Sto) : st.seq (toD xs) = some (xs.map toD) := id rfl
/-! sorting -/
def leE [Enc α] (a b : α) : Bool := !PySem.W.dataLt (dat b) (dat a)
theorem zip_map_self {f : α → β} : ∀ xs : List α, xs.zip (xs.map f) = xs.map fun a => (a, f a)
  | [] => rfl
  | x :: xs => by simp [zip_map_self xs]
theorem zip_maps {γ : Type} (f : α → β) (g : α → γ) : ∀ xs : List α, (xs.map f).zip (xs.map g) = xs.map fun a => (f a, g a)
  | [] => rfl
  | x :: xs => by simp [zip_maps f g xs]
theorem flat_one (g : α → β) : ∀ xs : List α, (xs.flatMap fun y => [g y]) = xs.map g
  | [] => rfl
  | x :: xs => by rw [List.flatMap_cons, flat_one g xs]; rfl
theorem sortD_toD [Enc α] (h : dep α ≤ 16) (st : Sto) (xs : List α) (hl : xs.length ≤ line) (hk : (∀ a ∈ xs, tupleB (dat a) = true) ∨ ∀ a ∈ xs, otherB (dat a) = true) : sortD st (xs.map toD) = some ((xs.mergeSort leE).map toD) := by
  have h1 : alikeB (xs.map dat) = true := by
    simp only [alikeB, List.all_eq_true]
    intro x hx y hy
    obtain ⟨a, _, rfl⟩ := List.mem_map.mp hx
    obtain ⟨b, _, rfl⟩ := List.mem_map.mp hy
    exact alk a b
  have h2 : ((xs.map dat).all tupleB || (xs.map dat).all otherB) = true := by
    rw [Bool.or_eq_true, List.all_eq_true, List.all_eq_true]
    refine hk.imp (fun k d hd => ?_) fun k d hd => ?_ <;>
    · obtain ⟨a, ha, rfl⟩ := List.mem_map.mp hd
      exact k a ha
  simp only [sortD, mapO_toD h, h1, h2, List.length_map, hl, decide_true, noTs_enc, Bool.and_self, if_true]
  congr 1
  have e : (xs.map toD).zip (xs.map dat) = xs.map fun a => (toD a, dat a) := zip_maps _ _ xs
  rw [e]
  have m : (xs.map fun a => (toD a, dat a)).mergeSort (PySem.W.dataLe false Prod.snd) = (xs.mergeSort leE).map fun a => (toD a, dat a) := by
    rw [List.map_mergeSort]
    intro a _ b _
    rfl
  rw [m, List.map_map]
  rfl
theorem sorted_seq [Enc α] (h : dep α ≤ 16) {st : Sto} {d : D} {xs : List α} (hs : st.seq d = some (xs.map toD)) (hl : xs.length ≤ line) (hk : (∀ a ∈ xs, tupleB (dat a) = true) ∨ ∀ a ∈ xs, otherB (dat a) = true) : bltRun .sorted [d] st = .ok (.tl ((xs.mergeSort leE).map toD)) st := by
  simp only [bltRun, sortedD, hs, sortD_toD h st xs hl hk]
/-! comprehensions -/
theorem stays_self (ls : List Nat) (st : Sto) : stays ls st st = true := by simp [stays]
theorem compB_pure {t : Tg} {b : Slots → Sto → Res (List D)} {ls : List Nat} {s : Slots} {st : Sto} {f : α → List D} {h : α → D} : ∀ {ys : List α}, (∀ y ∈ ys, ∃ s', setTo t (h y) s = some s' ∧ b s' st = .ok (f y) st) → compB t b ls s (ys.map h) st = .ok (ys.flatMap f) st
  | [], _ => rfl
  | y :: ys, H => by
    obtain ⟨s', h1, h2⟩ := H y (by simp)
    simp only [List.map_cons, compB, h1, h2, bindOk, stays_self, if_true, compB_pure fun z hz => H z (List.mem_cons_of_mem _ hz), List.flatMap_cons]
theorem comp_flat {k : SrcK} {t : Tg} {b : Slots → Sto → Res (List D)} {s : Slots} {ds : List D} {ls : List Nat} {st : Sto} (f : α → List D) {h : α → D} {ys : List α} (hs : srcItems k ds st = some (ys.map h, ls)) (hl : (ys.flatMap f).length ≤ line) (H : ∀ y ∈ ys, ∃ s', setTo t (h y) s = some s' ∧ b s' st = .ok (f y) st) :
    compR k t b s ds st = .ok (.tl (ys.flatMap f)) st := by
  simp only [compR, hs, compB_pure H, noX, bindOk, lstD, hl, if_true]
theorem comp_map {k : SrcK} {t : Tg} {c : Slots → Sto → Res Bool} {e : Slots → Sto → Res D} {s : Slots} {ds : List D} {ls : List Nat} {st : Sto} (g : α → D) {h : α → D} {ys : List α} (hs : srcItems k ds st = some (ys.map h, ls)) (hl : ys.length ≤ line)
    (H : ∀ y ∈ ys, ∃ s', setTo t (h y) s = some s' ∧ c s' st = .ok true st ∧ e s' st = .ok (g y) st) :
    compR k t (oneB c e) s ds st = .ok (.tl (ys.map g)) st := by
  have z := comp_flat (b := oneB c e) (t := t) (s := s) (fun y => [g y]) hs (by rw [flat_one, List.length_map]; exact hl) fun y hy => by
    obtain ⟨s', h1, h2, h3⟩ := H y hy
    exact ⟨s', h1, by simp [oneB, h2, h3]⟩
  rw [flat_one] at z
  exact z
theorem comp_if {k : SrcK} {t : Tg} {c : Slots → Sto → Res Bool} {e : Slots → Sto → Res D} {s : Slots} {ds : List D} {ls : List Nat} {st : Sto} (p : α → Bool) (g : α → D) {h : α → D} {ys : List α} (hs : srcItems k ds st = some (ys.map h, ls)) (hl : ys.length ≤ line)
    (H : ∀ y ∈ ys, ∃ s', setTo t (h y) s = some s' ∧ c s' st = .ok (p y) st ∧ (p y = true → e s' st = .ok (g y) st)) :
    compR k t (oneB c e) s ds st = .ok (.tl ((ys.filter p).map g)) st := by
  have en : ∀ zs : List α, (zs.flatMap fun y => if p y then [g y] else []) = (zs.filter p).map g := fun zs => by
    induction zs with
    | nil => rfl
    | cons z zs ih =>
      rw [List.flatMap_cons, ih, List.filter_cons]
      cases p z <;> simp
  have z := comp_flat (b := oneB c e) (t := t) (s := s) (fun y => if p y then [g y] else []) hs (by rw [en, List.length_map]; exact Nat.le_trans (List.length_filter_le _ _) hl) fun y hy => by
    obtain ⟨s', h1, h2, h3⟩ := H y hy
    refine ⟨s', h1, ?_⟩
    cases q : p y with
    | true => simp [oneB, h2, h3 q, q]
    | false => simp [oneB, h2, q]
  rw [en] at z
  exact z
/-- [e for t in ..] where the store stays -/
theorem compE_map {e : Ex} {t : Tg} {k : SrcK} {s : Slots} {ds : List D} {ls : List Nat} {st : Sto} (g : α → D) {h : α → D} {ys : List α} (hs : srcItems k ds st = some (ys.map h, ls)) (hl : ys.length ≤ line)
    (H : ∀ y ∈ ys, ∃ s', setTo t (h y) s = some s' ∧ evE R e s' st = .ok (g y) st) : compE R e [] t k s ds st = .ok (.tl (ys.map g)) st := by
  unfold compE
  refine comp_map g hs hl fun y hy => ?_
  obtain ⟨s', h1, h2⟩ := H y hy
  exact ⟨s', h1, by simp, h2⟩
/-- [e for t in .. if c] -/
theorem compE_if {e c : Ex} {t : Tg} {k : SrcK} {s : Slots} {ds : List D} {ls : List Nat} {st : Sto} (p : α → Bool) (g : α → D) {h : α → D} {ys : List α} (hs : srcItems k ds st = some (ys.map h, ls)) (hl : ys.length ≤ line)
    (H : ∀ y ∈ ys, ∃ s', setTo t (h y) s = some s' ∧ evE R c s' st = .ok (.bl (p y)) st ∧ (p y = true → evE R e s' st = .ok (g y) st)) : compE R e [c] t k s ds st = .ok (.tl ((ys.filter p).map g)) st := by
  unfold compE
  refine comp_if p g hs hl fun y hy => ?_
  obtain ⟨s', h1, h2, h3⟩ := H y hy
  exact ⟨s', h1, by simp [h2], h3⟩
/-! what is walked -/
@[simp] theorem src_tup (xs : List D) (st : Sto) : srcItems .seq [.tup xs] st = some (xs, []) := id rfl
@[simp] theorem src_tl (xs : List D) (st : Sto) : srcItems .seq [.tl xs] st = some (xs, []) := id rfl
@[simp] theorem src_fro (xs : List D) (st : Sto) : srcItems .seq [.fro xs] st = some (xs, []) := id rfl
theorem rangeD_nat (n : Nat) : rangeD 0 (n : Int) = (List.range n).map toD := by
  unfold rangeD
  simp
theorem src_range {n : Nat} {st : Sto} (h : n < 2 ^ 61) : srcItems .range1 [.int (n : Int)] st = some ((List.range n).map toD, []) := by
  have : rangeOk 0 (n : Int) = true := by
    simp only [rangeOk, Bool.and_eq_true, decide_eq_true_eq]
    omega
  simp only [srcItems, this, if_true, rangeD_nat]
/-- the whole numbers from a on -/
def rangeI (a : Int) (n : Nat) : List Int := (List.range n).map fun (j : Nat) => a + j
theorem rangeD_int (a : Int) (n : Nat) : rangeD a (a + n) = (rangeI a n).map toD := by
  unfold rangeD rangeI
  rw [show (a + (n : Int) - a).toNat = n by omega, List.map_map]
  rfl
theorem src_range2 {a b : Int} {n : Nat} {st : Sto} (hb : b = a + n) (h1 : -(2 ^ 61) ≤ a) (h2 : b < 2 ^ 61) : srcItems .range2 [.int a, .int b] st = some ((rangeI a n).map toD, []) := by
  subst hb
  have : rangeOk a (a + n) = true := by
    simp only [rangeOk, Bool.and_eq_true, decide_eq_true_eq]
    omega
  simp only [srcItems, this, if_true, rangeD_int]
theorem enum_map {f : α → D} (xs : List α) : enumD (xs.map f) = (xs.zipIdx).map fun p => .tup [.int (p.2 : Int), f p.1] := by
  unfold enumD
  rw [List.mapIdx_eq_zipIdx_map, List.zipIdx_map, List.map_map]
  rfl
theorem src_enum {d : D} {st : Sto} {xs : List α} {f : α → D} (h : st.seq d = some (xs.map f)) : ∃ ls, srcItems .enum [d] st = some ((xs.zipIdx).map fun p => .tup [.int (p.2 : Int), f p.1], ls) := by
  simp only [srcItems, seqL, h, Option.map_some, enum_map]
  exact ⟨_, rfl⟩
theorem src_enum_tup (xs : List α) (f : α → D) (st : Sto) : srcItems .enum [.tup (xs.map f)] st = some ((xs.zipIdx).map fun p => .tup [.int (p.2 : Int), f p.1], []) := by
  simp only [srcItems, seqL, seq_tup, Option.map_some, enum_map]
/-! loops -/
theorem forL_inv {t : Tg} {b : Slots → Sto → SRes} {ls : List Nat} {h : α → D} (P : List α → Slots → Sto → Prop) : ∀ (rest done : List α) (s : Slots) (st : Sto), P done s st →
    (∀ (pre : List α) (y : α) (post : List α) (s : Slots) (st : Sto), done ++ rest = pre ++ y :: post → P pre s st → ∃ s1 s2 st2, setTo t (h y) s = some s1 ∧ b s1 st = .nxt s2 st2 ∧ stays ls st st2 = true ∧ P (pre ++ [y]) s2 st2) →
    ∃ s' st', forL t b ls (rest.map h) s st = .nxt s' st' ∧ P (done ++ rest) s' st'
  | [], done, s, st, h0, _ => ⟨s, st, rfl, by simpa using h0⟩
  | y :: rest, done, s, st, h0, H => by
    obtain ⟨s1, s2, st2, e1, e2, e3, h1⟩ := H done y rest s st rfl h0
    obtain ⟨s', st', e4, h4⟩ := forL_inv P rest (done ++ [y]) s2 st2 h1 (by simpa using H)
    refine ⟨s', st', ?_, by simpa using h4⟩
    simp only [List.map_cons, forL, e1, e2, e3, if_true]
    exact e4
/-- a for by its invariant -/
theorem for_inv {k : SrcK} {t : Tg} {b : List St} {ds : List D} {ls : List Nat} {h : α → D} {ys : List α} {s : Slots} {st : Sto} (P : List α → Slots → Sto → Prop) (hs : srcItems k ds st = some (ys.map h, ls)) (h0 : P [] s st)
    (H : ∀ (pre : List α) (y : α) (post : List α) (s : Slots) (st : Sto), ys = pre ++ y :: post → P pre s st → ∃ s1 s2 st2, setTo t (h y) s = some s1 ∧ evSs R b s1 st = .nxt s2 st2 ∧ stays ls st st2 = true ∧ P (pre ++ [y]) s2 st2) :
    ∃ s' st', frE R k t b s ds st = .nxt s' st' ∧ P ys s' st' := by
  simp only [frE, frR, hs]
  exact forL_inv P ys [] s st h0 (by simpa using H)
/-- a while by its invariant and a measure -/
theorem whl_inv {c : Slots → Sto → Res Bool} {b : Slots → Sto → SRes} (P : Nat → Slots → Sto → Prop) (Q : Slots → Sto → Prop)
    (H : ∀ m s st, P m s st → (∃ st1, c s st = .ok false st1 ∧ Q s st1) ∨ ∃ st1 s2 st2 m', c s st = .ok true st1 ∧ b s st1 = .nxt s2 st2 ∧ m' < m ∧ P m' s2 st2) :
    ∀ (m n : Nat) (s : Slots) (st : Sto), m < n → P m s st → ∃ s' st', whlL c b n s st = .nxt s' st' ∧ Q s' st'
  | m, 0, s, st, hn, _ => by omega
  | m, n + 1, s, st, hn, hp => by
    rcases H m s st hp with ⟨st1, e, q⟩ | ⟨st1, s2, st2, m', e1, e2, hm, hp2⟩
    · exact ⟨s, st1, by simp [whlL, e], q⟩
    · obtain ⟨s', st', e3, q⟩ := whl_inv P Q H m' n s2 st2 (by omega) hp2
      refine ⟨s', st', ?_, q⟩
      simp only [whlL, e1, stm_ok, if_true, e2]
      exact e3
theorem while_inv {c : Ex} {b : List St} (P : Nat → Slots → Sto → Prop) (Q : Slots → Sto → Prop)
    (H : ∀ m s st, P m s st → (∃ st1, evE R c s st = .ok (.bl false) st1 ∧ Q s st1) ∨ ∃ st1 s2 st2 m', evE R c s st = .ok (.bl true) st1 ∧ evSs R b s st1 = .nxt s2 st2 ∧ m' < m ∧ P m' s2 st2)
    (m : Nat) (s : Slots) (st : Sto) (hm : m < turns) (h : P m s st) : ∃ s' st', whE R c b s st = .nxt s' st' ∧ Q s' st' := by
  unfold whE
  refine whl_inv P Q (fun m s st hp => ?_) m turns s st hm h
  rcases H m s st hp with ⟨st1, e, q⟩ | ⟨st1, s2, st2, m', e1, e2, hm, hp2⟩
  · exact .inl ⟨st1, by simp [e], q⟩
  · exact .inr ⟨st1, s2, st2, m', by simp [e1], e2, hm, hp2⟩
end
end DV
set_option linter.all false
set_option autoImplicit false
set_option maxRecDepth 100000
/-! PC: what the program's looks tell. -/
namespace DV
open PySem (Str PyData)
open Enc
abbrev Run := List D → Sto → Res D
section
variable {R : Env}
def isInt : D → Bool
  | .int _ => true
  | _ => false
def withinD (a b : Int) : D → Bool
  | .int i => decide (a ≤ i) && decide (i ≤ b)
  | _ => false
def itemsD : D → List D
  | .tup xs => xs
  | _ => []
def longD (a b : Int) : D → Bool
  | .tup xs => decide (a ≤ (xs.length : Int)) && decide ((xs.length : Int) ≤ b)
  | _ => false
mutual
def fineD (st : Sto) : D → Bool
  | .tup xs => finesD st xs
  | d => isOk st d
def finesD (st : Sto) : List D → Bool
  | [] => true
  | x :: xs => fineD st x && finesD st xs
end
theorem finesD_mem {st : Sto} {ds : List D} : finesD st ds = true ↔ ∀ d ∈ ds, fineD st d = true := by
  induction ds with
  | nil => simp [finesD]
  | cons x xs ih => simp [finesD, ih]
mutual
theorem fine_pure {st : Sto} : ∀ {d : D}, d.pure = true → fineD st d = true
  | .non, _ => rfl
  | .bl _, _ => rfl
  | .int _, _ => rfl
  | .str _, _ => rfl
  | .exn _, h => by simp [D.pure] at h
  | .tup xs, h => by simp only [fineD]; exact fines_pure (by simpa [D.pure] using h)
  | .tl _, h => by simp [D.pure] at h
  | .td _ _, h => by simp [D.pure] at h
  | .loc _, h => by simp [D.pure] at h
  | .fro _, h => by simp [D.pure] at h
theorem fines_pure {st : Sto} : ∀ {ds : List D}, D.pures ds = true → finesD st ds = true
  | [], _ => rfl
  | x :: xs, h => by
    simp only [D.pures, Bool.and_eq_true] at h
    simp only [finesD, fine_pure h.1, fines_pure h.2, Bool.and_self]
end
mutual
theorem fine_bare {st : Sto} : ∀ {d : D}, fineD st.bare d = fineD st d
  | .non => rfl
  | .bl _ => rfl
  | .int _ => rfl
  | .str _ => rfl
  | .exn _ => rfl
  | .tup xs => by simp only [fineD]; exact fines_bare
  | .tl _ => rfl
  | .td _ _ => rfl
  | .loc _ => rfl
  | .fro _ => rfl
theorem fines_bare {st : Sto} : ∀ {ds : List D}, finesD st.bare ds = finesD st ds
  | [] => rfl
  | x :: xs => by simp only [finesD, fine_bare, fines_bare]
end
theorem fine_ok {st : Sto} {d : D} (h : fineD st d = true) : isOk st d = true := by cases d <;> first | rfl | exact h
theorem is_int {st : Sto} {d : D} (h : isOk st d = true) : bltRun .isInt [d] st = .ok (.bl (isT .int d)) st := by simp only [bltRun, isD, h, if_true]
theorem is_bool {st : Sto} {d : D} (h : isOk st d = true) : bltRun .isBool [d] st = .ok (.bl (isT .bool d)) st := by simp only [bltRun, isD, h, if_true]
theorem is_str {st : Sto} {d : D} (h : isOk st d = true) : bltRun .isStr [d] st = .ok (.bl (isT .str d)) st := by simp only [bltRun, isD, h, if_true]
theorem is_tup {st : Sto} {d : D} (h : isOk st d = true) : bltRun .isTup [d] st = .ok (.bl d.isTup) st := by simp only [bltRun, isD, h, if_true] <;> rfl
theorem whole_is (d : D) : (isT .int d && !isT .bool d) = isInt d := by cases d <;> rfl
theorem and_run (a b : Bool) (st : Sto) : (if a = true then (Res.ok (D.bl b) st) else Res.ok (D.bl false) st) = .ok (.bl (a && b)) st := by cases a <;> rfl
def S_is_whole (g : Run) : Prop := ∀ (d : D) (st : Sto), fineD st d = true → g [d] st = .ok (.bl (isInt d)) st
theorem b_is_whole : S_is_whole (runFn R f_is_whole) := by
  intro d st h
  have h' : isOk st.bare d = true := by rw [← fine_bare] at h; exact fine_ok h
  rw [run_eq _ _ _ rfl]
  simp [f_is_whole, is_int h', is_bool h', and_run, whole_is, finS_pure]
def S_is_within (g : Run) : Prop := ∀ (d : D) (a b : Int) (st : Sto), fineD st d = true → d.noT = true → g [d, .int a, .int b] st = .ok (.bl (withinD a b d)) st
theorem b_is_within {i : Nat} (h1 : S_is_whole (R.call i)) : S_is_within (runFn R (f_is_within i)) := by
  intro d a b st h hn
  rw [run_eq _ _ _ rfl]
  have e := h1 d st.bare (by rw [fine_bare]; exact h)
  cases d <;> simp [f_is_within, stlNoT _ hn, e, isInt, withinD, finS_pure, and_run]
def S_is_long (g : Run) : Prop := ∀ (d : D) (a b : Int) (st : Sto), fineD st d = true → g [d, .int a, .int b] st = .ok (.bl (longD a b d)) st
theorem b_is_long : S_is_long (runFn R f_is_long) := by
  intro d a b st h
  rw [run_eq _ _ _ rfl]
  have h' : isOk st.bare d = true := by rw [← fine_bare] at h; exact fine_ok h
  cases d <;> simp [f_is_long, is_tup h', D.isTup, longD, finS_pure, and_run]
theorem all_bls {α : Type} (p : α → Bool) : ∀ xs : List α, mapO blOf (xs.map fun x => D.bl (p x)) = some (xs.map p)
  | [] => rfl
  | x :: xs => by simp only [List.map_cons, mapO, blOf, all_bls p xs, Option.map_some]
theorem all_tl {α : Type} (p : α → Bool) (xs : List α) (st : Sto) : bltRun .all [.tl (xs.map fun x => D.bl (p x))] st = .ok (.bl (xs.all p)) st := by
  simp only [bltRun, allD, Sto.list, D.isTup, Bool.false_eq_true, if_false, seq_tl, all_bls, List.all_map]
  rfl
def lstD' (many : Int) (d : D) : Bool := longD 1 3 d && (itemsD d).all (withinD 0 (many - 2))
theorem noTs_get {xs : List D} (h : (D.tup xs).noT = true) : ∀ x ∈ xs, x.noT = true := noTs_mem.mp (by simpa using h)
theorem fines_get {st : Sto} {xs : List D} (h : fineD st (.tup xs) = true) : ∀ x ∈ xs, fineD st x = true := finesD_mem.mp (by simpa [fineD] using h)
def S_is_list (g : Run) : Prop := ∀ (many : Int) (d : D) (st : Sto), fineD st d = true → d.noT = true → g [.int many, d] st = .ok (.bl (lstD' many d)) st
theorem b_is_list {i j : Nat} (hR : Std R) (h1 : S_is_within (R.call i)) (h2 : S_is_long (R.call j)) : S_is_list (runFn R (f_is_list i j)) := by
  intro many d st h hn
  rw [run_eq _ _ _ rfl]
  have hb : fineD st.bare d = true := by rw [fine_bare]; exact h
  have e := h2 d 1 3 st.bare hb
  cases q : longD 1 3 d with
  | false => simp [f_is_list, hR.c, consts0, stlNoT _ hn, e, q, lstD', finS_pure]
  | true =>
    cases d <;> simp only [longD, Bool.false_eq_true] at q
    rename_i xs
    have hl : xs.length ≤ line := by simp at q; show xs.length ≤ 16777216; omega
    have z := compE_map (R := R) (e := .call i [.var 2, .int 0, .bin .sub (.var 0) (.int 2)]) (k := .seq) (t := .nm 2) (s := [some (.int many), some (.tup xs), none]) (ds := [.tup xs]) (ls := []) (st := st.bare) (h := id) (ys := xs) (fun x => .bl (withinD 0 (many - 2) x)) (by simp) hl fun x hx => by
      refine ⟨_, set_nm _ _ _, ?_⟩
      have e1 := h1 x 0 (many - 2) st.bare (fines_get hb x hx) (noTs_get hn x hx)
      simp [stlNoT _ (noTs_get hn x hx), e1]
    have e3 : longD 1 3 (.tup xs) = true := q
    simp [f_is_list, hR.c, consts0, stlNoT _ hn, e, e3, lstD', prep_tup (by simpa using hn), wipeD, z, all_tl, itemsD, finS_pure]
@[simp] theorem finXS_bare (st : Sto) : finXS st st.bare = st := by
  simp [finXS, finX, clean_none, Sto.trunc]
def houseD (d : D) : Bool := longD 2 5 d && (itemsD d).all (lstD' (itemsD d).length)
def S_is_house (g : Run) : Prop := ∀ (d : D) (st : Sto), fineD st d = true → d.noT = true → g [d] st = .ok (.bl (houseD d)) st
theorem b_is_house {i j : Nat} (hR : Std R) (h1 : S_is_list (R.call i)) (h2 : S_is_long (R.call j)) : S_is_house (runFn R (f_is_house i j)) := by
  intro d st h hn
  rw [run_eq _ _ _ rfl]
  have hb : fineD st.bare d = true := by rw [fine_bare]; exact h
  have e := h2 d 2 5 st.bare hb
  cases q : longD 2 5 d with
  | false => simp [f_is_house, hR.c, consts0, stlNoT _ hn, e, q, houseD, finS_pure]
  | true =>
    cases d <;> simp only [longD, Bool.false_eq_true] at q
    rename_i xs
    have hl : xs.length ≤ line := by simp at q; show xs.length ≤ 16777216; omega
    have e3 : longD 2 5 (.tup xs) = true := q
    simp [f_is_house, hR.c, consts0, stlNoT _ hn, e, e3, houseD, prep_tup (by simpa using hn), wipeD, itemsD]
    rw [compE_map (h := id) (ys := xs) (ls := []) (fun x => .bl (lstD' xs.length x)) (by simp) hl ?H]
    · simp [all_tl, finS_pure]
    · intro x hx
      have e1 := h1 xs.length x st.bare (fines_get hb x hx) (noTs_get hn x hx)
      exact ⟨_, set_nm _ _ _, by simp [stlNoT _ hn, stlNoT _ (noTs_get hn x hx), e1]⟩
def S_need_house (c : Nat) (g : Run) : Prop := ∀ (d : D) (st : Sto), fineD st d = true → d.noT = true → g [d] st = if houseD d then .ok .non st else .exc c st
theorem b_need_house {i c : Nat} (h1 : S_is_house (R.call i)) : S_need_house c (runFn R (f_need_house i c)) := by
  intro d st h hn
  rw [run_eq _ _ _ rfl]
  have hb : fineD st.bare d = true := by rw [fine_bare]; exact h
  cases q : houseD d <;> simp [f_need_house, stlNoT _ hn, h1 d st.bare hb hn, q, finS_pure]
/-! seatings -/
theorem eq_tl {α : Type} [Enc α] [DecidableEq α] (h : dep α + 1 ≤ 16) (st : Sto) (xs ys : List α) : cmpop .eq (.tl (xs.map toD)) (.tl (ys.map toD)) st = .ok (.bl (decide (xs = ys))) st := by
  have e : ∀ zs : List α, st.data (.tl (zs.map toD)) = some (.list (zs.map dat)) := fun zs => by
    show (mapO (toP st.objs 15) (zs.map toD)).map PyData.list = _
    rw [mapO_map (h := dat) fun a => toPd st.objs 15 a (by omega)]
    rfl
  simp only [cmpop, opEq, eqD, e, blO, PyData.eqv]
  congr 2
  rw [Bool.eq_iff_iff, eqvAll_inj, decide_eq_true_eq]
def intsD (xs : List D) : List Int := xs.filterMap intO
theorem ints_of {a b : Int} : ∀ {xs : List D}, xs.all (withinD a b) = true → xs = (intsD xs).map toD
  | [], _ => rfl
  | x :: xs, h => by
    simp only [List.all_cons, Bool.and_eq_true] at h
    cases x <;> simp only [withinD, Bool.false_eq_true, false_and] at h
    conv => lhs; rw [ints_of h.2]
    simp [intsD, intO]
def seatD (n : Nat) (d : D) : Bool := longD n n d && (itemsD d).all (withinD (-1) (n - 2)) && decide ((intsD (itemsD d)).mergeSort leE = rangeI (-1) n)
theorem rangeI_length (a : Int) (n : Nat) : (rangeI a n).length = n := by simp [rangeI]
theorem listR2_run {a b : Int} {n : Nat} {st : Sto} (hb : b = a + n) (h1 : -(2 ^ 61) ≤ a) (h2 : b < 2 ^ 61) (h3 : n ≤ line) : bltRun .listR2 [.int a, .int b] st = .ok (.tl ((rangeI a n).map toD)) st := by
  subst hb
  have r : rangeOk a (a + n) = true := by
    simp only [rangeOk, Bool.and_eq_true, decide_eq_true_eq]
    omega
  have d : decide (a + (n : Int) - a ≤ (line : Int)) = true := by
    rw [decide_eq_true_eq]
    omega
  simp only [bltRun, listR2, int2, intO, r, d, Bool.and_self, if_true, rangeD_int]
theorem tupR2_run {a b : Int} {n : Nat} {st : Sto} (hb : b = a + n) (h1 : -(2 ^ 61) ≤ a) (h2 : b < 2 ^ 61) (h3 : n ≤ line) : bltRun .tupR2 [.int a, .int b] st = .ok (.tup ((rangeI a n).map toD)) st := by
  subst hb
  have r : rangeOk a (a + n) = true := by
    simp only [rangeOk, Bool.and_eq_true, decide_eq_true_eq]
    omega
  have d : decide (a + (n : Int) - a ≤ (line : Int)) = true := by
    rw [decide_eq_true_eq]
    omega
  simp only [bltRun, tupR2, int2, intO, r, d, Bool.and_self, if_true, rangeD_int]
theorem listR1_gen {i : Int} {st : Sto} (r : rangeOk 0 i = true) (d : decide (i ≤ line) = true) : bltRun .listR1 [.int i] st = .ok (.tl (rangeD 0 i)) st := by
  simp only [bltRun, listR1, int1, intO, r, d, Bool.and_self, if_true]
theorem listR1_run {n : Nat} {st : Sto} (h3 : n ≤ line) : bltRun .listR1 [.int (n : Int)] st = .ok (.tl ((List.range n).map toD)) st := by
  have h5 : n < 2 ^ 61 := Nat.lt_of_le_of_lt h3 (by decide)
  have r : rangeOk 0 (n : Int) = true := by
    clear h3
    simp only [rangeOk, Bool.and_eq_true, decide_eq_true_eq]
    omega
  rw [listR1_gen r (decide_eq_true (Int.ofNat_le.mpr h3)), rangeD_nat]
def S_is_seating_of (g : Run) : Prop := ∀ (n : Nat) (d : D) (st : Sto), 1 ≤ n → n ≤ 1000 → fineD st d = true → d.noT = true → g [.int n, d] st = .ok (.bl (seatD n d)) st
theorem b_is_seating_of {i j : Nat} (hR : Std R) (h1 : S_is_within (R.call i)) (h2 : S_is_long (R.call j)) : S_is_seating_of (runFn R (f_is_seating_of i j)) := by
  intro n d st hn1 hn2 h hn
  rw [run_eq _ _ _ rfl]
  have hb : fineD st.bare d = true := by rw [fine_bare]; exact h
  have e := h2 d n n st.bare hb
  cases q : longD n n d with
  | false => simp [f_is_seating_of, hR.c, consts0, stlNoT _ hn, e, q, seatD, finS_pure]
  | true =>
    cases d <;> simp only [longD, Bool.false_eq_true] at q
    rename_i xs
    have hl : xs.length ≤ line := by simp at q; show xs.length ≤ 16777216; omega
    have e3 : longD n n (.tup xs) = true := q
    simp [f_is_seating_of, hR.c, consts0, stlNoT _ hn, e, e3, seatD, prep_tup (by simpa using hn), wipeD, itemsD]
    rw [compE_map (h := id) (ys := xs) (ls := []) (fun x => .bl (withinD (-1) (n - 2) x)) (by simp) hl ?H]
    · cases q2 : xs.all (withinD (-1) (n - 2)) with
      | false => simp [all_tl, q2, finS_pure]
      | true =>
        have ei := ints_of q2
        have es := sorted_seq (α := Int) (by decide) (st := st.bare) (d := .tup xs) (xs := intsD xs) (by rw [seq_tup, ← ei]) (by rw [← List.length_map (f := toD), ← ei]; exact hl) (.inr fun a _ => rfl)
        have er := listR2_run (a := -1) (b := (n : Int) - 1) (n := n) (st := st.bare) (by omega) (by omega) (by omega) (show n ≤ 16777216 by omega)
        have eq := eq_tl (α := Int) (by decide) st.bare ((intsD xs).mergeSort leE) (rangeI (-1) n)
        simp [all_tl, q2, es, er, eq, finS_pure]
        rfl
    · intro x hx
      have e1 := h1 x (-1) (n - 2) st.bare (fines_get hb x hx) (noTs_get hn x hx)
      exact ⟨_, set_nm _ _ _, by simp [hR.c, consts0, stlNoT _ (noTs_get hn x hx), e1]⟩
end
end DV
set_option linter.all false
set_option autoImplicit false
set_option maxRecDepth 100000
/-! PD: typed values. -/
namespace DV
open PySem (Str PyData)
open Enc
section
variable {R : Env} {α β : Type} [Enc α] [Enc β]
def mapD (xs : List α) : List D := xs.map toD
@[simp] theorem mapD_length (xs : List α) : (mapD xs).length = xs.length := List.length_map _
@[simp] theorem mapD_nil : mapD ([] : List α) = [] := id rfl
theorem mapD_cons (x : α) (xs : List α) : mapD (x :: xs) = toD x :: mapD xs := rfl
@[simp] theorem tup_mapD (xs : List α) : D.tup (mapD xs) = toD xs := id rfl
theorem mapD_append (xs ys : List α) : mapD (xs ++ ys) = mapD xs ++ mapD ys := List.map_append
theorem mapD_snoc (xs : List α) (x : α) : mapD xs ++ [toD x] = mapD (xs ++ [x]) := (mapD_append xs [x]).symm
@[simp] theorem mapD_snocI (xs : List Int) (x : Int) : mapD xs ++ [D.int x] = mapD (xs ++ [x]) := mapD_snoc xs x
@[simp] theorem mapD_snocL (xs : List (List α)) (x : List α) : mapD xs ++ [toD x] = mapD (xs ++ [x]) := mapD_snoc xs x
@[simp] theorem mapD_snocP (xs : List (α × β)) (x : α × β) : mapD xs ++ [toD x] = mapD (xs ++ [x]) := mapD_snoc xs x
@[simp] theorem mapD_app (xs ys : List α) : mapD xs ++ mapD ys = mapD (xs ++ ys) := (mapD_append xs ys).symm
theorem mapD_get (xs : List α) (k : Nat) : (mapD xs)[k]? = xs[k]?.map toD := List.getElem?_map
theorem mapD_set (xs : List α) (k : Nat) (x : α) : (mapD xs).set k (toD x) = mapD (xs.set k x) := (List.map_set).symm
@[simp] theorem noTs_mapD (xs : List α) : D.noTs (mapD xs) = true := noTs_enc xs
@[simp] theorem noLs_mapD (xs : List α) : D.noLs (mapD xs) = true := noLs_enc xs
@[simp] theorem pures_mapD (xs : List α) : D.pures (mapD xs) = true := pures_enc xs
@[simp] theorem dep_int : dep Int = 1 := id rfl
@[simp] theorem dep_nat : dep Nat = 1 := id rfl
@[simp] theorem dep_bool : dep Bool = 1 := id rfl
@[simp] theorem dep_list : dep (List α) = dep α + 1 := id rfl
@[simp] theorem dep_prod : dep (α × β) = max (dep α) (dep β) + 1 := id rfl
@[simp] theorem len_toD (xs : List α) (st : Sto) : bltRun .len [toD xs] st = .ok (.int xs.length) st := by
  rw [toD_list, len_tup, List.length_map]
@[simp] theorem tuple_toD (xs : List α) (st : Sto) : bltRun .tuple [toD xs] st = .ok (toD xs) st := id rfl
@[simp] theorem list_toD (xs : List α) (st : Sto) : bltRun .list [toD xs] st = .ok (.tl (mapD xs)) st := id rfl
theorem atIx_map {γ δ : Type} (f : γ → δ) (xs : List γ) (i : Int) : atIx (xs.map f) i = (atIx xs i).map f := by
  unfold atIx
  rw [List.length_map]
  cases ixOf xs.length i with
  | none => rfl
  | some j => simp
@[simp] theorem atIx_mapD (xs : List α) (i : Int) : atIx (mapD xs) i = (atIx xs i).map toD := atIx_map toD xs i
@[simp] theorem idx_toD (xs : List α) (i : Int) (st : Sto) : opIdx (toD xs) (.int i) st = optR ((atIx xs i).map toD) st := by
  rw [toD_list, idx_tup, atIx_map]
@[simp] theorem idx_pair0 (p : α × β) (st : Sto) : opIdx (toD p) (.int 0) st = .ok (toD p.1) st := id rfl
@[simp] theorem idx_pair1 (p : α × β) (st : Sto) : opIdx (toD p) (.int 1) st = .ok (toD p.2) st := id rfl
@[simp] theorem set_pair (ts : List Tg) (p : α × β) (s : Slots) : setTo (.tup ts) (toD p) s = setTos ts [toD p.1, toD p.2] s := set_tup _ _ _
theorem cut_map {γ δ : Type} (f : γ → δ) (xs : List γ) (lo hi : Option Int) : cutD (xs.map f) lo hi = (cutD xs lo hi).map f := by
  unfold cutD
  rw [List.length_map, List.map_take, List.map_drop]
@[simp] theorem slc_toD (xs : List α) (lo hi : Option Int) (st : Sto) : opSlc (toD xs) lo hi st = .ok (toD (cutD xs lo hi)) st := by
  rw [toD_list, slc_tup (noTs_enc xs), cut_map]
  rfl
theorem slc_tl {xs : List D} {lo hi : Option Int} {st : Sto} (h : D.noTs xs = true) : opSlc (.tl xs) lo hi st = .ok (.tl (cutD xs lo hi)) st := by
  simp only [opSlc, Sto.list, D.isTup, Bool.false_eq_true, if_false, seq_tl, h, if_true]
theorem add_toD {xs ys : List α} {st : Sto} (h : xs.length + ys.length ≤ line) : binop .add (toD xs) (toD ys) st = .ok (toD (xs ++ ys)) st := by
  rw [toD_list, toD_list, add_tup (by simpa using h), ← List.map_append]
  rfl
theorem add_toD1 {xs : List α} {x : α} {st : Sto} (h : xs.length + 1 ≤ line) : binop .add (toD xs) (.tup [toD x]) st = .ok (toD (xs ++ [x])) st := add_toD (ys := [x]) h
theorem add_toI1 {xs : List Int} {x : Int} {st : Sto} (h : xs.length + 1 ≤ line) : binop .add (toD xs) (.tup [.int x]) st = .ok (toD (xs ++ [x])) st := add_toD (ys := [x]) h
theorem index_int {xs : List Int} {a : Int} {st : Sto} (h : a ∈ xs) : mthRun .index (toD xs) [.int a] st = .ok (.int (xs.idxOf a)) st := index_seq (by decide) (seq_list xs st) h
theorem index_toD [DecidableEq α] {xs : List α} {a : α} {st : Sto} (hd : dep α ≤ 16) (h : a ∈ xs) : mthRun .index (toD xs) [toD a] st = .ok (.int (xs.idxOf a)) st := index_seq hd (seq_list xs st) h
@[simp] theorem mthOk_index_toD (xs : List α) (st : Sto) : mthOk .index (toD xs) st = true := by simp only [mthOk, seq_list, Option.isSome_some]
@[simp] theorem mthOk_count_toD (xs : List α) (st : Sto) : mthOk .count (toD xs) st = true := by simp only [mthOk, seq_list, Option.isSome_some]
@[simp] theorem in_ints (xs : List Int) (a : Int) (st : Sto) : cmpop .inn (.int a) (toD xs) st = .ok (.bl (decide (a ∈ xs))) st := in_seq (by decide) (seq_list xs st) a
@[simp] theorem nin_ints (xs : List Int) (a : Int) (st : Sto) : cmpop .nin (.int a) (toD xs) st = .ok (.bl (!decide (a ∈ xs))) st := nin_seq (by decide) (seq_list xs st) a
@[simp] theorem in_nats (xs : List Nat) (a : Nat) (st : Sto) : cmpop .inn (.int a) (toD xs) st = .ok (.bl (decide (a ∈ xs))) st := in_seq (by decide) (seq_list xs st) a
@[simp] theorem nin_nats (xs : List Nat) (a : Nat) (st : Sto) : cmpop .nin (.int a) (toD xs) st = .ok (.bl (!decide (a ∈ xs))) st := nin_seq (by decide) (seq_list xs st) a
@[simp] theorem in_tlI (xs : List Int) (a : Int) (st : Sto) : cmpop .inn (.int a) (.tl (mapD xs)) st = .ok (.bl (decide (a ∈ xs))) st := in_seq (by decide) (seq_tl _ st) a
@[simp] theorem nin_tlI (xs : List Int) (a : Int) (st : Sto) : cmpop .nin (.int a) (.tl (mapD xs)) st = .ok (.bl (!decide (a ∈ xs))) st := nin_seq (by decide) (seq_tl _ st) a
theorem count_toD [DecidableEq α] (hd : dep α ≤ 16) (xs : List α) (a : α) (st : Sto) : mthRun .count (toD xs) [toD a] st = .ok (.int (xs.count a)) st := count_seq hd (seq_list xs st) a
theorem sorted_tl {xs : List α} {st : Sto} (hd : dep α ≤ 16) (hl : xs.length ≤ line) (hk : (∀ a ∈ xs, tupleB (dat a) = true) ∨ ∀ a ∈ xs, otherB (dat a) = true) : bltRun .sorted [.tl (mapD xs)] st = .ok (.tl (mapD (xs.mergeSort leE))) st := sorted_seq hd (seq_tl _ st) hl hk
theorem eq_tlD [DecidableEq α] (h : dep α + 1 ≤ 16) (st : Sto) (xs ys : List α) : cmpop .eq (.tl (mapD xs)) (.tl (mapD ys)) st = .ok (.bl (decide (xs = ys))) st := eq_tl h st xs ys
theorem data_tlD (h : dep α + 1 ≤ 16) (st : Sto) (xs : List α) : st.data (.tl (mapD xs)) = some (.list (xs.map dat)) := by
  show (mapO (toP st.objs 15) (xs.map toD)).map PyData.list = _
  rw [mapO_map (h := dat) fun a => toPd st.objs 15 a (by omega)]
  rfl
theorem data_loc (h : dep α + 1 ≤ 16) {st : Sto} {l : Nat} {xs : List α} (e : st.objs[l]? = some (.lst (mapD xs))) : st.data (.loc l) = some (.list (xs.map dat)) := by
  show (match st.objs[l]? with | some (.lst xs) => (mapO (toP st.objs 15) xs).map PyData.list | _ => none) = _
  rw [e]
  show (mapO (toP st.objs 15) (xs.map toD)).map PyData.list = _
  rw [mapO_map (h := dat) fun a => toPd st.objs 15 a (by omega)]
  rfl
@[simp] theorem fine_toD (a : α) (st : Sto) : fineD st (toD a) = true := fine_pure (pur a)
theorem finS_toD (a : α) (st : Sto) : finS st (toD a) st.bare = .ok (toD a) st := finS_pure (pur a)
/-! comprehensions -/
theorem compT_map {γ : Type} {e : Ex} {t : Tg} {k : SrcK} {s : Slots} {ds : List D} {ls : List Nat} {st : Sto} (g : γ → β) {h : γ → D} {ys : List γ} (hs : srcItems k ds st = some (ys.map h, ls)) (hl : ys.length ≤ line)
    (H : ∀ y ∈ ys, ∃ s', setTo t (h y) s = some s' ∧ evE R e s' st = .ok (toD (g y)) st) : compE R e [] t k s ds st = .ok (.tl (mapD (ys.map g))) st := by
  rw [compE_map (fun y => toD (g y)) hs hl H, mapD, List.map_map]
  rfl
theorem compT_if {γ : Type} {e c : Ex} {t : Tg} {k : SrcK} {s : Slots} {ds : List D} {ls : List Nat} {st : Sto} (p : γ → Bool) (g : γ → β) {h : γ → D} {ys : List γ} (hs : srcItems k ds st = some (ys.map h, ls)) (hl : ys.length ≤ line)
    (H : ∀ y ∈ ys, ∃ s', setTo t (h y) s = some s' ∧ evE R c s' st = .ok (.bl (p y)) st ∧ (p y = true → evE R e s' st = .ok (toD (g y)) st)) : compE R e [c] t k s ds st = .ok (.tl (mapD ((ys.filter p).map g))) st := by
  rw [compE_if p (fun y => toD (g y)) hs hl H, mapD, List.map_map]
  rfl
theorem src_toD (xs : List α) (st : Sto) : srcItems .seq [toD xs] st = some (xs.map toD, []) := rfl
theorem src_tlD (xs : List α) (st : Sto) : srcItems .seq [.tl (mapD xs)] st = some (xs.map toD, []) := rfl
/-- (item, place) -/
def enumT (p : α × Nat) : D := .tup [.int (p.2 : Int), toD p.1]
theorem src_enumD (xs : List α) (st : Sto) : srcItems .enum [toD xs] st = some (xs.zipIdx.map enumT, []) := src_enum_tup xs toD st
theorem src_zipD (xs : List α) (ys : List β) (st : Sto) : srcItems .zip [toD xs, toD ys] st = some ((xs.zip ys).map toD, []) := by
  simp only [srcItems, seqL, seq_list]
  simp only [toD_list, D.isTup, if_true, zipD, List.append_nil, Option.some.injEq, Prod.mk.injEq, and_true]
  rw [List.zip_map, List.map_map]
  rfl
@[simp] theorem prep_tlD (xs : List α) (st : Sto) : prep (.tl (mapD xs)) st = (.tl (mapD xs), st) := prep_tl (noTs_mapD xs)
@[simp] theorem all_tlD {γ : Type} (p : γ → Bool) (xs : List γ) (st : Sto) : bltRun .all [.tl (mapD (xs.map p))] st = .ok (.bl (xs.all p)) st := by
  have := all_tl p xs st
  simpa [mapD, List.map_map, Function.comp_def] using this
end
end DV
set_option linter.all false
set_option autoImplicit false
set_option maxRecDepth 100000
/-! PE: houses and stands. -/
namespace DV
open PySem (Str PyData)
open Enc
abbrev House := List (List Int)
abbrev Stand := List Int × List Nat
section
variable {R : Env}
/-- a house; a seating of n seats; a stand of a house -/
structure HouseOk (h : House) : Prop where
  len : 2 ≤ h.length ∧ h.length ≤ 5
  lst : ∀ l ∈ h, 1 ≤ l.length ∧ l.length ≤ 3
  nm : ∀ l ∈ h, ∀ n ∈ l, 0 ≤ n ∧ n ≤ (h.length : Int) - 2
def SeatOk (n : Nat) (s : List Int) : Prop := s.Perm (rangeI (-1) n)
structure StandOk (h : House) (s : Stand) : Prop where
  seat : SeatOk h.length s.1
  len : s.2.length = h.length
  hand : ∀ i (hi : i < s.2.length) (hj : i < h.length), s.2[i] < h[i].length
theorem SeatOk.len {n : Nat} {s : List Int} (h : SeatOk n s) : s.length = n := by rw [h.length_eq, rangeI_length]
theorem mem_rangeI {a i : Int} {n : Nat} : i ∈ rangeI a n ↔ a ≤ i ∧ i < a + n := by
  unfold rangeI
  rw [List.mem_map]
  constructor
  · rintro ⟨j, hj, rfl⟩
    rw [List.mem_range] at hj
    omega
  · rintro ⟨h1, h2⟩
    exact ⟨(i - a).toNat, by rw [List.mem_range]; omega, by omega⟩
theorem SeatOk.mem {n : Nat} {s : List Int} (h : SeatOk n s) {i : Int} : i ∈ s ↔ -1 ≤ i ∧ i < (n : Int) - 1 := by
  rw [h.mem_iff, mem_rangeI]
  omega
theorem rangeI_nodup (a : Int) (n : Nat) : (rangeI a n).Nodup := by
  unfold rangeI
  rw [List.Nodup, List.pairwise_map]
  exact List.nodup_range.imp fun h e => h (by omega)
theorem SeatOk.nodup {n : Nat} {s : List Int} (h : SeatOk n s) : s.Nodup := h.nodup_iff.mpr (rangeI_nodup _ _)
/-! the order of numbers -/
theorem leE_int (a b : Int) : leE a b = decide (a ≤ b) := congrFun (congrFun (PySem.W.dataLe_int (fun i : Int => i)) a) b
theorem leE_nat (a b : Nat) : leE a b = decide (a ≤ b) := by
  have := congrFun (congrFun (PySem.W.dataLe_int (fun i : Nat => (i : Int))) a) b
  refine Eq.trans this ?_
  rw [decide_eq_decide]
  omega
theorem sort_unique {α : Type} {le : α → α → Bool} (anti : ∀ a b, le a b = true → le b a = true → a = b) : ∀ {xs ys : List α}, xs.Perm ys → xs.Pairwise (fun a b => le a b = true) → ys.Pairwise (fun a b => le a b = true) → xs = ys := by
  intro xs ys p h1 h2
  exact p.eq_of_pairwise (fun a b _ _ => anti a b) h1 h2
theorem sort_int (xs ys : List Int) (p : xs.Perm ys) (h : ys.Pairwise (· ≤ ·)) : xs.mergeSort leE = ys := by
  have e : (leE : Int → Int → Bool) = fun a b => decide (a ≤ b) := by funext a b; exact leE_int a b
  rw [e]
  refine sort_unique (le := fun a b => decide (a ≤ b)) (fun a b h1 h2 => ?_) ((List.mergeSort_perm _ _).trans p) (List.pairwise_mergeSort (fun a b c h1 h2 => ?_) (fun a b => ?_) xs) (h.imp fun q => decide_eq_true q)
  · simp at h1 h2; omega
  · simp at h1 h2 ⊢; omega
  · simp; omega
theorem rangeI_sorted (a : Int) (n : Nat) : (rangeI a n).Pairwise (· ≤ ·) := by
  unfold rangeI
  rw [List.pairwise_map]
  exact List.pairwise_lt_range.imp fun h => by omega
/-! what the looks tell of good ones -/
theorem all_within {a b : Int} {xs : List Int} (h : ∀ x ∈ xs, a ≤ x ∧ x ≤ b) : (mapD xs).all (withinD a b) = true := by
  unfold mapD
  rw [List.all_map, List.all_eq_true]
  intro x hx
  have := h x hx
  simp [withinD, this]
theorem house_yes {h : House} (H : HouseOk h) : houseD (toD h) = true := by
  have l := H.len
  have e : longD 2 5 (toD h) = true := by
    rw [toD_list]
    simp only [longD, List.length_map, Bool.and_eq_true, decide_eq_true_eq]
    omega
  unfold houseD
  rw [e, Bool.true_and]
  show ((h.map toD).all _) = true
  rw [List.all_map, List.all_eq_true]
  intro x hx
  have hl : (itemsD (toD h)).length = h.length := List.length_map _
  rw [hl]
  have l1 := H.lst x hx
  show (longD 1 3 (toD x) && (mapD x).all (withinD 0 (h.length - 2))) = true
  rw [all_within fun n hn => H.nm x hx n hn, Bool.and_true, toD_list]
  simp only [longD, List.length_map, Bool.and_eq_true, decide_eq_true_eq]
  omega
theorem intsD_mapD (xs : List Int) : intsD (mapD xs) = xs := by
  induction xs with
  | nil => rfl
  | cons x xs ih => simp [mapD_cons, intsD, intO]; exact ih
theorem seat_yes {n : Nat} {s : List Int} (H : SeatOk n s) : seatD n (toD s) = true := by
  have l := H.len
  have e : longD n n (toD s) = true := by
    rw [toD_list]
    simp only [longD, List.length_map, Bool.and_eq_true, decide_eq_true_eq]
    omega
  unfold seatD
  rw [e, Bool.true_and]
  rw [Bool.and_eq_true, decide_eq_true_eq]
  refine ⟨all_within fun x hx => by have := H.mem.mp hx; omega, ?_⟩
  show (intsD (mapD s)).mergeSort leE = _
  rw [intsD_mapD]
  exact sort_int _ _ H (rangeI_sorted _ _)
/-! the program's looks of good ones -/
def standD (h : House) (d : D) : Bool := longD 2 2 d && match itemsD d with
  | [a, b] => seatD h.length a && longD h.length h.length b && ((itemsD b).zipIdx.all fun p => withinD 0 ((((h[p.2]?).getD []).length : Int) - 1) p.1)
  | _ => false
def S_is_hand (g : Run) : Prop := ∀ (h : House) (k : Nat) (l : List Int) (d : D) (st : Sto), h[k]? = some l → fineD st d = true → d.noT = true → g [toD h, .int k, d] st = .ok (.bl (withinD 0 ((l.length : Int) - 1) d)) st
theorem b_is_hand {i : Nat} (h1 : S_is_within (R.call i)) : S_is_hand (runFn R (f_is_hand i)) := by
  intro h k l d st hk hf hn
  rw [run_eq _ _ _ rfl]
  have hb : fineD st.bare d = true := by rw [fine_bare]; exact hf
  have e := h1 d 0 ((l.length : Int) - 1) st.bare hb hn
  simp [f_is_hand, stlNoT _ hn, atIx_nat, hk, e, finS_pure]
def S_is_stand_by (g : Run) : Prop := ∀ (h : House) (d : D) (st : Sto), HouseOk h → fineD st d = true → d.noT = true → g [toD h, d] st = .ok (.bl (standD h d)) st
theorem b_is_stand_by {i j k : Nat} (h1 : S_is_long (R.call i)) (h2 : S_is_seating_of (R.call j)) (h3 : S_is_hand (R.call k)) : S_is_stand_by (runFn R (f_is_stand_by i j k)) := by
  intro h d st H hf hn
  rw [run_eq _ _ _ rfl]
  have hb : fineD st.bare d = true := by rw [fine_bare]; exact hf
  have e := h1 d 2 2 st.bare hb
  cases q : longD 2 2 d with
  | false => simp [f_is_stand_by, stlNoT _ hn, e, q, standD, finS_pure]
  | true =>
    cases d <;> simp only [longD, Bool.false_eq_true] at q
    rename_i xs
    have hl : xs.length = 2 := by simp at q; omega
    match xs, hl with
    | [a, b], _ =>
      have e4 : longD 2 2 (.tup [a, b]) = true := q
      have hn' := noTs_get hn
      have ha := hn' a (by simp)
      have hb' := hn' b (by simp)
      have fa := fines_get hb a (by simp)
      have fb := fines_get hb b (by simp)
      have l5 := H.len
      have e2 := h2 h.length a st.bare (by omega) (by omega) fa ha
      have e3 := h1 b h.length h.length st.bare fb
      have a0 : atIx [a, b] 0 = some a := rfl
      have a1 : atIx [a, b] 1 = some b := rfl
      cases q2 : seatD h.length a with
      | false => simp [f_is_stand_by, stlNoT _ hn, stlNoT _ ha, stlNoT _ hb', e, e4, standD, itemsD, a0, a1, e2, q2, finS_pure]
      | true =>
        cases q3 : longD h.length h.length b with
        | false => simp [f_is_stand_by, stlNoT _ hn, stlNoT _ ha, stlNoT _ hb', e, e4, standD, itemsD, a0, a1, e2, q2, e3, q3, finS_pure]
        | true =>
          cases b <;> simp only [longD, Bool.false_eq_true] at q3
          rename_i ys _
          have q4 : longD h.length h.length (.tup ys) = true := q3
          have ly : ys.length = h.length := by simp at q3; omega
          simp [f_is_stand_by, stlNoT _ hn, stlNoT _ ha, stlNoT _ hb', e, e4, standD, itemsD, a0, a1, e2, q2, e3, q4, prep_tup (by simpa using hb'), wipeD]
          rw [compE_map (h := fun p => .tup [.int ((p.2 : Nat) : Int), p.1]) (ys := ys.zipIdx) (ls := []) (fun p => .bl (withinD 0 ((((h[p.2]?).getD []).length : Int) - 1) p.1)) (by have z := src_enum_tup ys id st.bare; rw [List.map_id] at z; exact z) (by rw [List.length_zipIdx, ly]; show h.length ≤ 16777216; omega) ?H]
          · simp [all_tl, finS_pure]
          · rintro ⟨x, n⟩ hx
            obtain ⟨hp1, hp2, hp3⟩ := List.mem_zipIdx hx
            have hx2 : x ∈ ys := by rw [hp3]; exact List.getElem_mem _
            have hq : h[n]? = some h[n] := List.getElem?_eq_getElem (by omega)
            have e5 := h3 h n h[n] x st.bare hq (fines_get fb x hx2) (noTs_get hb' x hx2)
            exact ⟨_, by simp; rfl, by simp [stlNoT _ (noTs_get hb' x hx2), hq, e5]⟩
end
end DV
set_option linter.all false
set_option autoImplicit false
set_option maxRecDepth 100000
/-! PF: stands, who keeps, beats. -/
namespace DV
open PySem (Str PyData)
open Enc
section
variable {R : Env} {α : Type}
theorem stand_yes {h : House} {s : Stand} (H : HouseOk h) (S : StandOk h s) : standD h (toD s) = true := by
  have l := H.len
  have e1 : longD h.length h.length (toD s.2) = true := by
    rw [toD_list]
    simp only [longD, List.length_map, S.len, Bool.and_eq_true, decide_eq_true_eq]
    omega
  show (longD 2 2 (D.tup [toD s.1, toD s.2]) && (seatD h.length (toD s.1) && longD h.length h.length (toD s.2) && ((s.2.map toD).zipIdx.all _))) = true
  rw [seat_yes S.seat, e1]
  simp only [Bool.true_and, Bool.and_eq_true]
  refine ⟨rfl, ?_⟩
  rw [List.all_eq_true]
  rintro ⟨x, n⟩ hx
  obtain ⟨_, hp2, hp3⟩ := List.mem_zipIdx hx
  simp at hp2
  have hn : n < h.length := by rw [← S.len]; simpa using hp2
  have hs := S.hand n (by simpa using hp2) hn
  simp at hp3
  rw [hp3]
  simp only [withinD, List.getElem?_eq_getElem hn, Option.getD_some, Bool.and_eq_true, decide_eq_true_eq, toD_nat]
  omega
def S_need_stand (c : Nat) (g : Run) : Prop := ∀ (h : House) (d : D) (st : Sto), HouseOk h → fineD st d = true → d.noT = true → g [toD h, d] st = if standD h d then .ok .non st else .exc c st
def S_is_stand (g : Run) : Prop := ∀ (h : House) (d : D) (st : Sto), HouseOk h → fineD st d = true → d.noT = true → g [toD h, d] st = .ok (.bl (standD h d)) st
theorem b_is_stand {i j c : Nat} (h1 : S_need_house c (R.call i)) (h2 : S_is_stand_by (R.call j)) : S_is_stand (runFn R (f_is_stand i j)) := by
  intro h d st H hf hn
  rw [run_eq _ _ _ rfl]
  have hb : fineD st.bare d = true := by rw [fine_bare]; exact hf
  simp [f_is_stand, h1 (toD h) st.bare (fine_toD _ _) (noT_toD _), house_yes H, stlNoT _ hn, h2 h d st.bare H hb hn, finS_pure]
theorem b_need_stand {i c : Nat} (h1 : S_is_stand (R.call i)) : S_need_stand c (runFn R (f_need_stand i c)) := by
  intro h d st H hf hn
  rw [run_eq _ _ _ rfl]
  have hb : fineD st.bare d = true := by rw [fine_bare]; exact hf
  cases q : standD h d <;> simp [f_need_stand, stlNoT _ hn, h1 h d st.bare H hb hn, q, finS_pure]
theorem need_ok {c : Nat} {g : Run} (S : S_need_stand c g) {h : House} {s : Stand} (H : HouseOk h) (K : StandOk h s) (st : Sto) : g [toD h, toD s] st = .ok .non st := by
  rw [S h (toD s) st H (fine_toD _ _) (noT_toD _), stand_yes H K, if_pos rfl]
def S_is_seating (g : Run) : Prop := ∀ (h : House) (d : D) (st : Sto), HouseOk h → fineD st d = true → d.noT = true → g [toD h, d] st = .ok (.bl (seatD h.length d)) st
theorem b_is_seating {i j c : Nat} (h1 : S_need_house c (R.call i)) (h2 : S_is_seating_of (R.call j)) : S_is_seating (runFn R (f_is_seating i j)) := by
  intro h d st H hf hn
  rw [run_eq _ _ _ rfl]
  have hb : fineD st.bare d = true := by rw [fine_bare]; exact hf
  have l := H.len
  simp [f_is_seating, h1 (toD h) st.bare (fine_toD _ _) (noT_toD _), house_yes H, stlNoT _ hn, h2 h.length d st.bare (by omega) (by omega) hb hn, finS_pure]
def S_need_seating (c : Nat) (g : Run) : Prop := ∀ (h : House) (d : D) (st : Sto), HouseOk h → fineD st d = true → d.noT = true → g [toD h, d] st = if seatD h.length d then .ok .non st else .exc c st
theorem b_need_seating {i c : Nat} (h1 : S_is_seating (R.call i)) : S_need_seating c (runFn R (f_need_seating i c)) := by
  intro h d st H hf hn
  rw [run_eq _ _ _ rfl]
  have hb : fineD st.bare d = true := by rw [fine_bare]; exact hf
  cases q : seatD h.length d <;> simp [f_need_seating, stlNoT _ hn, h1 h d st.bare H hb hn, q, finS_pure]
theorem needS_ok {c : Nat} {g : Run} (S : S_need_seating c g) {h : House} {s : List Int} (H : HouseOk h) (K : SeatOk h.length s) (st : Sto) : g [toD h, toD s] st = .ok .non st := by
  rw [S h (toD s) st H (fine_toD _ _) (noT_toD _), seat_yes K, if_pos rfl]
/-! what stands at a place -/
def gt [Inhabited α] (xs : List α) (i : Nat) : α := (xs[i]?).getD default
theorem gt_of [Inhabited α] {xs : List α} {i : Nat} {a : α} (h : xs[i]? = some a) : gt xs i = a := by simp [gt, h]
theorem get_gt [Inhabited α] {xs : List α} {i : Nat} (h : i < xs.length) : xs[i]? = some (gt xs i) := by simp [gt, h]
theorem gt_lt [Inhabited α] {xs : List α} {i : Nat} (h : i < xs.length) : gt xs i = xs[i] := by simp [gt, h]
theorem gt_mem [Inhabited α] {xs : List α} {i : Nat} (h : i < xs.length) : gt xs i ∈ xs := by rw [gt_lt h]; exact List.getElem_mem _
/-- the place of the bare seat -/
def bareF (s : List Int) : Nat := s.idxOf (-1)
theorem SeatOk.bare {n : Nat} {s : List Int} (h : SeatOk n s) (hn : 1 ≤ n) : -1 ∈ s ∧ bareF s < s.length := by
  have m : (-1 : Int) ∈ s := h.mem.mpr (by omega)
  exact ⟨m, List.idxOf_lt_length_of_mem m⟩
def S_bare_of (g : Run) : Prop := ∀ (s : List Int) (st : Sto), -1 ∈ s → g [toD s] st = .ok (.int (bareF s : Nat)) st
theorem b_bare_of (hR : Std R) : S_bare_of (runFn R f_bare_of) := by
  intro s st hm
  rw [run_eq _ _ _ rfl]
  simp [f_bare_of, hR.c, consts0, index_int hm, finS_pure, bareF]
def S_bare_seat (g : Run) : Prop := ∀ (h : House) (s : Stand) (st : Sto), HouseOk h → StandOk h s → g [toD h, toD s] st = .ok (.int (bareF s.1 : Nat)) st
theorem StandOk.bare {h : House} {s : Stand} (H : HouseOk h) (S : StandOk h s) : -1 ∈ s.1 ∧ bareF s.1 < h.length := by
  have := S.seat.bare (by have := H.len; omega)
  rw [S.seat.len] at this
  exact this
theorem b_bare_seat {i j c : Nat} (h1 : S_need_stand c (R.call i)) (h2 : S_bare_of (R.call j)) : S_bare_seat (runFn R (f_bare_seat i j)) := by
  intro h s st H S
  rw [run_eq _ _ _ rfl]
  simp [f_bare_seat, need_ok h1 H S, h2 s.1 st.bare (S.bare H).1, finS_pure]
/-- the least stand -/
def firstF (h : House) : Stand := (rangeI (-1) h.length, List.replicate h.length 0)
theorem mul_tup0 {n : Nat} {st : Sto} (h1 : 2 ≤ n) (h2 : n ≤ 1000) : binop .mul (.tup [.int 0]) (.int (n : Int)) st = .ok (toD (List.replicate n (0 : Nat))) st := by
  have e : (decide ((2 : Int) ≤ (n : Int)) && decide ((n : Int) ≤ 1000) && decide (1 ≤ [D.int 0].length) && decide ([D.int 0].length ≤ 1000) && D.noTs [D.int 0]) = true := by
    simp
    omega
  simp only [binop, opMul, e, if_true]
  congr 1
  rw [toD_list, List.map_replicate]
  simp
def S_first_of (g : Run) : Prop := ∀ (h : House) (st : Sto), HouseOk h → g [toD h] st = .ok (toD (firstF h)) st
theorem b_first_of (hR : Std R) : S_first_of (runFn R f_first_of) := by
  intro h st H
  rw [run_eq _ _ _ rfl]
  have l := H.len
  have e := tupR2_run (a := -1) (b := (h.length : Int) - 1) (n := h.length) (st := st.bare) (by omega) (by omega) (by omega) (show h.length ≤ 16777216 by omega)
  simp [f_first_of, hR.c, consts0, e, mul_tup0 (st := st.bare) l.1 (by omega)]
  exact finS_toD (firstF h) st
def S_first_stand (g : Run) : Prop := ∀ (h : House) (st : Sto), HouseOk h → g [toD h] st = .ok (toD (firstF h)) st
theorem b_first_stand {i j c : Nat} (h1 : S_need_house c (R.call i)) (h2 : S_first_of (R.call j)) : S_first_stand (runFn R (f_first_stand i j)) := by
  intro h st H
  rw [run_eq _ _ _ rfl]
  simp [f_first_stand, h1 (toD h) st.bare (fine_toD _ _) (noT_toD _), house_yes H, h2 h st.bare H, finS_toD]
/-! who keeps -/
/-- the place ahead of k in a list of n -/
def prevI (n k : Nat) : Nat := if k = 0 then n - 1 else k - 1
theorem atIx_prev {xs : List α} {k : Nat} (h : 1 ≤ xs.length) (hk : k < xs.length) : atIx xs ((k : Int) - 1) = xs[prevI xs.length k]? := by
  unfold prevI
  by_cases q : k = 0
  · subst q
    rw [if_pos rfl]
    unfold atIx ixOf
    rw [if_neg (by omega), if_pos (by omega)]
    show xs[(((0 : Nat) : Int) - 1 + (xs.length : Int)).toNat]? = _
    rw [show (((0 : Nat) : Int) - 1 + (xs.length : Int)).toNat = xs.length - 1 by omega]
  · rw [if_neg q, show (k : Int) - 1 = ((k - 1 : Nat) : Int) by omega, atIx_nat]
theorem prevI_lt {n k : Nat} (h : 1 ≤ n) (hk : k < n) : prevI n k < n := by unfold prevI; split <;> omega
/-- the name in a seat's list ahead of its hand -/
def lastF (h : House) (hs : List Nat) (i : Nat) : Int := gt (gt h i) (prevI (gt h i).length (gt hs i))
/-- whether a seat keeps -/
def keepB (h : House) (s : Stand) (i : Nat) : Bool := decide (gt s.1 i = lastF h s.2 i)
def keptF (h : House) (s : Stand) : List Nat := (List.range h.length).filter (keepB h s)
theorem HouseOk.at {h : House} (H : HouseOk h) {i : Nat} (hi : i < h.length) : 1 ≤ (gt h i).length ∧ (gt h i).length ≤ 3 := H.lst _ (gt_mem hi)
theorem StandOk.at {h : House} {s : Stand} (S : StandOk h s) {i : Nat} (hi : i < h.length) : gt s.2 i < (gt h i).length := by
  have h2 : i < s.2.length := by rw [S.len]; exact hi
  rw [gt_lt h2, gt_lt hi]
  exact S.hand i h2 hi
def S_last_called (g : Run) : Prop := ∀ (h : House) (s : Stand) (i : Nat) (st : Sto), HouseOk h → StandOk h s → i < h.length → g [toD h, toD s.2, .int i] st = .ok (.int (lastF h s.2 i)) st
theorem b_last_called : S_last_called (runFn R f_last_called) := by
  intro h s i st H S hi
  rw [run_eq _ _ _ rfl]
  have l := H.at hi
  have k := S.at hi
  simp [f_last_called, atIx_nat, get_gt hi, get_gt (xs := s.2) (i := i) (by rw [S.len]; exact hi), atIx_prev l.1 k, get_gt (xs := gt h i) (prevI_lt l.1 k), finS_pure]
  rfl
theorem enum_filter {n : Nat} (p : Int → Nat → Bool) (s : List Int) (hs : s.length = n) : ((s.zipIdx.filter fun x => p x.1 x.2).map (·.2)) = (List.range n).filter fun i => p (gt s i) i := by
  have e : s.zipIdx = (List.range n).map fun i => (gt s i, i) := by
    apply List.ext_getElem
    · simp [hs]
    · intro i h1 h2
      simp at h1 h2
      simp [gt_lt h1]
  rw [e, List.filter_map, List.map_map]
  simp [Function.comp_def]
def S_kept_by (g : Run) : Prop := ∀ (h : House) (s : Stand) (st : Sto), HouseOk h → StandOk h s → g [toD h, toD s] st = .ok (toD (keptF h s)) st
theorem b_kept_by {i : Nat} (h1 : S_last_called (R.call i)) : S_kept_by (runFn R (f_kept_by i)) := by
  intro h s st H S
  rw [run_eq _ _ _ rfl]
  have l := H.len
  have ls := S.seat.len
  simp [f_kept_by, wipeD]
  rw [compT_if (fun (p : Int × Nat) => decide (p.1 = lastF h s.2 p.2)) (fun p => p.2) (src_enumD s.1 st.bare) (by rw [List.length_zipIdx, ls]; show h.length ≤ 16777216; omega) ?H]
  · rw [enum_filter (fun a i => decide (a = lastF h s.2 i)) s.1 ls]
    simp
    exact finS_toD (keptF h s) st
  · rintro ⟨x, n⟩ hx
    obtain ⟨_, hp2, _⟩ := List.mem_zipIdx hx
    have e := h1 h s n st.bare H S (by omega)
    exact ⟨_, by simp [enumT]; rfl, by simp [e], fun _ => by simp⟩
def S_keeping (g : Run) : Prop := ∀ (h : House) (s : Stand) (st : Sto), HouseOk h → StandOk h s → g [toD h, toD s] st = .ok (toD (keptF h s)) st
theorem b_keeping {i j c : Nat} (h1 : S_need_stand c (R.call i)) (h2 : S_kept_by (R.call j)) : S_keeping (runFn R (f_keeping i j)) := by
  intro h s st H S
  rw [run_eq _ _ _ rfl]
  simp [f_keeping, need_ok h1 H S, h2 h s st.bare H S, finS_toD]
end
end DV
set_option linter.all false
set_option autoImplicit false
set_option maxRecDepth 100000
/-! PG: lists and dicts of a call's own. -/
namespace DV
open PySem (Str PyData)
open Enc
section
variable {R : Env} {α β : Type} [Enc α] [Enc β]
def lstOf : Option MO → Option (List D)
  | some (.lst xs) => some xs
  | _ => none
def dicOf : Option MO → Option (List D × List D)
  | some (.dic ks vs) => some (ks, vs)
  | _ => none
@[simp] theorem lstOf_lst (xs : List D) : lstOf (some (.lst xs)) = some xs := id rfl
@[simp] theorem dicOf_dic (ks vs : List D) : dicOf (some (.dic ks vs)) = some (ks, vs) := id rfl
@[simp] theorem lstOf_dic (ks vs : List D) : lstOf (some (.dic ks vs)) = none := id rfl
theorem lst_of {o : Option MO} {xs : List D} (h : lstOf o = some xs) : o = some (.lst xs) := by
  unfold lstOf at h
  split at h
  · cases h; rfl
  · cases h
theorem dic_of {o : Option MO} {p : List D × List D} (h : dicOf o = some p) : o = some (.dic p.1 p.2) := by
  unfold dicOf at h
  split at h
  · cases h; rfl
  · cases h
/-! places behind a base -/
section
variable {γ : Type} (b ys : List γ)
@[simp] theorem get_b0 : (b ++ ys)[b.length]? = ys[0]? := by rw [List.getElem?_append_right (Nat.le_refl _), Nat.sub_self]
@[simp] theorem get_bk (k : Nat) : (b ++ ys)[b.length + k]? = ys[k]? := by rw [List.getElem?_append_right (by omega)]; congr 1; omega
@[simp] theorem set_b0 (a : γ) : (b ++ ys).set b.length a = b ++ ys.set 0 a := by rw [List.set_append_right _ _ (Nat.le_refl _), Nat.sub_self]
@[simp] theorem set_bk (k : Nat) (a : γ) : (b ++ ys).set (b.length + k) a = b ++ ys.set k a := by rw [List.set_append_right _ _ (by omega)]; congr 2; omega
theorem get_lt {b ys : List γ} {p : Nat} {q : γ} (h : b[p]? = some q) : (b ++ ys)[p]? = some q := by
  have := (List.getElem?_eq_some_iff.mp h).1
  rw [List.getElem?_append_left this, h]
theorem set_lt {b ys : List γ} {p : Nat} {q a : γ} (h : b[p]? = some q) : (b ++ ys).set p a = b.set p a ++ ys := by
  have := (List.getElem?_eq_some_iff.mp h).1
  rw [List.set_append_left _ _ this]
end
/-! laying -/
mutual
theorem settleNoT : ∀ {d : D} {o : List MO}, d.noT = true → settle d o = (d, o)
  | .non, _, _ => rfl
  | .bl _, _, _ => rfl
  | .int _, _, _ => rfl
  | .str _, _, _ => rfl
  | .exn _, _, _ => rfl
  | .tup xs, o, h => by
    simp only [settle, settlesNoT (ds := xs) (by simpa using h)]
  | .tl _, _, h => by simp [D.noT] at h
  | .td _ _, _, h => by simp [D.noT] at h
  | .loc _, _, _ => rfl
  | .fro _, _, _ => rfl
theorem settlesNoT : ∀ {ds : List D} {o : List MO}, D.noTs ds = true → settles ds o = (ds, o)
  | [], _, _ => rfl
  | x :: xs, o, h => by
    simp only [D.noTs, Bool.and_eq_true] at h
    simp only [settles, settleNoT h.1, settlesNoT h.2]
end
@[simp] theorem noT_tl (xs : List D) : (D.tl xs).noT = false := by simp only [D.noT]
@[simp] theorem noT_td (xs ys : List D) : (D.td xs ys).noT = false := by simp only [D.noT]
theorem stl_not {d : D} (st : Sto) (h : d.noT = false) : stl d st = ((settle d st.objs).1, ⟨(settle d st.objs).2, st.esc⟩) := by
  unfold stl
  rw [h]
  exact if_neg Bool.false_ne_true
theorem settle_tup (xs : List D) (o : List MO) : settle (.tup xs) o = (.tup (settles xs o).1, (settles xs o).2) := by simp only [settle]
theorem settle_tl (xs : List D) (o : List MO) : settle (.tl xs) o = (.loc (settles xs o).2.length, (settles xs o).2 ++ [.lst (settles xs o).1]) := by simp only [settle]
theorem settle_td (ks vs : List D) (o : List MO) : settle (.td ks vs) o = (.loc (settles vs o).2.length, (settles vs o).2 ++ [.dic ks (settles vs o).1]) := by simp only [settle]
theorem settle_loc (l : Nat) (o : List MO) : settle (.loc l) o = (.loc l, o) := by simp only [settle]
theorem settle_int (l : Int) (o : List MO) : settle (.int l) o = (.int l, o) := by simp only [settle]
theorem settle_str (l : Str) (o : List MO) : settle (.str l) o = (.str l, o) := by simp only [settle]
theorem settle_toD (a : α) (o : List MO) : settle (toD a) o = (toD a, o) := settleNoT (noT_toD a)
theorem settles_nil (o : List MO) : settles [] o = ([], o) := by simp only [settles]
theorem settles_cons (x : D) (xs : List D) (o : List MO) : settles (x :: xs) o = ((settle x o).1 :: (settles xs (settle x o).2).1, (settles xs (settle x o).2).2) := by simp only [settles]
theorem settles_mapD (xs : List α) (o : List MO) : settles (mapD xs) o = (mapD xs, o) := settlesNoT (noTs_mapD xs)
theorem stl_tl {xs : List D} {o : List MO} {e : Option Nat} (h : D.noTs xs = true) : stl (.tl xs) ⟨o, e⟩ = (.loc o.length, ⟨o ++ [.lst xs], e⟩) := by
  rw [stl_not _ (noT_tl xs), settle_tl, settlesNoT h]
@[simp] theorem stl_tlD (xs : List α) (o : List MO) (e : Option Nat) : stl (.tl (mapD xs)) ⟨o, e⟩ = (.loc o.length, ⟨o ++ [.lst (mapD xs)], e⟩) := stl_tl (noTs_mapD xs)
@[simp] theorem stl_tl0 (o : List MO) (e : Option Nat) : stl (.tl []) ⟨o, e⟩ = (.loc o.length, ⟨o ++ [.lst []], e⟩) := stl_tl rfl
@[simp] theorem stl_td0 (o : List MO) (e : Option Nat) : stl (.td [] []) ⟨o, e⟩ = (.loc o.length, ⟨o ++ [.dic [] []], e⟩) := by rw [stl_not _ (noT_td _ _), settle_td, settles_nil]
@[simp] theorem bare_eq (st : Sto) : st.bare = ⟨st.objs, none⟩ := id rfl
theorem map_eraseIdx {γ δ : Type} (f : γ → δ) : ∀ (xs : List γ) (k : Nat), (xs.eraseIdx k).map f = (xs.map f).eraseIdx k
  | [], _ => by simp
  | x :: xs, 0 => by simp
  | x :: xs, k + 1 => by simp [map_eraseIdx f xs k]
/-! lists -/
@[simp] theorem seq_loc (o : List MO) (e : Option Nat) (l : Nat) : (⟨o, e⟩ : Sto).seq (.loc l) = lstOf o[l]? := by
  show (match o[l]? with | some (.lst xs) => some xs | _ => none) = _
  cases o[l]? with
  | none => rfl
  | some m => cases m <;> rfl
theorem own_loc (o : List MO) (e : Option Nat) (l : Nat) : (⟨o, e⟩ : Sto).own (.loc l) = lstOf o[l]? := by
  show (match o[l]? with | some (.lst xs) => some xs | _ => none) = _
  cases o[l]? with
  | none => rfl
  | some m => cases m <;> rfl
@[simp] theorem dict_loc (o : List MO) (e : Option Nat) (l : Nat) : (⟨o, e⟩ : Sto).dict (.loc l) = dicOf o[l]? := by
  show (match o[l]? with | some (.dic ks vs) => some (ks, vs) | _ => none) = _
  cases o[l]? with
  | none => rfl
  | some m => cases m <;> rfl
theorem len_loc {o : List MO} {e : Option Nat} {l : Nat} {xs : List D} (h : lstOf o[l]? = some xs) : bltRun .len [.loc l] ⟨o, e⟩ = .ok (.int xs.length) ⟨o, e⟩ := by
  simp only [bltRun, lenD, seq_loc, h]
theorem tuple_loc {o : List MO} {e : Option Nat} {l : Nat} {xs : List D} (h : lstOf o[l]? = some xs) : bltRun .tuple [.loc l] ⟨o, e⟩ = .ok (.tup xs) ⟨o, e⟩ := by
  simp only [bltRun, tupleD, seq_loc, h]
theorem list_loc {o : List MO} {e : Option Nat} {l : Nat} {xs : List D} (h : lstOf o[l]? = some xs) : bltRun .list [.loc l] ⟨o, e⟩ = .ok (.tl xs) ⟨o, e⟩ := by
  simp only [bltRun, listD, seq_loc, h]
theorem idx_loc {o : List MO} {e : Option Nat} {l : Nat} {xs : List D} (h : lstOf o[l]? = some xs) (i : Int) : opIdx (.loc l) (.int i) ⟨o, e⟩ = optR (atIx xs i) ⟨o, e⟩ := by
  simp only [opIdx, seq_loc, h, optR]
  all_goals (cases atIx xs i <;> rfl)
theorem slc_loc {o : List MO} {e : Option Nat} {l : Nat} {xs : List D} (h : lstOf o[l]? = some xs) (hn : D.noTs xs = true) (lo hi : Option Int) : opSlc (.loc l) lo hi ⟨o, e⟩ = .ok (.tl (cutD xs lo hi)) ⟨o, e⟩ := by
  simp only [opSlc, Sto.list, D.isTup, Bool.false_eq_true, if_false, seq_loc, h, hn, if_true]
theorem mthOk_lst {o : List MO} {e : Option Nat} {l : Nat} {xs : List D} {m : Mth} (h : lstOf o[l]? = some xs) (hm : m ≠ .get2) : mthOk m (.loc l) ⟨o, e⟩ = true := by
  have z := lst_of h
  cases m <;> first | exact absurd rfl hm | (simp only [mthOk, isLst, z]; done) | (simp only [mthOk, isLst, z, seq_loc, lstOf, Option.isSome_some])
theorem append_loc {o : List MO} {e : Option Nat} {l : Nat} {xs : List D} {x : D} (h : lstOf o[l]? = some xs) (hl : xs.length < line) (h1 : x.noT = true) (h2 : x.noL = true) : mthRun .append (.loc l) [x] ⟨o, e⟩ = .ok .non ⟨o.set l (.lst (xs ++ [x])), e⟩ := by
  simp only [mthRun, appendD, onList, lst_of h, hl, if_true, stlNoT _ h1, Sto.put, h2]
theorem extend_tl {o : List MO} {e : Option Nat} {l : Nat} {xs ys : List D} (h : lstOf o[l]? = some xs) (hl : xs.length + ys.length ≤ line) (h1 : D.noTs ys = true) (h2 : D.noLs ys = true) : mthRun .extend (.loc l) [.tl ys] ⟨o, e⟩ = .ok .non ⟨o.set l (.lst (xs ++ ys)), e⟩ := by
  have hne : (D.tl ys = D.loc l) = False := by simp
  simp only [mthRun, extendD, onList, lst_of h, prep_tl h1, hne, if_false, Sto.own, hl, if_true, Sto.put, h2]
theorem pop0_loc {o : List MO} {e : Option Nat} {l : Nat} {xs : List D} {x : D} (h : lstOf o[l]? = some (xs ++ [x])) : mthRun .pop0 (.loc l) [] ⟨o, e⟩ = .ok x ⟨o.set l (.lst xs), e⟩ := by
  have q : (xs ++ [x])[(xs ++ [x]).length - 1]? = some x := by simp
  simp only [mthRun, pop0D, onList, lst_of h, q, Sto.put, List.dropLast_concat, if_true]
theorem pop1_loc {o : List MO} {e : Option Nat} {l : Nat} {xs : List D} {k : Nat} {x : D} (h : lstOf o[l]? = some xs) (hk : xs[k]? = some x) (hb : xs.length ≤ line) : mthRun .pop1 (.loc l) [.int k] ⟨o, e⟩ = .ok x ⟨o.set l (.lst (xs.eraseIdx k)), e⟩ := by
  have hk2 := (List.getElem?_eq_some_iff.mp hk).1
  have h3 : k < 2 ^ 62 := Nat.lt_trans (Nat.lt_of_lt_of_le hk2 hb) (by decide)
  have e1 : (decide (-(2 ^ 62) < (k : Int)) && decide ((k : Int) < 2 ^ 62)) = true := by
    clear hb hk h hk2
    simp only [Bool.and_eq_true, decide_eq_true_eq]
    omega
  have e2 : ixOf xs.length (k : Int) = some k := by
    unfold ixOf
    rw [if_pos (Int.natCast_nonneg k), if_pos (by omega)]
    rfl
  simp only [mthRun, pop1D, int1, intO, onList, lst_of h, e1, if_true, e2, hk, Sto.put]
theorem setIx_lst {o : List MO} {e : Option Nat} {l k : Nat} {xs : List D} {d : D} (h : lstOf o[l]? = some xs) (hk : k < xs.length) (hd : d.noL = true) : setIx (.loc l) (.int k) d ⟨o, e⟩ = some ⟨o.set l (.lst (xs.set k d)), e⟩ := by
  have e2 : ixOf xs.length (k : Int) = some k := by
    unfold ixOf
    rw [if_pos (Int.natCast_nonneg k), if_pos (by omega)]
    rfl
  simp only [setIx, lst_of h, e2, Sto.put, hd, if_true]
theorem remove_loc [DecidableEq α] {o : List MO} {e : Option Nat} {l : Nat} {xs : List α} {x : α} (h : lstOf o[l]? = some (mapD xs)) (hd : dep α ≤ 16) (hx : x ∈ xs) : mthRun .remove (.loc l) [toD x] ⟨o, e⟩ = .ok .non ⟨o.set l (.lst (mapD (xs.eraseIdx (xs.idxOf x)))), e⟩ := by
  have z : dataFind ⟨o, e⟩ (mapD xs) (toD x) = some (some (xs.idxOf x)) := by rw [mapD, dataFind_toD hd, findIdx_idxOf hx]
  have y : (mapD xs).eraseIdx (xs.idxOf x) = mapD (xs.eraseIdx (xs.idxOf x)) := by
    unfold mapD
    exact (map_eraseIdx toD xs _).symm
  simp only [mthRun, removeD, onList, lst_of h, z, y, Sto.put, if_true]
theorem in_loc [DecidableEq α] {o : List MO} {e : Option Nat} {l : Nat} {xs : List α} (h : lstOf o[l]? = some (mapD xs)) (hd : dep α ≤ 16) (a : α) : cmpop .inn (toD a) (.loc l) ⟨o, e⟩ = .ok (.bl (decide (a ∈ xs))) ⟨o, e⟩ := in_seq hd (by rw [seq_loc, h]; rfl) a
theorem nin_loc [DecidableEq α] {o : List MO} {e : Option Nat} {l : Nat} {xs : List α} (h : lstOf o[l]? = some (mapD xs)) (hd : dep α ≤ 16) (a : α) : cmpop .nin (toD a) (.loc l) ⟨o, e⟩ = .ok (.bl (!decide (a ∈ xs))) ⟨o, e⟩ := nin_seq hd (by rw [seq_loc, h]; rfl) a
theorem index_loc [DecidableEq α] {o : List MO} {e : Option Nat} {l : Nat} {xs : List α} {a : α} (h : lstOf o[l]? = some (mapD xs)) (hd : dep α ≤ 16) (ha : a ∈ xs) : mthRun .index (.loc l) [toD a] ⟨o, e⟩ = .ok (.int (xs.idxOf a)) ⟨o, e⟩ := index_seq hd (by rw [seq_loc, h]; rfl) ha
theorem count_loc [DecidableEq α] {o : List MO} {e : Option Nat} {l : Nat} {xs : List α} (h : lstOf o[l]? = some (mapD xs)) (hd : dep α ≤ 16) (a : α) : mthRun .count (.loc l) [toD a] ⟨o, e⟩ = .ok (.int (xs.count a)) ⟨o, e⟩ := count_seq hd (by rw [seq_loc, h]; rfl) a
theorem sorted_loc {o : List MO} {e : Option Nat} {l : Nat} {xs : List α} (h : lstOf o[l]? = some (mapD xs)) (hd : dep α ≤ 16) (hl : xs.length ≤ line) (hk : (∀ a ∈ xs, tupleB (dat a) = true) ∨ ∀ a ∈ xs, otherB (dat a) = true) : bltRun .sorted [.loc l] ⟨o, e⟩ = .ok (.tl (mapD (xs.mergeSort leE))) ⟨o, e⟩ := sorted_seq hd (by rw [seq_loc, h]; rfl) hl hk
theorem src_loc {o : List MO} {e : Option Nat} {l : Nat} {xs : List D} (h : lstOf o[l]? = some xs) : srcItems .seq [.loc l] ⟨o, e⟩ = some (xs, [l]) := by
  simp only [srcItems, seqL, seq_loc, h]
theorem add_loc {o : List MO} {e : Option Nat} {l m : Nat} {xs ys : List D} (h : lstOf o[l]? = some xs) (h2 : lstOf o[m]? = some ys) (hl : xs.length + ys.length ≤ line) : binop .add (.loc l) (.loc m) ⟨o, e⟩ = .ok (.tl (xs ++ ys)) ⟨o, e⟩ := by
  simp only [binop, opAdd, own_loc, h, h2, hl, if_true]
theorem add_loc_tl {o : List MO} {e : Option Nat} {l : Nat} {xs ys : List D} (h : lstOf o[l]? = some xs) (hl : xs.length + ys.length ≤ line) : binop .add (.loc l) (.tl ys) ⟨o, e⟩ = .ok (.tl (xs ++ ys)) ⟨o, e⟩ := by
  have : (⟨o, e⟩ : Sto).own (.tl ys) = some ys := rfl
  simp only [binop, opAdd, own_loc, h, this, hl, if_true]
theorem add_tl_loc {o : List MO} {e : Option Nat} {l : Nat} {xs ys : List D} (h : lstOf o[l]? = some xs) (hl : ys.length + xs.length ≤ line) : binop .add (.tl ys) (.loc l) ⟨o, e⟩ = .ok (.tl (ys ++ xs)) ⟨o, e⟩ := by
  have : (⟨o, e⟩ : Sto).own (.tl ys) = some ys := rfl
  simp only [binop, opAdd, own_loc, h, this, hl, if_true]
theorem add_tl {st : Sto} {xs ys : List D} (hl : xs.length + ys.length ≤ line) : binop .add (.tl xs) (.tl ys) st = .ok (.tl (xs ++ ys)) st := by
  have h1 : st.own (.tl ys) = some ys := rfl
  have h2 : st.own (.tl xs) = some xs := rfl
  simp only [binop, opAdd, h1, h2, hl, if_true]
/-! a call's end -/
theorem finS_dem {st : Sto} {o : List MO} {d d' : D} {l : List Nat} (h : dem (st.objs ++ o) st.objs.length 40 d = some (d', l)) (hl : l.Nodup) : finS st d ⟨st.objs ++ o, none⟩ = .ok d' st := by
  show fin st.objs.length st.esc d ⟨st.objs ++ o, none⟩ = _
  simp only [fin, clean_none, if_true, h, hl]
  simp [Sto.trunc]
theorem demL_noL {o : List MO} {n k : Nat} : ∀ {xs : List D}, D.noLs xs = true → demL (dem o n (k + 1)) xs = some (xs, [])
  | [], _ => rfl
  | x :: xs, h => by
    simp only [D.noLs, Bool.and_eq_true] at h
    simp only [demL, dem_noL h.1, demL_noL h.2, List.append_nil]
theorem dem_loc {o : List MO} {n k l : Nat} {xs : List D} (h1 : n ≤ l) (h2 : lstOf o[l]? = some xs) (h3 : D.noLs xs = true) : dem o n (k + 2) (.loc l) = some (.tl xs, [l]) := by
  have z := lst_of h2
  have q : ¬ l < n := by omega
  have nl : (D.loc l).noL = false := by simp only [D.noL]
  show (if (D.loc l).noL then some (D.loc l, []) else if l < n then some (D.loc l, []) else match o[l]? with
    | some (.lst xs) => (demL (dem o n (k + 1)) xs).map fun p => (D.tl p.1, p.2 ++ [l])
    | some (.dic ks vs) => if D.noLs ks then (demL (dem o n (k + 1)) vs).map fun p => (D.td ks p.1, p.2 ++ [l]) else none
    | _ => none) = _
  simp only [nl, Bool.false_eq_true, if_false, q, z, demL_noL h3, Option.map_some, List.nil_append]
theorem dem_dic {o : List MO} {n k l : Nat} {ks xs : List D} (h1 : n ≤ l) (h2 : dicOf o[l]? = some (ks, xs)) (hk : D.noLs ks = true) (h3 : D.noLs xs = true) : dem o n (k + 2) (.loc l) = some (.td ks xs, [l]) := by
  have z := dic_of h2
  have q : ¬ l < n := by omega
  have nl : (D.loc l).noL = false := by simp only [D.noL]
  show (if (D.loc l).noL then some (D.loc l, []) else if l < n then some (D.loc l, []) else match o[l]? with
    | some (.lst xs) => (demL (dem o n (k + 1)) xs).map fun p => (D.tl p.1, p.2 ++ [l])
    | some (.dic ks vs) => if D.noLs ks then (demL (dem o n (k + 1)) vs).map fun p => (D.td ks p.1, p.2 ++ [l]) else none
    | _ => none) = _
  simp only [nl, Bool.false_eq_true, if_false, q, z, demL_noL h3, Option.map_some, List.nil_append, hk, if_true]
/-- a list of the call's own is handed back -/
theorem finS_loc {st : Sto} {o : List MO} {k : Nat} {xs : List D} (h : lstOf o[k]? = some xs) (hx : D.noLs xs = true) : finS st (.loc (st.objs.length + k)) ⟨st.objs ++ o, none⟩ = .ok (.tl xs) st :=
  finS_dem (dem_loc (by omega) (by rw [get_bk]; exact h) hx) (by simp)
theorem finS_loc0 {st : Sto} {o : List MO} {xs : List D} (h : lstOf o[0]? = some xs) (hx : D.noLs xs = true) : finS st (.loc st.objs.length) ⟨st.objs ++ o, none⟩ = .ok (.tl xs) st := finS_loc (k := 0) h hx
end
end DV
set_option linter.all false
set_option autoImplicit false
set_option maxRecDepth 100000
/-! PH: what the laws draw. -/
namespace DV
open PySem (Str PyData)
open Enc
section
variable {R : Env} {α β : Type} [Enc α] [Enc β]
/-- a law's pen -/
def PenMO (q : MO) : Prop := ∃ a b c : Int, q = .lst [.int a, .int b, .int c] ∧ 0 ≤ a ∧ 0 ≤ b ∧ b < 2147483648
def PenAt (o : List MO) (p : Nat) : Prop := ∃ q, o[p]? = some q ∧ PenMO q
theorem PenAt.lt {o : List MO} {p : Nat} (h : PenAt o p) : p < o.length := by
  obtain ⟨q, e, _⟩ := h
  exact (List.getElem?_eq_some_iff.mp e).1
theorem PenAt.app {o : List MO} {p : Nat} (h : PenAt o p) (ys : List MO) : PenAt (o ++ ys) p := by
  obtain ⟨q, e, k⟩ := h
  exact ⟨q, get_lt e, k⟩
theorem PenAt.set {o : List MO} {p : Nat} (h : PenAt o p) {q : MO} (k : PenMO q) : PenAt (o.set p q) p := by
  refine ⟨q, ?_, k⟩
  rw [List.getElem?_set_self h.lt]
def S_law_cell_at (g : Run) : Prop := ∀ (is : List Int) (k : Nat) (st : Sto), is.length ≤ 63 → ∃ c : Int, g [.fro (is.map D.int), .int k] st = .ok (.int c) st
theorem b_law_cell_at : S_law_cell_at (runFn R f_law_cell_at) := by
  intro is k st hl
  rw [run_eq _ _ _ rfl]
  by_cases q : k < is.length
  · refine ⟨is[k], ?_⟩
    have e : atIx (is.map D.int) (k : Int) = some (.int is[k]) := by rw [atIx_nat]; simp [q]
    have q2 : (k : Int) < is.length := by omega
    simp [f_law_cell_at, q, e, q2]
    exact finS_pure rfl
  · refine ⟨0, ?_⟩
    have q2 : ¬ (k : Int) < is.length := by omega
    simp [f_law_cell_at, q2]
    exact finS_pure rfl
@[simp] theorem pow_int (st : Sto) (j : Nat) (h : j ≤ 1000) : binop .pow (.int 10) (.int j) st = .ok (.int (10 ^ j)) st := by
  have : (0 : Int) ≤ (j : Int) ∧ (j : Int) ≤ 1000 ∧ (10 : Int).natAbs < 2 ^ 64 := ⟨by omega, by omega, by decide⟩
  simp only [binop, opPow, if_pos this, Int.toNat_natCast]
@[simp] theorem pow_18 (st : Sto) : binop .pow (.int 10) (.int 18) st = .ok (.int 1000000000000000000) st := id rfl
@[simp] theorem pow_12 (st : Sto) : binop .pow (.int 10) (.int 12) st = .ok (.int 1000000000000) st := id rfl
@[simp] theorem pow_11 (st : Sto) : binop .pow (.int 10) (.int 11) st = .ok (.int 100000000000) st := id rfl
@[simp] theorem pow_10 (st : Sto) : binop .pow (.int 10) (.int 10) st = .ok (.int 10000000000) st := id rfl
@[simp] theorem max2_int (i j : Int) (st : Sto) : bltRun .max2 [.int i, .int j] st = .ok (.int (max i j)) st := by
  show Res.ok (D.int (if j > i then j else i)) st = _
  congr 2
  split <;> omega
@[simp] theorem min2_int (i j : Int) (st : Sto) : bltRun .min2 [.int i, .int j] st = .ok (.int (min i j)) st := by
  show Res.ok (D.int (if j < i then j else i)) st = _
  congr 2
  split <;> omega
def S_law_pen (g : Run) : Prop := ∀ (c : Int) (st : Sto), ∃ a b : Int, 0 ≤ a ∧ 0 ≤ b ∧ b < 2147483648 ∧ g [.int c] st = .ok (.tl [.int a, .int b, .int 0]) st
theorem b_law_pen : S_law_pen (runFn R f_law_pen) := by
  intro c st
  refine ⟨max 0 (c - 1000000000000000000), c % 2147483629 + 1, by omega, by omega, by omega, ?_⟩
  rw [run_eq _ _ _ rfl]
  have e := mod_int (i := c) (j := 2147483629) (st := st.bare) (by decide)
  simp only [bare_eq] at e
  simp [f_law_pen, e]
  have z := finS_dem (st := st) (o := []) (d := .tl [.int (max 0 (c - 1000000000000000000)), .int (c % 2147483629 + 1), .int 0]) (l := []) (dem_noL rfl) (by simp)
  simpa using z
def S_law_draw (g : Run) : Prop := ∀ (o : List MO) (p : Nat) (m : Int), PenAt o p → 1 ≤ m → m < 2 ^ 64 → ∃ (r : Nat) (q : MO), (r : Int) < m ∧ PenMO q ∧ g [.loc p, .int m] ⟨o, none⟩ = .ok (.int r) ⟨o.set p q, none⟩
theorem set_self {γ : Type} {o : List γ} {p : Nat} {q : γ} (h : o[p]? = some q) : o.set p q = o := by
  obtain ⟨hp, e⟩ := List.getElem?_eq_some_iff.mp h
  rw [← e, List.set_getElem_self]
theorem finS_len {st : Sto} {o : List MO} {d : D} (h : o.length = st.objs.length) (hd : d.noL = true) : finS st d ⟨o, none⟩ = .ok d ⟨o, st.esc⟩ := by
  show fin st.objs.length st.esc d ⟨o, none⟩ = _
  simp only [fin, clean_none, if_true, dem_noL hd, List.nodup_nil]
  simp only [Sto.trunc]
  rw [List.take_of_length_le (by omega)]
theorem mulOk_left {i j : Int} (h1 : -(2 ^ 64) < i) (h2 : i < 2 ^ 64) : mulOk i j = true := by
  simp only [mulOk, Bool.or_eq_true, Bool.and_eq_true, decide_eq_true_eq]
  exact .inl ⟨h1, h2⟩
theorem mulOk_right {i j : Int} (h1 : -(2 ^ 64) < j) (h2 : j < 2 ^ 64) : mulOk i j = true := by
  simp only [mulOk, Bool.or_eq_true, Bool.and_eq_true, decide_eq_true_eq]
  exact .inr ⟨h1, h2⟩
theorem draw_of {g : Run} {o : List MO} {p : Nat} {m : Int} (h : ∃ (v : Int) (q : MO), 0 ≤ v ∧ v < m ∧ PenMO q ∧ g [.loc p, .int m] ⟨o, none⟩ = .ok (.int v) ⟨o.set p q, none⟩) : ∃ (r : Nat) (q : MO), (r : Int) < m ∧ PenMO q ∧ g [.loc p, .int m] ⟨o, none⟩ = .ok (.int r) ⟨o.set p q, none⟩ := by
  obtain ⟨v, q, h0, h1, h2, h3⟩ := h
  obtain ⟨r, rfl⟩ := Int.eq_ofNat_of_zero_le h0
  exact ⟨r, q, h1, h2, h3⟩
theorem b_law_draw : S_law_draw (runFn R f_law_draw) := by
  intro o p m hp h1 h2
  obtain ⟨q, hq, a, b, c, rfl, ha, hb, hb2⟩ := hp
  have lt := (List.getElem?_eq_some_iff.mp hq).1
  have L : lstOf o[p]? = some [.int a, .int b, .int c] := by rw [hq]; rfl
  have i0 : atIx [D.int a, .int b, .int c] 0 = some (.int a) := rfl
  have i1 : atIx [D.int a, .int b, .int c] 1 = some (.int b) := rfl
  have i2 : atIx [D.int a, .int b, .int c] 2 = some (.int c) := rfl
  apply draw_of
  rw [run_eq _ _ _ rfl]
  by_cases pos : 0 < a
  · refine ⟨a % m, .lst [.int (a / m), .int b, .int c], Int.emod_nonneg _ (by omega), Int.emod_lt_of_pos _ (by omega), ⟨_, _, _, rfl, Int.ediv_nonneg ha (by omega), hb, hb2⟩, ?_⟩
    have e1 := setIx_lst (e := none) (k := 0) (d := .int (a / m)) L (by simp) rfl
    have e2 := fdiv_int (i := a) (j := m) (st := ⟨o, none⟩) ⟨by omega, h2⟩
    have e3 := mod_int (i := a) (j := m) (st := ⟨o, none⟩) (by omega)
    simp at e1
    simp [f_law_draw, idx_loc L, i0, pos, e2, e3, e1]
    exact finS_len (st := ⟨o, none⟩) (by simp) rfl
  · obtain ⟨x, hx, hx0, hx1⟩ : ∃ x, (b * 48271 + 1009 * (c + 1) + 7) % 2147483647 = x ∧ 0 ≤ x ∧ x < 2147483647 := ⟨_, rfl, Int.emod_nonneg _ (by decide), Int.emod_lt_of_pos _ (by decide)⟩
    obtain ⟨y, hy, hy0, hy1⟩ : ∃ y, (x * x + 69621 * x + 11) % 2147483629 = y ∧ 0 ≤ y ∧ y < 2147483629 := ⟨_, rfl, Int.emod_nonneg _ (by decide), Int.emod_lt_of_pos _ (by decide)⟩
    obtain ⟨z, hz, hz0⟩ : ∃ z, (y * y + 40014 * y) % 2147483587 = z ∧ 0 ≤ z := ⟨_, rfl, Int.emod_nonneg _ (by decide)⟩
    refine ⟨z / 16 % m, .lst [.int a, .int x, .int (c + 1)], Int.emod_nonneg _ (by omega), Int.emod_lt_of_pos _ (by omega), ⟨_, _, _, rfl, ha, hx0, by omega⟩, ?_⟩
    have e1 := setIx_lst (e := none) (k := 2) (d := .int (c + 1)) L (by simp) rfl
    have L2 : lstOf (o.set p (.lst [.int a, .int b, .int (c + 1)]))[p]? = some [.int a, .int b, .int (c + 1)] := by rw [List.getElem?_set_self lt]; rfl
    have e2 := setIx_lst (e := none) (k := 1) (d := .int x) L2 (by simp) rfl
    have L3 : lstOf (o.set p (.lst [.int a, .int x, .int (c + 1)]))[p]? = some [.int a, .int x, .int (c + 1)] := by rw [List.getElem?_set_self lt]; rfl
    have j1 : atIx [D.int a, .int b, .int (c + 1)] 1 = some (.int b) := rfl
    have j2 : atIx [D.int a, .int b, .int (c + 1)] 2 = some (.int (c + 1)) := rfl
    have k1 : atIx [D.int a, .int x, .int (c + 1)] 1 = some (.int x) := rfl
    have m1 : ∀ st, binop .mul (.int b) (.int 48271) st = .ok (.int (b * 48271)) st := fun st => mul_int (mulOk_right (by decide) (by decide))
    have m2 : ∀ st, binop .mul (.int 1009) (.int (c + 1)) st = .ok (.int (1009 * (c + 1))) st := fun st => mul_int (mulOk_left (by decide) (by decide))
    have m3 : ∀ st, binop .mul (.int x) (.int x) st = .ok (.int (x * x)) st := fun st => mul_int (mulOk_left (by omega) (by omega))
    have m4 : ∀ st, binop .mul (.int 69621) (.int x) st = .ok (.int (69621 * x)) st := fun st => mul_int (mulOk_left (by decide) (by decide))
    have m5 : ∀ st, binop .mul (.int y) (.int y) st = .ok (.int (y * y)) st := fun st => mul_int (mulOk_left (by omega) (by omega))
    have m6 : ∀ st, binop .mul (.int 40014) (.int y) st = .ok (.int (40014 * y)) st := fun st => mul_int (mulOk_left (by decide) (by decide))
    have d1 : ∀ i st, binop .mod (.int i) (.int 2147483647) st = .ok (.int (i % 2147483647)) st := fun i st => mod_int (by decide)
    have d2 : ∀ i st, binop .mod (.int i) (.int 2147483629) st = .ok (.int (i % 2147483629)) st := fun i st => mod_int (by decide)
    have d3 : ∀ i st, binop .mod (.int i) (.int 2147483587) st = .ok (.int (i % 2147483587)) st := fun i st => mod_int (by decide)
    have d4 : ∀ i st, binop .mod (.int i) (.int m) st = .ok (.int (i % m)) st := fun i st => mod_int (by omega)
    have d5 : ∀ i st, binop .fdiv (.int i) (.int 16) st = .ok (.int (i / 16)) st := fun i st => fdiv_int (by decide)
    simp at e1 e2
    simp [f_law_draw, idx_loc L, idx_loc L2, idx_loc L3, i0, i2, j1, j2, k1, pos, m1, m2, m3, m4, m5, m6, d1, d2, d3, d4, d5, e1, e2, hx, hy, hz]
    exact finS_len (st := ⟨o, none⟩) (by simp) rfl
end
end DV
set_option linter.all false
set_option autoImplicit false
set_option maxRecDepth 100000
/-! PI: drawn houses, seatings, stands. -/
namespace DV
open PySem (Str PyData)
open Enc
section
variable {R : Env} {α β : Type} [Enc α] [Enc β]
section
variable {γ : Type} {b ys : List γ} {n : Nat}
theorem get_n (h : b.length = n) : (b ++ ys)[n]? = ys[0]? := by subst h; exact get_b0 b ys
theorem get_nk (h : b.length = n) (k : Nat) : (b ++ ys)[n + k]? = ys[k]? := by subst h; exact get_bk b ys k
theorem set_n (h : b.length = n) (a : γ) : (b ++ ys).set n a = b ++ ys.set 0 a := by subst h; exact set_b0 b ys a
theorem set_nk (h : b.length = n) (k : Nat) (a : γ) : (b ++ ys).set (n + k) a = b ++ ys.set k a := by subst h; exact set_bk b ys k a
end
theorem stl_tlD' (xs : List α) {o : List MO} {e : Option Nat} {n : Nat} (h : o.length = n) : stl (.tl (mapD xs)) ⟨o, e⟩ = (.loc n, ⟨o ++ [.lst (mapD xs)], e⟩) := by subst h; exact stl_tlD xs o e
/-- a call's end where objects were laid for its arguments -/
theorem endC_app {st : Sto} {o xs : List MO} {d : D} (h : o.length = st.objs.length) (hd : d.noL = true) : endC st (.ok d ⟨o ++ xs, none⟩) = .ok d ⟨o, st.esc⟩ := by
  cases xs with
  | nil => rw [List.append_nil]; exact endC_len h d none
  | cons x xs =>
    have q : ¬ (o ++ x :: xs).length = st.objs.length := by simp; omega
    simp only [endC, finC, q, if_false]
    have z := fin_noL (st := ⟨o, none⟩) (e := st.esc) (o := x :: xs) hd
    simp only [h] at z
    exact z
theorem endC_same {st : Sto} {o : List MO} {d : D} (h : o.length = st.objs.length) : endC st (.ok d ⟨o, none⟩) = .ok d ⟨o, st.esc⟩ := endC_len h d none
/-- what is handed back, the store otherwise where the pen stands -/
theorem finS_app {st : Sto} {o xs : List MO} {d : D} (h : o.length = st.objs.length) (hd : d.noL = true) : finS st d ⟨o ++ xs, none⟩ = .ok d ⟨o, st.esc⟩ := by
  have z := fin_noL (st := ⟨o, none⟩) (e := st.esc) (o := xs) hd
  simp only [h] at z
  exact z
theorem finS_loc_app {st : Sto} {o xs : List MO} {k : Nat} {ds : List D} (h : o.length = st.objs.length) (hk : lstOf xs[k]? = some ds) (hd : D.noLs ds = true) : finS st (.loc (st.objs.length + k)) ⟨o ++ xs, none⟩ = .ok (.tl ds) ⟨o, st.esc⟩ := by
  show fin st.objs.length st.esc _ ⟨o ++ xs, none⟩ = _
  have e : dem (o ++ xs) st.objs.length 40 (.loc (st.objs.length + k)) = some (.tl ds, [st.objs.length + k]) := dem_loc (by omega) (by rw [get_nk h]; exact hk) hd
  simp only [fin, clean_none, if_true, e]
  simp [Sto.trunc, ← h]
def S_law_mixed (g : Run) : Prop := ∀ {α : Type} [Enc α] (o : List MO) (p l : Nat) (xs : List α), PenAt o p → lstOf o[l]? = some (mapD xs) → xs.length ≤ 1000 →
  ∃ (ys : List α) (q : MO), ys.Perm xs ∧ PenMO q ∧ g [.loc p, .loc l] ⟨o, none⟩ = .ok (.tl (mapD ys)) ⟨o.set p q, none⟩
theorem perm_pop {γ : Type} : ∀ {xs : List γ} {k : Nat} {x : γ}, xs[k]? = some x → (x :: xs.eraseIdx k).Perm xs
  | [], _, _, h => by simp at h
  | y :: ys, 0, x, h => by simp at h; subst h; exact List.Perm.refl _
  | y :: ys, k + 1, x, h => by
    have z := perm_pop (xs := ys) (k := k) (by simpa using h)
    rw [List.eraseIdx_cons_succ]
    exact (List.Perm.swap y x _).trans (z.cons y)
theorem b_law_mixed {i : Nat} (h1 : S_law_draw (R.call i)) : S_law_mixed (runFn R (f_law_mixed i)) := by
  intro α _ o p l xs hp hl hx
  rw [run_eq _ _ _ rfl]
  have hx2 : xs.length < 2 ^ 61 := by omega
  simp [f_law_mixed, list_loc hl, stl_not, settle_tup, settle_tl, settles_nil, settles_cons, settles_mapD]
  have hl' : lstOf (o ++ [MO.lst (mapD xs), .lst []])[l]? = some (mapD xs) := by
    rw [get_lt (lst_of hl)]; rfl
  simp [len_loc hl']
  obtain ⟨s', st', e, left, found, q, w, rfl, rfl, hq, hperm, hlen⟩ := for_inv (R := R) (k := .range1) (t := .nm 4) (ds := [.int xs.length]) (h := toD) (ys := List.range xs.length)
    (b := [.ex (.mth .append (.var 3) [.mth .pop1 (.var 2) [.call i [.var 0, .blt .len [.var 2]]]])])
    (s := [some (.loc p), some (.loc l), some (.loc o.length), some (.loc (o.length + 1)), none]) (st := ⟨o ++ [.lst (mapD xs), .lst []], none⟩)
    (fun done s st => ∃ (left found : List α) (q : MO) (w : Option D), s = [some (.loc p), some (.loc l), some (.loc o.length), some (.loc (o.length + 1)), w] ∧ st = ⟨o.set p q ++ [.lst (mapD left), .lst (mapD found)], none⟩ ∧ PenMO q ∧ (found ++ left).Perm xs ∧ found.length = done.length)
    (src_range hx2) (by
      obtain ⟨q, e, k⟩ := hp
      exact ⟨xs, [], q, none, rfl, by rw [set_self e]; rfl, k, List.Perm.refl _, rfl⟩) (by
      rintro pre y post s st hy ⟨left, found, q, w, rfl, rfl, hq, hperm, hlen⟩
      have hle : pre.length < xs.length := by
        have := congrArg List.length hy
        simp at this
        omega
      have hll : found.length + left.length = xs.length := by rw [← List.length_append]; exact hperm.length_eq
      have lt := hp.lt
      have pa : PenAt (o.set p q ++ [.lst (mapD left), .lst (mapD found)]) p := (hp.set hq).app _
      obtain ⟨r, q2, hr, hq2, e⟩ := h1 _ p left.length pa (by omega) (by omega)
      have hr2 : r < left.length := by omega
      have L : lstOf (o.set p q ++ [.lst (mapD left), .lst (mapD found)])[o.length]? = some (mapD left) := by rw [get_n (by simp)]; rfl
      have e2 : (o.set p q ++ [MO.lst (mapD left), .lst (mapD found)]).set p q2 = o.set p q2 ++ [.lst (mapD left), .lst (mapD found)] := by
        rw [List.set_append_left _ _ (by simpa using lt), List.set_set]
      rw [e2] at e
      have L2 : lstOf (o.set p q2 ++ [.lst (mapD left), .lst (mapD found)])[o.length]? = some (mapD left) := by rw [get_n (by simp)]; rfl
      have gx : (mapD left)[r]? = some (toD left[r]) := by rw [mapD_get, List.getElem?_eq_getElem hr2]; rfl
      have M := pop1_loc (e := none) L2 gx (by rw [mapD_length]; show left.length ≤ 16777216; omega)
      have M2 : (o.set p q2 ++ [MO.lst (mapD left), .lst (mapD found)]).set o.length (.lst ((mapD left).eraseIdx r)) = o.set p q2 ++ [.lst (mapD (left.eraseIdx r)), .lst (mapD found)] := by
        rw [set_n (by simp)]; simp [mapD, map_eraseIdx]
      rw [M2] at M
      have L3 : lstOf (o.set p q2 ++ [.lst (mapD (left.eraseIdx r)), .lst (mapD found)])[o.length + 1]? = some (mapD found) := by rw [get_nk (by simp)]; rfl
      have A := append_loc (e := none) (x := toD left[r]) L3 (by rw [mapD_length]; show found.length < 16777216; omega) (noT_toD _) (noL_toD _)
      rw [set_nk (by simp), mapD_snoc] at A
      have L4 : lstOf (o.set p q ++ [.lst (mapD left), .lst (mapD found)])[o.length + 1]? = some (mapD found) := by rw [get_nk (by simp)]; rfl
      refine ⟨_, [some (.loc p), some (.loc l), some (.loc o.length), some (.loc (o.length + 1)), some (toD y)], ⟨o.set p q2 ++ [.lst (mapD (left.eraseIdx r)), .lst (mapD (found ++ [left[r]]))], none⟩, set_nm _ _ _, ?_, ?_, left.eraseIdx r, found ++ [left[r]], q2, some (toD y), rfl, rfl, hq2, ?_, by simp [hlen]⟩
      · simp [mthOk_lst L (m := .pop1) (by simp), mthOk_lst L4 (m := .append) (by simp), len_loc L, e]
        rw [endC_same (by simp)]
        simp [M, A]
      · simp [stays]
      · have z := perm_pop (List.getElem?_eq_getElem hr2)
        rw [List.append_assoc]
        exact ((z.append_left found)).trans hperm)
  rw [e]
  refine ⟨found, ?_, q, hq, ?_⟩
  · have : found.length + left.length = xs.length := by rw [← List.length_append]; exact hperm.length_eq
    have l0 : left = [] := List.length_eq_zero_iff.mp (by simp at hlen; omega)
    rw [l0, List.append_nil] at hperm
    exact hperm
  · have L5 : (o.set p q ++ [MO.lst (mapD left), .lst (mapD found)])[o.length + 1]? = some (.lst (mapD found)) := by rw [get_nk (by simp)]; rfl
    simp
    exact finS_loc_app (st := ⟨o, none⟩) (by simp) (k := 1) rfl (noLs_mapD found)
end
end DV
set_option linter.all false
set_option autoImplicit false
set_option maxRecDepth 100000
/-! PJ: drawn houses, seatings, stands. -/
namespace DV
open PySem (Str PyData)
open Enc
section
variable {R : Env} {α β : Type} [Enc α] [Enc β]
inductive All2 {γ δ : Type} (G : γ → δ → Prop) : List γ → List δ → Prop
  | nil : All2 G [] []
  | cons {a : γ} {b : δ} {as : List γ} {bs : List δ} : G a b → All2 G as bs → All2 G (a :: as) (b :: bs)
theorem All2.length {γ δ : Type} {G : γ → δ → Prop} {as : List γ} {bs : List δ} (h : All2 G as bs) : as.length = bs.length := by
  induction h with
  | nil => rfl
  | cons _ _ ih => simp [ih]
theorem All2.get {γ δ : Type} {G : γ → δ → Prop} {as : List γ} {bs : List δ} (h : All2 G as bs) : ∀ i (h1 : i < as.length) (h2 : i < bs.length), G as[i] bs[i] := by
  induction h with
  | nil => intro i h1; simp at h1
  | cons g _ ih =>
    intro i h1 h2
    cases i with
    | zero => exact g
    | succ i => exact ih i (by simpa using h1) (by simpa using h2)
theorem All2.mem {γ δ : Type} {G : γ → δ → Prop} {as : List γ} {bs : List δ} (h : All2 G as bs) : ∀ b ∈ bs, ∃ a ∈ as, G a b := by
  induction h with
  | nil => intro b hb; simp at hb
  | cons g _ ih =>
    intro b hb
    rcases List.mem_cons.mp hb with rfl | hb
    · exact ⟨_, by simp, g⟩
    · obtain ⟨a, h1, h2⟩ := ih b hb
      exact ⟨a, List.mem_cons_of_mem _ h1, h2⟩
theorem compB_run {γ : Type} {t : Tg} {c : Slots → Sto → Res Bool} {e : Slots → Sto → Res D} {ls : List Nat} {s : Slots} {h : γ → D} (I : Sto → Prop) (G : γ → β → Prop) : ∀ {ys : List γ} {st : Sto}, I st →
    (∀ y ∈ ys, ∀ st, I st → ∃ s' v st', setTo t (h y) s = some s' ∧ c s' st = .ok true st ∧ e s' st = .ok (toD v) st' ∧ stays ls st st' = true ∧ G y v ∧ I st') →
    ∃ vs st', compB t (oneB c e) ls s (ys.map h) st = .ok (mapD vs) st' ∧ I st' ∧ All2 G ys vs
  | [], st, h0, _ => ⟨[], st, rfl, h0, .nil⟩
  | y :: ys, st, h0, H => by
    obtain ⟨s', v, st1, e1, e2, e3, e4, g, h1⟩ := H y (by simp) st h0
    obtain ⟨vs, st2, e5, h2, a⟩ := compB_run I G h1 fun z hz => H z (List.mem_cons_of_mem _ hz)
    refine ⟨v :: vs, st2, ?_, h2, .cons g a⟩
    simp only [List.map_cons, compB, e1, oneB, e2, bindOk, if_true, e3, e4, e5]
    rfl
theorem compE_run {γ : Type} {e : Ex} {t : Tg} {k : SrcK} {s : Slots} {ds : List D} {ls : List Nat} {st : Sto} (I : Sto → Prop) (G : γ → β → Prop) {h : γ → D} {ys : List γ} (hs : srcItems k ds st = some (ys.map h, ls)) (hl : ys.length ≤ line) (h0 : I st)
    (H : ∀ y ∈ ys, ∀ st, I st → ∃ s' v st', setTo t (h y) s = some s' ∧ evE R e s' st = .ok (toD v) st' ∧ stays ls st st' = true ∧ G y v ∧ I st') :
    ∃ vs st', compE R e [] t k s ds st = .ok (.tl (mapD vs)) st' ∧ I st' ∧ All2 G ys vs := by
  obtain ⟨vs, st', e1, h1, a⟩ := compB_run (c := fun s st => evC R [] s st) (e := fun s st => evE R e s st) (ls := ls) (s := s) I G h0 fun y hy st hi => by
    obtain ⟨s', v, st', e1, e2, e3⟩ := H y hy st hi
    exact ⟨s', v, st', e1, by simp, e2, e3⟩
  refine ⟨vs, st', ?_, h1, a⟩
  have l : (mapD vs).length ≤ line := by rw [mapD_length, ← a.length]; exact hl
  simp only [compE, compR, hs, e1, noX, bindOk, lstD, l, if_true]
/-! the pen -/
theorem pen_start {o : List MO} {p : Nat} (h : PenAt o p) : ∃ q, PenMO q ∧ o = o.set p q := by
  obtain ⟨q, e, k⟩ := h
  exact ⟨q, k, (set_self e).symm⟩
theorem draw_app {g : Run} (h1 : S_law_draw g) {o : List MO} {p : Nat} {q : MO} (ys : List MO) (hp : PenAt o p) (hq : PenMO q) {m : Int} (hm : 1 ≤ m) (hm2 : m < 2 ^ 64) :
    ∃ (r : Nat) (q2 : MO), (r : Int) < m ∧ PenMO q2 ∧ g [.loc p, .int m] ⟨o.set p q ++ ys, none⟩ = .ok (.int r) ⟨o.set p q2 ++ ys, none⟩ := by
  obtain ⟨r, q2, h2, h3, e⟩ := h1 _ p m ((hp.set hq).app ys) hm hm2
  rw [List.set_append_left _ _ (by simpa using hp.lt), List.set_set] at e
  exact ⟨r, q2, h2, h3, e⟩
theorem draw_at {g : Run} (h1 : S_law_draw g) {o : List MO} {p : Nat} {q : MO} (hp : PenAt o p) (hq : PenMO q) {m : Int} (hm : 1 ≤ m) (hm2 : m < 2 ^ 64) :
    ∃ (r : Nat) (q2 : MO), (r : Int) < m ∧ PenMO q2 ∧ g [.loc p, .int m] ⟨o.set p q, none⟩ = .ok (.int r) ⟨o.set p q2, none⟩ := by
  have z := draw_app h1 [] hp hq hm hm2
  simpa using z
@[simp] theorem endC_pen (o ys : List MO) (p : Nat) (q q2 : MO) (d : D) : endC ⟨o.set p q ++ ys, none⟩ (.ok d ⟨o.set p q2 ++ ys, none⟩) = .ok d ⟨o.set p q2 ++ ys, none⟩ := endC_same (by simp)
@[simp] theorem endC_pen0 (o : List MO) (p : Nat) (q q2 : MO) (d : D) : endC ⟨o.set p q, none⟩ (.ok d ⟨o.set p q2, none⟩) = .ok d ⟨o.set p q2, none⟩ := endC_same (by simp)
theorem finS_pen {o : List MO} {p : Nat} {q : MO} {d : D} (ys : List MO) (h : d.noL = true) : finS ⟨o, none⟩ d ⟨o.set p q ++ ys, none⟩ = .ok d ⟨o.set p q, none⟩ := finS_app (st := ⟨o, none⟩) (by simp) h
theorem finS_pen0 {o : List MO} {p : Nat} {q : MO} {d : D} (h : d.noL = true) : finS ⟨o, none⟩ d ⟨o.set p q, none⟩ = .ok d ⟨o.set p q, none⟩ := finS_len (st := ⟨o, none⟩) (by simp) h
def S_law_house (g : Run) : Prop := ∀ (o : List MO) (p most : Nat), PenAt o p → 2 ≤ most → most ≤ 5 → ∃ (h : House) (q : MO), HouseOk h ∧ h.length ≤ most ∧ PenMO q ∧ g [.loc p, .int most] ⟨o, none⟩ = .ok (toD h) ⟨o.set p q, none⟩
/-- a list of a drawn house: one to three names below wide -/
def ListOk (w : Int) (l : List Int) : Prop := (1 ≤ l.length ∧ l.length ≤ 3) ∧ ∀ n ∈ l, 0 ≤ n ∧ n < w
theorem b_law_house {i : Nat} (h1 : S_law_draw (R.call i)) : S_law_house (runFn R (f_law_house i)) := by
  intro o p most hp m1 m2
  rw [run_eq _ _ _ rfl]
  obtain ⟨q0, hq0, eo⟩ := pen_start hp
  obtain ⟨r1, q1, hr1, hq1, e1⟩ := draw_at h1 hp hq0 (m := (most : Int) - 1) (by omega) (by omega)
  rw [← eo] at e1
  obtain ⟨r2, q2, hr2, hq2, e2⟩ := draw_at h1 hp hq1 (m := 2 + (r1 : Int) - 1) (by omega) (by omega)
  obtain ⟨r3, q3, hr3, hq3, e3⟩ := draw_at h1 hp hq2 (m := 3) (by omega) (by omega)
  have ec : endC ⟨o, none⟩ (.ok (.int (r1 : Int)) ⟨o.set p q1, none⟩) = .ok (.int (r1 : Int)) ⟨o.set p q1, none⟩ := endC_same (by simp)
  obtain ⟨w, hw, ew⟩ : ∃ w : Int, (1 ≤ w ∧ w ≤ 2 + (r1 : Int) - 1) ∧ atIx [D.int (2 + (r1 : Int) - 1), .int (2 + (r1 : Int) - 1), .int (1 + (r2 : Int))] (r3 : Int) = some (.int w) := by
    rw [atIx_nat]
    have : r3 = 0 ∨ r3 = 1 ∨ r3 = 2 := by omega
    rcases this with rfl | rfl | rfl
    · exact ⟨_, ⟨by omega, by omega⟩, rfl⟩
    · exact ⟨_, ⟨by omega, by omega⟩, rfl⟩
    · exact ⟨_, ⟨by omega, by omega⟩, rfl⟩
  have ef : ∃ s' st', frE R .range1 (.nm 5) [.ex (.mth .append (.var 4) [.blt .tuple [.comp (.call i [.var 0, .var 3]) [6] (.nm 6) .range1 [.bin .add (.int 1) (.call i [.var 0, .int 3])] []]])] [some (.loc p), some (.int most), some (.int (2 + (r1 : Int))), some (.int w), some (.loc o.length), none, none] [.int (2 + (r1 : Int))] ⟨o.set p q3 ++ [.lst []], none⟩ = .nxt s' st' ∧
      ∃ (h : House) (q : MO) (a b : Option D), s' = [some (.loc p), some (.int most), some (.int (2 + (r1 : Int))), some (.int w), some (.loc o.length), a, b] ∧ st' = ⟨o.set p q ++ [.lst (mapD h)], none⟩ ∧ PenMO q ∧ h.length = (List.range (2 + r1)).length ∧ ∀ l ∈ h, ListOk w l := by
    refine for_inv (h := toD) (ys := List.range (2 + r1)) (ls := [])
      (fun done s st => ∃ (h : House) (q : MO) (a b : Option D), s = [some (.loc p), some (.int most), some (.int (2 + (r1 : Int))), some (.int w), some (.loc o.length), a, b] ∧ st = ⟨o.set p q ++ [.lst (mapD h)], none⟩ ∧ PenMO q ∧ h.length = done.length ∧ ∀ l ∈ h, ListOk w l) ?_ ⟨[], q3, none, none, rfl, rfl, hq3, rfl, by simp⟩ ?_
    · have := src_range (n := 2 + r1) (st := ⟨o.set p q3 ++ [.lst []], none⟩) (by omega)
      rw [← this]
      congr 3
    · rintro pre y post s st hy ⟨h, q, a, b, rfl, rfl, hq, hl, hh⟩
      have hle : pre.length < 2 + r1 := by
        have := congrArg List.length hy
        simp at this
        omega
      obtain ⟨r4, q4, hr4, hq4, e4⟩ := draw_app h1 [.lst (mapD h)] hp hq (m := 3) (by omega) (by omega)
      have L : ∀ q, lstOf (o.set p q ++ [.lst (mapD h)])[o.length]? = some (mapD h) := fun q => by rw [get_n (by simp)]; rfl
      obtain ⟨vs, st2, e5, ⟨q5, rfl, hq5⟩, a2⟩ := compE_run (R := R) (e := .call i [.var 0, .var 3]) (t := .nm 6) (k := .range1) (s := [some (.loc p), some (.int most), some (.int (2 + (r1 : Int))), some (.int w), some (.loc o.length), some (toD y), none]) (ds := [.int (1 + (r4 : Int))]) (ls := []) (st := ⟨o.set p q4 ++ [.lst (mapD h)], none⟩)
        (fun st => ∃ q, st = ⟨o.set p q ++ [.lst (mapD h)], none⟩ ∧ PenMO q) (fun (_ : Nat) (v : Int) => 0 ≤ v ∧ v < w) (h := toD) (ys := List.range (1 + r4)) (by
          have := src_range (n := 1 + r4) (st := ⟨o.set p q4 ++ [.lst (mapD h)], none⟩) (by omega)
          rw [← this]
          congr 3) (by rw [List.length_range]; show 1 + r4 ≤ 16777216; omega) ⟨q4, rfl, hq4⟩ (by
          rintro z hz st ⟨q, rfl, hq⟩
          obtain ⟨r6, q6, hr6, hq6, e6⟩ := draw_app h1 [.lst (mapD h)] hp hq (m := w) (by omega) (by omega)
          exact ⟨_, (r6 : Int), _, set_nm _ _ _, by simp [e6], by simp [stays], ⟨by omega, hr6⟩, q6, rfl, hq6⟩)
      have lv : vs.length = 1 + r4 := by rw [← a2.length]; simp
      have A := append_loc (e := none) (x := toD vs) (L q5) (by rw [mapD_length]; show h.length < 16777216; omega) (noT_toD _) (noL_toD _)
      rw [set_n (by simp), mapD_snoc] at A
      refine ⟨_, [some (.loc p), some (.int most), some (.int (2 + (r1 : Int))), some (.int w), some (.loc o.length), some (toD y), b], ⟨o.set p q5 ++ [.lst (mapD (h ++ [vs]))], none⟩, set_nm _ _ _, ?_, by simp [stays], h ++ [vs], q5, some (toD y), b, rfl, rfl, hq5, by simp [hl], ?_⟩
      · simp at A
        simp [mthOk_lst (L q) (m := .append) (by simp), e4, wipeD]
        simp at e5
        rw [e5]
        simp [A]
      · intro l hl2
        rcases List.mem_append.mp hl2 with z | z
        · exact hh l z
        · simp at z
          subst z
          refine ⟨⟨by omega, by omega⟩, fun n hn => ?_⟩
          obtain ⟨_, _, g⟩ := a2.mem n hn
          exact g
  obtain ⟨s', st', e4, h, q, a, b, rfl, rfl, hq, hl, hh⟩ := ef
  simp at hl
  refine ⟨h, q, ⟨by omega, fun l hl => (hh l hl).1, fun l hl2 n hn => ?_⟩, by omega, hq, ?_⟩
  · have := (hh l hl2).2 n hn
    omega
  · have L : lstOf (o.set p q ++ [.lst (mapD h)])[o.length]? = some (mapD h) := by rw [get_n (by simp)]; rfl
    simp [f_law_house, e1, ec, e2, e3, ew, stl_not, settle_tup, settle_tl, settle_int, settles_nil, settles_cons, e4, tuple_loc L]
    exact finS_pen _ (noL_toD h)
end
end DV
set_option linter.all false
set_option autoImplicit false
set_option maxRecDepth 100000
/-! PK: dicts. -/
namespace DV
open PySem (Str PyData)
open Enc
section
variable {R : Env} {α β : Type} [Enc α] [Enc β]
theorem toD_inj {a b : α} : toD a = toD b ↔ a = b := by
  constructor
  · intro h
    have h1 := toPd [] (dep α) a (Nat.le_refl _)
    have h2 := toPd [] (dep α) b (Nat.le_refl _)
    rw [h, h2] at h1
    have h3 : dat a = dat b := (Option.some.inj h1).symm
    exact (inj a b).mp (by rw [h3]; exact (inj b b).mpr rfl)
  · intro h; rw [h]
/-- keys that go with one another -/
def KeyT (α : Type) [Enc α] : Prop := ∀ (ks : List α) (k : α), keyOk (mapD ks) (toD k) = true
theorem keyT_int : KeyT Int := by
  intro ks k
  have : (mapD ks).all D.leaf = true := by
    unfold mapD
    rw [List.all_map, List.all_eq_true]
    intro x _
    rfl
  unfold keyOk
  rw [show (toD k).leaf = true from rfl, if_pos rfl, this]
theorem keyT_nat : KeyT Nat := by
  intro ks k
  have : (mapD ks).all D.leaf = true := by
    unfold mapD
    rw [List.all_map, List.all_eq_true]
    intro x _
    rfl
  unfold keyOk
  rw [show (toD k).leaf = true from rfl, if_pos rfl, this]
theorem keyT_tup (h1 : ∀ k : α, (toD k).isTup = true) (h2 : ∀ k : α, (toD k).nk = true) (h3 : ∀ k : α, (toD k).dep ≤ 8) : KeyT α := by
  intro ks k
  have e : (mapD ks).all D.isTup = true := by
    unfold mapD
    rw [List.all_map, List.all_eq_true]
    intro x _
    exact h1 x
  have l : (toD k).leaf = false := by
    have := h1 k
    cases q : toD k <;> rw [q] at this <;> first | rfl | cases this
  unfold keyOk
  rw [l, if_neg Bool.false_ne_true, h1, h2, e]
  simp [h3]
theorem nks_map {xs : List α} {f : α → D} (h : ∀ a ∈ xs, (f a).nk = true) : D.nks (xs.map f) = true := by
  induction xs with
  | nil => rfl
  | cons x xs ih => simp only [List.map_cons, D.nks, h x (by simp), ih fun a ha => h a (List.mem_cons_of_mem _ ha), Bool.and_self]
theorem deps_map {xs : List α} {f : α → D} {n : Nat} (h : ∀ a ∈ xs, (f a).dep ≤ n) : D.deps (xs.map f) ≤ n := by
  induction xs with
  | nil => simp [D.deps]
  | cons x xs ih =>
    simp only [List.map_cons, D.deps]
    have := h x (by simp)
    have := ih fun a ha => h a (List.mem_cons_of_mem _ ha)
    omega
theorem dep_ints (xs : List Int) : (toD xs).dep ≤ 1 ∧ (toD xs).nk = true := by
  constructor
  · simp only [toD_list, D.dep]
    have := deps_map (xs := xs) (f := toD) (n := 0) fun a _ => by simp [D.dep]
    omega
  · simp only [toD_list, D.nk]
    exact nks_map fun a _ => by simp [D.nk]
theorem dep_nats (xs : List Nat) : (toD xs).dep ≤ 1 ∧ (toD xs).nk = true := by
  constructor
  · simp only [toD_list, D.dep]
    have := deps_map (xs := xs) (f := toD) (n := 0) fun a _ => by simp [D.dep]
    omega
  · simp only [toD_list, D.nk]
    exact nks_map fun a _ => by simp [D.nk]
theorem keyT_ints : KeyT (List Int) := keyT_tup (fun _ => rfl) (fun k => (dep_ints k).2) fun k => Nat.le_trans (dep_ints k).1 (by decide)
theorem keyT_nats : KeyT (List Nat) := keyT_tup (fun _ => rfl) (fun k => (dep_nats k).2) fun k => Nat.le_trans (dep_nats k).1 (by decide)
theorem keyT_stand : KeyT (List Int × List Nat) := keyT_tup (fun _ => rfl) (fun k => by
    simp only [toD_prod, D.nk, D.nks, (dep_ints k.1).2, (dep_nats k.2).2, Bool.and_self]) fun k => by
  have h1 := (dep_ints k.1).1
  have h2 := (dep_nats k.2).1
  simp only [toD_prod, D.dep, D.deps]
  omega
/-- a dict's pairs -/
def dicP (ps : List (α × β)) : MO := .dic (mapD (ps.map (·.1))) (mapD (ps.map (·.2)))
def look {γ δ : Type} [DecidableEq γ] (ps : List (γ × δ)) (k : γ) : Option δ := (ps.find? fun p => decide (p.1 = k)).map (·.2)
def putP {γ δ : Type} [DecidableEq γ] : List (γ × δ) → γ → δ → List (γ × δ)
  | [], k, v => [(k, v)]
  | p :: ps, k, v => if p.1 = k then (k, v) :: ps else p :: putP ps k v
theorem dictFind_mapD [DecidableEq α] (hk : KeyT α) (ks : List α) (k : α) : dictFind (mapD ks) (toD k) = some (ks.findIdx? fun z => decide (z = k)) := by
  unfold dictFind
  rw [if_pos (hk ks k)]
  unfold mapD
  rw [findMap]
  congr 2
  funext z
  rw [decide_eq_decide]
  exact toD_inj
theorem look_find {γ δ : Type} [DecidableEq γ] : ∀ (ps : List (γ × δ)) (k : γ), (match (ps.map (·.1)).findIdx? fun z => decide (z = k) with | some j => ((ps.map (·.2))[j]?) | none => none) = look ps k
  | [], k => rfl
  | p :: ps, k => by
    have ih := look_find ps k
    unfold look at ih ⊢
    rw [List.map_cons, List.findIdx?_cons, List.find?_cons]
    by_cases e : p.1 = k
    · simp [e]
    · simp only [e, decide_false, Bool.false_eq_true, if_false]
      rw [← ih]
      cases (ps.map (·.1)).findIdx? fun z => decide (z = k) <;> simp
theorem find_some_look {γ δ : Type} [DecidableEq γ] : ∀ (ps : List (γ × δ)) (k : γ), ((ps.map (·.1)).findIdx? fun z => decide (z = k)).isSome = (look ps k).isSome
  | [], k => rfl
  | p :: ps, k => by
    have ih := find_some_look ps k
    unfold look at ih ⊢
    rw [List.map_cons, List.findIdx?_cons, List.find?_cons]
    by_cases e : p.1 = k
    · simp [e]
    · simp only [e, decide_false, Bool.false_eq_true, if_false]
      simpa using ih
theorem dictLook_P [DecidableEq α] (hk : KeyT α) (ps : List (α × β)) (k : α) : dictLook (mapD (ps.map (·.1))) (mapD (ps.map (·.2))) (toD k) = some ((look ps k).map toD) := by
  unfold dictLook
  rw [dictFind_mapD hk]
  have z := look_find ps k
  have s := find_some_look ps k
  cases q : (ps.map (·.1)).findIdx? fun z => decide (z = k) with
  | none => rw [q] at z; simp only at z ⊢; rw [← z]; rfl
  | some j =>
    rw [q] at z s
    simp only at z ⊢
    rw [mapD_get, z]
    cases q2 : look ps k with
    | none => rw [q2] at s; simp at s
    | some v => rfl
theorem get2_dic [DecidableEq α] (hk : KeyT α) {o : List MO} {e : Option Nat} {l : Nat} {ps : List (α × β)} (h : o[l]? = some (dicP ps)) (k : α) (d : D) : mthRun .get2 (.loc l) [toD k, d] ⟨o, e⟩ = .ok (((look ps k).map toD).getD d) ⟨o, e⟩ := by
  simp only [mthRun, get2D, dict_loc, h, dicP, dicOf_dic, dictLook_P hk]
  cases look ps k <;> rfl
theorem mthOk_dic {o : List MO} {e : Option Nat} {l : Nat} {ps : List (α × β)} (h : o[l]? = some (dicP ps)) : mthOk .get2 (.loc l) ⟨o, e⟩ = true := by
  simp only [mthOk, dict_loc, h, dicP, dicOf_dic, Option.isSome_some]
theorem in_dic [DecidableEq α] (hk : KeyT α) {o : List MO} {e : Option Nat} {l : Nat} {ps : List (α × β)} (h : o[l]? = some (dicP ps)) (k : α) : cmpop .inn (toD k) (.loc l) ⟨o, e⟩ = .ok (.bl (look ps k).isSome) ⟨o, e⟩ := by
  simp only [cmpop, opIn, seq_loc, dict_loc, h, dicP, dicOf_dic, lstOf_dic, dictFind_mapD hk, find_some_look]
theorem nin_dic [DecidableEq α] (hk : KeyT α) {o : List MO} {e : Option Nat} {l : Nat} {ps : List (α × β)} (h : o[l]? = some (dicP ps)) (k : α) : cmpop .nin (toD k) (.loc l) ⟨o, e⟩ = .ok (.bl (!(look ps k).isSome)) ⟨o, e⟩ := by
  simp only [cmpop, opNin, opIn, seq_loc, dict_loc, h, dicP, dicOf_dic, lstOf_dic, dictFind_mapD hk, find_some_look, notB]
theorem idx_dic [DecidableEq α] (hk : KeyT α) {o : List MO} {e : Option Nat} {l : Nat} {ps : List (α × β)} (h : o[l]? = some (dicP ps)) (k : α) : opIdx (.loc l) (toD k) ⟨o, e⟩ = optR ((look ps k).map toD) ⟨o, e⟩ := by
  simp only [opIdx, seq_loc, dict_loc, h, dicP, dicOf_dic, lstOf_dic, dictLook_P hk]
  cases look ps k <;> rfl
theorem put_find {γ δ : Type} [DecidableEq γ] : ∀ (ps : List (γ × δ)) (k : γ) (v : δ), (match (ps.map (·.1)).findIdx? fun z => decide (z = k) with | some j => (ps.map (·.1), (ps.map (·.2)).set j v) | none => (ps.map (·.1) ++ [k], ps.map (·.2) ++ [v])) = ((putP ps k v).map (·.1), (putP ps k v).map (·.2))
  | [], k, v => rfl
  | p :: ps, k, v => by
    have ih := put_find ps k v
    rw [List.map_cons, List.findIdx?_cons]
    by_cases e : p.1 = k
    · simp [putP, e]
    · simp only [e, decide_false, Bool.false_eq_true, if_false, putP]
      cases q : (ps.map (·.1)).findIdx? fun z => decide (z = k) with
      | none => rw [q] at ih; simp only [Prod.mk.injEq] at ih; simp [ih.1, ih.2]
      | some j => rw [q] at ih; simp only [Prod.mk.injEq] at ih; simp [← ih.1, ← ih.2]
theorem setIx_dic [DecidableEq α] (hk : KeyT α) {o : List MO} {e : Option Nat} {l : Nat} {ps : List (α × β)} (h : o[l]? = some (dicP ps)) (k : α) (v : β) (hl : ps.length < line) : setIx (.loc l) (toD k) (toD v) ⟨o, e⟩ = some ⟨o.set l (dicP (putP ps k v)), e⟩ := by
  have z := put_find ps k v
  have hl2 : (mapD (ps.map (·.1))).length < line := by rw [mapD_length, List.length_map]; exact hl
  simp only [setIx, h, dicP, dictFind_mapD hk, Sto.put, noL_toD, if_true]
  cases q : (ps.map (·.1)).findIdx? fun z => decide (z = k) with
  | none =>
    rw [q] at z
    simp only [Prod.mk.injEq] at z
    simp only [hl2, if_true, ← z.1, ← z.2, mapD_snoc]
  | some j =>
    rw [q] at z
    simp only [Prod.mk.injEq] at z
    simp only [← z.1, ← z.2, mapD_set]
@[simp] theorem dicP_nil : dicP ([] : List (α × β)) = .dic [] [] := id rfl
theorem look_put {γ δ : Type} [DecidableEq γ] : ∀ (ps : List (γ × δ)) (k j : γ) (v : δ), look (putP ps k v) j = if j = k then some v else look ps j
  | [], k, j, v => by
    simp only [putP, look, List.find?_cons, List.find?_nil]
    by_cases e : k = j
    · simp [e]
    · have : ¬ j = k := fun h => e h.symm
      simp [e, this]
  | p :: ps, k, j, v => by
    have ih := look_put ps k j v
    unfold look at ih ⊢
    simp only [putP]
    by_cases e : p.1 = k
    · rw [if_pos e]
      simp only [List.find?_cons]
      by_cases e2 : k = j
      · simp [e2]
      · have : ¬ j = k := fun h => e2 h.symm
        have e3 : ¬ p.1 = j := by rw [e]; exact e2
        simp [e2, this, e3]
    · rw [if_neg e]
      simp only [List.find?_cons]
      by_cases e2 : p.1 = j
      · have : ¬ j = k := fun h => e (e2.trans h)
        simp [e2, this]
      · simp only [e2, decide_false]
        exact ih
theorem put_new {γ δ : Type} [DecidableEq γ] : ∀ (ps : List (γ × δ)) (k : γ) (v : δ), look ps k = none → putP ps k v = ps ++ [(k, v)]
  | [], k, v, _ => rfl
  | p :: ps, k, v, h => by
    unfold look at h
    rw [List.find?_cons] at h
    by_cases e : p.1 = k
    · simp [e] at h
    · simp only [e, decide_false] at h
      simp only [putP, if_neg e, List.cons_append, put_new ps k v h]
theorem look_none {γ δ : Type} [DecidableEq γ] {ps : List (γ × δ)} {k : γ} : look ps k = none ↔ k ∉ ps.map (·.1) := by
  unfold look
  rw [Option.map_eq_none_iff, List.find?_eq_none]
  simp only [List.mem_map, decide_eq_true_eq]
  exact ⟨fun h ⟨p, hp, e⟩ => h p hp e, fun h p hp e => h ⟨p, hp, e⟩⟩
theorem look_mem {γ δ : Type} [DecidableEq γ] {ps : List (γ × δ)} {k : γ} : (look ps k).isSome = decide (k ∈ ps.map (·.1)) := by
  cases q : look ps k with
  | none => have := look_none.mp q; simpa using this
  | some v =>
    have : ¬ k ∉ ps.map (·.1) := fun h => by rw [look_none.mpr h] at q; cases q
    simpa using this
end
end DV
set_option linter.all false
set_option autoImplicit false
set_option maxRecDepth 100000
/-! PL: drawn seatings and stands. -/
namespace DV
open PySem (Str PyData)
open Enc
section
variable {R : Env} {α β : Type} [Enc α] [Enc β]
theorem endC_app0 {o xs : List MO} {p : Nat} {q : MO} {d : D} (hd : d.noL = true) : endC ⟨o, none⟩ (.ok d ⟨o.set p q ++ xs, none⟩) = .ok d ⟨o.set p q, none⟩ := endC_app (st := ⟨o, none⟩) (by simp) hd
theorem endC_app1 {o xs : List MO} {p : Nat} {q q2 : MO} {d : D} (hd : d.noL = true) : endC ⟨o.set p q, none⟩ (.ok d ⟨o.set p q2 ++ xs, none⟩) = .ok d ⟨o.set p q2, none⟩ := endC_app (st := ⟨o.set p q, none⟩) (by simp) hd
theorem endC_app2 {o ys xs : List MO} {p : Nat} {q q2 : MO} {d : D} (hd : d.noL = true) : endC ⟨o.set p q ++ ys, none⟩ (.ok d ⟨o.set p q2 ++ ys ++ xs, none⟩) = .ok d ⟨o.set p q2 ++ ys, none⟩ := endC_app (st := ⟨o.set p q ++ ys, none⟩) (by simp) hd
/-- a mixing of a list that is laid for the call -/
theorem mixed_app {g : Run} (h1 : S_law_mixed g) {o : List MO} {p : Nat} {q : MO} (ys : List MO) (hp : PenAt o p) (hq : PenMO q) (xs : List α) (hl : xs.length ≤ 1000) :
    ∃ (zs : List α) (q2 : MO), zs.Perm xs ∧ PenMO q2 ∧ g [.loc p, .loc (o.length + ys.length)] ⟨o.set p q ++ ys ++ [.lst (mapD xs)], none⟩ = .ok (.tl (mapD zs)) ⟨o.set p q2 ++ ys ++ [.lst (mapD xs)], none⟩ := by
  obtain ⟨zs, q2, h2, h3, e⟩ := h1 (α := α) _ p (o.length + ys.length) xs (((hp.set hq).app ys).app [.lst (mapD xs)]) (by
    rw [get_n (by simp)]; rfl) hl
  rw [List.append_assoc, List.set_append_left _ _ (by simpa using hp.lt), List.set_set] at e
  simp only [List.append_assoc] at e ⊢
  exact ⟨zs, q2, h2, h3, e⟩
theorem noL_tlD (xs : List α) : (D.tl (mapD xs)).noL = true := by simp only [D.noL, noLs_mapD]
def S_law_seating (g : Run) : Prop := ∀ (o : List MO) (p n : Nat), PenAt o p → 1 ≤ n → n ≤ 1000 → ∃ (s : List Int) (q : MO), SeatOk n s ∧ PenMO q ∧ g [.loc p, .int n] ⟨o, none⟩ = .ok (toD s) ⟨o.set p q, none⟩
theorem b_law_seating {i : Nat} (h1 : S_law_mixed (R.call i)) : S_law_seating (runFn R (f_law_seating i)) := by
  intro o p n hp n1 n2
  rw [run_eq _ _ _ rfl]
  obtain ⟨q0, hq0, eo⟩ := pen_start hp
  obtain ⟨zs, q2, hz, hq2, e⟩ := mixed_app h1 [] hp hq0 (rangeI (-1) n) (by rw [rangeI_length]; exact n2)
  rw [← eo] at e
  have er := listR2_run (a := -1) (b := (n : Int) - 1) (n := n) (st := ⟨o, none⟩) (by omega) (by omega) (by omega) (show n ≤ 16777216 by omega)
  have er' : bltRun .listR2 [.int (-1), .int ((n : Int) - 1)] ⟨o, none⟩ = .ok (.tl (mapD (rangeI (-1) n))) ⟨o, none⟩ := er
  refine ⟨zs, q2, hz, hq2, ?_⟩
  simp at e
  simp [f_law_seating, er', e, endC_app0 (noL_tlD zs)]
  exact finS_pen0 (noL_toD zs)
def S_law_stand (g : Run) : Prop := ∀ (o : List MO) (p : Nat) (h : House), PenAt o p → HouseOk h → ∃ (s : Stand) (q : MO), StandOk h s ∧ PenMO q ∧ g [.loc p, toD h] ⟨o, none⟩ = .ok (toD s) ⟨o.set p q, none⟩
theorem b_law_stand {i j : Nat} (h1 : S_law_draw (R.call i)) (h2 : S_law_seating (R.call j)) : S_law_stand (runFn R (f_law_stand i j)) := by
  intro o p h hp H
  rw [run_eq _ _ _ rfl]
  have l := H.len
  obtain ⟨q0, hq0, eo⟩ := pen_start hp
  obtain ⟨hs, st2, e5, ⟨q5, rfl, hq5⟩, a2⟩ := compE_run (R := R) (e := .call i [.var 0, .blt .len [.var 3]]) (t := .nm 3) (k := .seq) (s := [some (.loc p), some (toD h), none, none]) (ds := [toD h]) (ls := []) (st := ⟨o, none⟩)
    (fun st => ∃ q, st = ⟨o.set p q, none⟩ ∧ PenMO q) (fun (l : List Int) (v : Nat) => v < l.length) (h := toD) (ys := h) (src_toD h _) (show h.length ≤ 16777216 by omega) ⟨q0, by rw [← eo], hq0⟩ (by
      rintro z hz st ⟨q, rfl, hq⟩
      have := H.lst z hz
      obtain ⟨r6, q6, hr6, hq6, e6⟩ := draw_at h1 hp hq (m := z.length) (by omega) (by omega)
      exact ⟨_, r6, _, set_nm _ _ _, by simp [e6], by simp [stays], by omega, q6, rfl, hq6⟩)
  obtain ⟨s, q6, hs6, hq6, e6⟩ := h2 (o.set p q5) p h.length (hp.set hq5) (by omega) (by omega)
  rw [List.set_set] at e6
  refine ⟨(s, hs), q6, ⟨hs6, a2.length.symm, fun i hi hj => a2.get i hj hi⟩, hq6, ?_⟩
  simp [f_law_stand, wipeD, e5, e6]
  exact finS_pen0 (noL_toD (s, hs))
theorem mul_tl {xs : List D} {j : Int} {st : Sto} (c : (decide (-(2 ^ 62) < j) && decide (j < 2 ^ 62) && decide (xs.length * j.toNat ≤ line) && D.noTs xs) = true) : binop .mul (.tl xs) (.int j) st = .ok (.tl (List.replicate j.toNat xs).flatten) st := by
  have h : st.own (.tl xs) = some xs := rfl
  simp only [binop, opMul, h, c, if_true]
theorem mulC {xs : List D} {j : Int} (h1 : -(2 ^ 62) < j) (h2 : j < 2 ^ 62) (h3 : xs.length * j.toNat ≤ line) (h4 : D.noTs xs = true) : (decide (-(2 ^ 62) < j) && decide (j < 2 ^ 62) && decide (xs.length * j.toNat ≤ line) && D.noTs xs) = true := by
  rw [decide_eq_true h1, decide_eq_true h2, decide_eq_true h3, h4]
  rfl
theorem mul_tl0 {n : Nat} {st : Sto} (h2 : n ≤ 1000) : binop .mul (.tl [.int 0]) (.int (n : Int)) st = .ok (.tl (mapD (List.replicate n (0 : Nat)))) st := by
  have l : [D.int 0].length * (n : Int).toNat ≤ line := by
    have : n ≤ line := Nat.le_trans h2 (by decide)
    rw [List.length_singleton, Int.toNat_natCast, Nat.one_mul]
    exact this
  rw [mul_tl (mulC (by omega) (by omega) l rfl), Int.toNat_natCast]
  congr 2
  unfold mapD
  rw [List.map_replicate]
  simp
theorem range_natI (n : Nat) : mapD (List.range n) = mapD (rangeI 0 n) := by
  unfold mapD rangeI
  rw [List.map_map]
  apply List.map_congr_left
  intro a _
  simp
theorem erase_idx {xs : List Int} {x : Int} : xs.eraseIdx (xs.idxOf x) = xs.erase x := (List.erase_eq_eraseIdx_of_idxOf rfl).symm
def S_law_kept_stand (g : Run) : Prop := ∀ (o : List MO) (p : Nat) (h : House), PenAt o p → HouseOk h → ∃ (s : Stand) (q : MO), StandOk h s ∧ PenMO q ∧ g [.loc p, toD h] ⟨o, none⟩ = .ok (toD s) ⟨o.set p q, none⟩
theorem put_length {γ δ : Type} [DecidableEq γ] {ps : List (γ × δ)} {k : γ} {v : δ} (h : look ps k = none) : putP ps k v = ps ++ [(k, v)] := put_new ps k v h
/-- the state between two seats -/
structure KsInv (h : House) (bare : Nat) (done : List Nat) (hands : List Nat) (left : List Int) (ps : List (Nat × Int)) : Prop where
  hl : hands.length = h.length
  hb : ∀ i, i < h.length → gt hands i < (gt h i).length
  perm : (ps.map (·.2) ++ left).Perm (rangeI 0 (h.length - 1))
  nd : (ps.map (·.1)).Nodup
  key : ∀ k ∈ ps.map (·.1), k ∈ done ∧ k ≠ bare ∧ k < h.length
theorem gt_set {γ : Type} [Inhabited γ] {xs : List γ} {k i : Nat} {a : γ} (hk : k < xs.length) : gt (xs.set k a) i = if i = k then a else gt xs i := by
  unfold gt
  by_cases e : i = k
  · subst e; simp [hk]
  · rw [if_neg e, List.getElem?_set_ne (fun h => e h.symm)]
/-- who sits where, from the dict -/
def seatsOf (n : Nat) (ps : List (Nat × Int)) : List Int := (List.range n).map fun i => (look ps i).getD (-1)
theorem look_vals {γ δ : Type} [DecidableEq γ] (d : δ) : ∀ {ps : List (γ × δ)}, (ps.map (·.1)).Nodup → (ps.map (·.1)).map (fun k => (look ps k).getD d) = ps.map (·.2)
  | [], _ => rfl
  | p :: ps, h => by
    rw [List.map_cons, List.nodup_cons] at h
    rw [List.map_cons, List.map_cons, List.map_cons]
    have e : (ps.map (·.1)).map (fun k => (look (p :: ps) k).getD d) = (ps.map (·.1)).map (fun k => (look ps k).getD d) := by
      apply List.map_congr_left
      intro k hk
      have : ¬ p.1 = k := fun e => h.1 (e ▸ hk)
      simp [look, List.find?_cons, this]
    rw [e, look_vals d h.2]
    simp [look]
theorem seatsOf_ok {n bare : Nat} {ps : List (Nat × Int)} (hb : bare < n) (nd : (ps.map (·.1)).Nodup) (hk : ∀ k, k ∈ ps.map (·.1) ↔ k < n ∧ k ≠ bare) (hp : (ps.map (·.2)).Perm (rangeI 0 (n - 1))) : SeatOk n (seatsOf n ps) := by
  have p1 : (List.range n).Perm (bare :: ps.map (·.1)) := by
    rw [List.perm_ext_iff_of_nodup List.nodup_range (by rw [List.nodup_cons]; exact ⟨fun h => ((hk bare).mp h).2 rfl, nd⟩)]
    intro a
    rw [List.mem_range, List.mem_cons, hk]
    by_cases e : a = bare
    · subst e; simp [hb]
    · simp [e]
  have p2 := p1.map fun i => (look ps i).getD (-1)
  rw [List.map_cons, look_vals (-1) nd, look_none.mpr (fun h => ((hk bare).mp h).2 rfl)] at p2
  refine p2.trans ?_
  have e : rangeI (-1) n = -1 :: rangeI 0 (n - 1) := by
    obtain ⟨m, rfl⟩ : ∃ m, n = m + 1 := ⟨n - 1, by omega⟩
    unfold rangeI
    rw [List.range_succ_eq_map, List.map_cons, List.map_map]
    simp only [Nat.add_sub_cancel]
    congr 1
    apply List.map_congr_left
    intro a _
    simp
    omega
  rw [e]
  exact hp.cons _
end
end DV
set_option linter.all false
set_option autoImplicit false
set_option maxRecDepth 100000
/-! PM: stands in which seats keep, drawn. -/
namespace DV
open PySem (Str PyData)
open Enc
section
variable {R : Env}
theorem mapD_setN (xs : List Nat) (k v : Nat) : (mapD xs).set k (.int v) = mapD (xs.set k v) := mapD_set xs k v
theorem KsInv.step {h : House} {bare : Nat} {done : List Nat} {hands : List Nat} {left : List Int} {ps : List (Nat × Int)} (K : KsInv h bare done hands left ps) {y r : Nat} (hy : y < h.length) (hr : r < (gt h y).length) : KsInv h bare (done ++ [y]) (hands.set y r) left ps := by
  refine ⟨by simp [K.hl], fun i hi => ?_, K.perm, K.nd, fun k hk => ⟨by simp [(K.key k hk).1], (K.key k hk).2⟩⟩
  rw [gt_set (by rw [K.hl]; exact hy)]
  split
  · rename_i e; rw [e]; exact hr
  · exact K.hb i hi
theorem KsInv.take {h : House} {bare y : Nat} {done : List Nat} {hands : List Nat} {left : List Int} {ps : List (Nat × Int)} (K : KsInv h bare (done ++ [y]) hands left ps) {x : Int} (hy : y < h.length) (hb : y ≠ bare) (hn : look ps y = none) (hx : x ∈ left) : KsInv h bare (done ++ [y]) hands (left.erase x) (ps ++ [(y, x)]) := by
  refine ⟨K.hl, K.hb, ?_, ?_, fun k hk => ?_⟩
  · rw [List.map_append, List.append_assoc]
    exact ((List.perm_cons_erase hx).symm.append_left _).trans K.perm
  · rw [List.map_append, List.nodup_append]
    refine ⟨K.nd, by simp, fun a ha b hb2 e => ?_⟩
    simp at hb2
    subst hb2
    exact look_none.mp hn (e ▸ ha)
  · rw [List.map_append, List.mem_append] at hk
    rcases hk with hk | hk
    · exact K.key k hk
    · simp at hk
      subst hk
      exact ⟨by simp, hb, hy⟩
/-- a full set of seats leaves no name over -/
theorem ks_room {n bare y : Nat} {ks : List Nat} (nd : ks.Nodup) (hk : ∀ k ∈ ks, k ≠ bare ∧ k < n) (hb : bare < n) (hy : y < n) (hyb : y ≠ bare) (hn : y ∉ ks) : ks.length + 2 ≤ n := by
  have h := List.Nodup.length_le_of_subset (l₁ := y :: bare :: ks) (l₂ := List.range n) (by
    rw [List.nodup_cons, List.nodup_cons]
    refine ⟨fun h => ?_, fun h => (hk bare h).1 rfl, nd⟩
    rcases List.mem_cons.mp h with e | e
    · exact hyb e
    · exact hn e) (by
    intro a ha
    rw [List.mem_range]
    rcases List.mem_cons.mp ha with rfl | ha
    · exact hy
    · rcases List.mem_cons.mp ha with rfl | ha
      · exact hb
      · exact (hk a ha).2)
  simpa using h
theorem b_law_kept_stand {i j : Nat} (h1 : S_law_draw (R.call i)) (h2 : S_law_mixed (R.call j)) : S_law_kept_stand (runFn R (f_law_kept_stand i j)) := by
  intro o p h hp H
  rw [run_eq _ _ _ rfl]
  have l := H.len
  obtain ⟨q0, hq0, eo⟩ := pen_start hp
  obtain ⟨bare, q1, hr1, hq1, e1⟩ := draw_at h1 hp hq0 (m := (h.length : Int)) (by omega) (by omega)
  rw [← eo] at e1
  have ec : endC ⟨o, none⟩ (.ok (.int (bare : Int)) ⟨o.set p q1, none⟩) = .ok (.int (bare : Int)) ⟨o.set p q1, none⟩ := endC_same (by simp)
  have hbare : bare < h.length := by omega
  have cast1 : (h.length : Int) - 1 = ((h.length - 1 : Nat) : Int) := by omega
  have el : ∀ st, bltRun .listR1 [.int ((h.length : Int) - 1)] st = .ok (.tl (mapD (rangeI 0 (h.length - 1)))) st := fun st => by
    rw [cast1, ← range_natI]
    exact listR1_run (show h.length - 1 ≤ 16777216 by omega)
  have el2 : ∀ st, bltRun .listR1 [.int (h.length : Int)] st = .ok (.tl (mapD (List.range h.length))) st := fun st => listR1_run (show h.length ≤ 16777216 by omega)
  have em : ∀ st, binop .mul (.tl [.int 0]) (.int (h.length : Int)) st = .ok (.tl (mapD (List.replicate h.length (0 : Nat)))) st := fun st => mul_tl0 (by omega)
  have L0 : ∀ q (A B C : MO), (o.set p q ++ [A, B, C])[o.length]? = some A := fun q A B C => by rw [get_n (by simp)]; rfl
  have L1 : ∀ q (A B C : MO), (o.set p q ++ [A, B, C])[o.length + 1]? = some B := fun q A B C => by rw [get_nk (by simp)]; rfl
  have L2 : ∀ q (A B C : MO), (o.set p q ++ [A, B, C])[o.length + 2]? = some C := fun q A B C => by rw [get_nk (by simp)]; rfl
  have S0 : ∀ q (A B C X : MO), (o.set p q ++ [A, B, C]).set o.length X = o.set p q ++ [X, B, C] := fun q A B C X => by rw [set_n (by simp)]; rfl
  have S1 : ∀ q (A B C X : MO), (o.set p q ++ [A, B, C]).set (o.length + 1) X = o.set p q ++ [A, X, C] := fun q A B C X => by rw [set_nk (by simp)]; rfl
  have S2 : ∀ q (A B C X : MO), (o.set p q ++ [A, B, C]).set (o.length + 2) X = o.set p q ++ [A, B, X] := fun q A B C X => by rw [set_nk (by simp)]; rfl
  obtain ⟨zs, q2, hz, hq2, e2⟩ := mixed_app h2 [.lst (mapD (List.replicate h.length (0 : Nat))), .lst (mapD (rangeI 0 (h.length - 1))), dicP ([] : List (Nat × Int))] hp hq1 (List.range h.length) (by rw [List.length_range]; omega)
  -- the first loop
  have f1 : ∃ s' st', frE R .seq (.nm 7) [.asg (.sub (.var 4) (.var 7)) (.call i [.var 0, .blt .len [.idx (.var 1) (.var 7)]]), .asg (.nm 8) (.idx (.idx (.var 1) (.var 7)) (.bin .sub (.idx (.var 4) (.var 7)) (.int 1))), .ite (.and (.cmp .ne (.var 7) (.var 3)) (.cmp .inn (.var 8) (.var 5))) [.asg (.sub (.var 6) (.var 7)) (.var 8), .ex (.mth .remove (.var 5) [.var 8])] []]
      [some (.loc p), some (toD h), some (.int h.length), some (.int bare), some (.loc o.length), some (.loc (o.length + 1)), some (.loc (o.length + 2)), none, none, none] [.tl (mapD zs)] ⟨o.set p q2 ++ [.lst (mapD (List.replicate h.length (0 : Nat))), .lst (mapD (rangeI 0 (h.length - 1))), dicP ([] : List (Nat × Int))], none⟩ = .nxt s' st' ∧
      ∃ hands left ps q a b, s' = [some (.loc p), some (toD h), some (.int h.length), some (.int bare), some (.loc o.length), some (.loc (o.length + 1)), some (.loc (o.length + 2)), a, b, none] ∧ st' = ⟨o.set p q ++ [.lst (mapD hands), .lst (mapD left), dicP ps], none⟩ ∧ PenMO q ∧ KsInv h bare zs hands left ps := by
    refine for_inv (h := toD) (ys := zs) (ls := []) (fun done s st => ∃ hands left ps q a b, s = [some (.loc p), some (toD h), some (.int h.length), some (.int bare), some (.loc o.length), some (.loc (o.length + 1)), some (.loc (o.length + 2)), a, b, none] ∧ st = ⟨o.set p q ++ [.lst (mapD hands), .lst (mapD left), dicP ps], none⟩ ∧ PenMO q ∧ KsInv h bare done hands left ps) (src_tlD zs _) ?_ ?_
    · refine ⟨_, _, [], q2, none, none, rfl, rfl, hq2, by simp, fun i hi => ?_, by simp, by simp, by simp⟩
      have := H.at hi
      have e : gt (List.replicate h.length (0 : Nat)) i = 0 := by simp [gt, hi]
      omega
    · rintro pre y post s st hy ⟨hands, left, ps, q, a, b, rfl, rfl, hq, K⟩
      have hyz : y ∈ zs := by rw [hy]; simp
      have hyl : y < h.length := List.mem_range.mp (hz.mem_iff.mp hyz)
      have nd : zs.Nodup := hz.nodup_iff.mpr List.nodup_range
      have ynew : y ∉ pre := by
        rw [hy, List.nodup_append] at nd
        exact fun hm => nd.2.2 y hm y (by simp) rfl
      have lk : look ps y = none := look_none.mpr fun hk => ynew (K.key y hk).1
      have ll := H.at hyl
      obtain ⟨r, q3, hr, hq3, e3⟩ := draw_app h1 [.lst (mapD hands), .lst (mapD left), dicP ps] hp hq (m := ((gt h y).length : Int)) (by omega) (by omega)
      have hr2 : r < (gt h y).length := by omega
      have K2 := K.step hyl hr2
      have gh : gt (hands.set y r) y = r := by rw [gt_set (by rw [K.hl]; exact hyl), if_pos rfl]
      have gy : (hands.set y r)[y]? = some r := by
        rw [get_gt (by simp [K.hl, hyl]), gh]
      have gp : atIx (gt h y) ((r : Int) - 1) = some (gt (gt h y) (prevI (gt h y).length r)) := by
        rw [atIx_prev ll.1 hr2, get_gt (prevI_lt ll.1 hr2)]
      obtain ⟨x, hx⟩ : ∃ x, gt (gt h y) (prevI (gt h y).length r) = x := ⟨_, rfl⟩
      rw [hx] at gp
      have sx := setIx_lst (o := o.set p q3 ++ [.lst (mapD hands), .lst (mapD left), dicP ps]) (e := none) (l := o.length) (k := y) (xs := mapD hands) (d := .int (r : Int)) (by rw [L0]; rfl) (by rw [mapD_length, K.hl]; exact hyl) (by simp only [D.noL])
      rw [S0, mapD_setN] at sx
      by_cases c : y ≠ bare ∧ x ∈ left
      · have K3 := K2.take hyl c.1 lk c.2
        have sd := setIx_dic (α := Nat) (β := Int) keyT_nat (o := o.set p q3 ++ [.lst (mapD (hands.set y r)), .lst (mapD left), dicP ps]) (e := none) (l := o.length + 2) (L2 _ _ _ _) y x (by
          have : ps.length ≤ (h.length - 1) := by
            have := K.perm.length_eq
            rw [rangeI_length, List.length_append, List.length_map] at this
            omega
          show ps.length < 16777216; omega)
        rw [S2, put_length lk] at sd
        have rm := remove_loc (α := Int) (o := o.set p q3 ++ [.lst (mapD (hands.set y r)), .lst (mapD left), dicP (ps ++ [(y, x)])]) (e := none) (l := o.length + 1) (xs := left) (x := x) (by rw [L1]; rfl) (by decide) c.2
        rw [S1, erase_idx] at rm
        have mo : mthOk .remove (.loc (o.length + 1)) ⟨o.set p q3 ++ [.lst (mapD (hands.set y r)), .lst (mapD left), dicP (ps ++ [(y, x)])], none⟩ = true := mthOk_lst (xs := mapD left) (by rw [L1]; rfl) (by simp)
        refine ⟨_, [some (.loc p), some (toD h), some (.int h.length), some (.int bare), some (.loc o.length), some (.loc (o.length + 1)), some (.loc (o.length + 2)), some (toD y), some (.int x), none], ⟨o.set p q3 ++ [.lst (mapD (hands.set y r)), .lst (mapD (left.erase x)), dicP (ps ++ [(y, x)])], none⟩, set_nm _ _ _, ?_, by simp [stays], _, _, _, q3, _, _, rfl, rfl, hq3, K3⟩
        have yb : ¬ (y : Int) = (bare : Int) := fun e => c.1 (by omega)
        have inl := in_loc (α := Int) (o := o.set p q3 ++ [.lst (mapD (hands.set y r)), .lst (mapD left), dicP ps]) (e := none) (l := o.length + 1) (xs := left) (by rw [L1]; rfl) (by decide) x
        have ix := idx_loc (o := o.set p q3 ++ [.lst (mapD (hands.set y r)), .lst (mapD left), dicP ps]) (e := none) (l := o.length) (xs := mapD (hands.set y r)) (by rw [L0]; rfl) (y : Int)
        simp only [toD_nat, toD_int] at sd rm inl
        simp [atIx_nat, mapD_get, get_gt hyl, e3, sx, ix, gy, gp, yb, inl, c.2, sd, mo, rm]
      · refine ⟨_, [some (.loc p), some (toD h), some (.int h.length), some (.int bare), some (.loc o.length), some (.loc (o.length + 1)), some (.loc (o.length + 2)), some (toD y), some (.int x), none], ⟨o.set p q3 ++ [.lst (mapD (hands.set y r)), .lst (mapD left), dicP ps], none⟩, set_nm _ _ _, ?_, by simp [stays], _, _, _, q3, _, _, rfl, rfl, hq3, K2⟩
        have inl := in_loc (α := Int) (o := o.set p q3 ++ [.lst (mapD (hands.set y r)), .lst (mapD left), dicP ps]) (e := none) (l := o.length + 1) (xs := left) (by rw [L1]; rfl) (by decide) x
        have ix := idx_loc (o := o.set p q3 ++ [.lst (mapD (hands.set y r)), .lst (mapD left), dicP ps]) (e := none) (l := o.length) (xs := mapD (hands.set y r)) (by rw [L0]; rfl) (y : Int)
        simp only [toD_nat, toD_int] at inl
        by_cases yb : y = bare
        · subst yb
          simp [atIx_nat, mapD_get, get_gt hyl, e3, sx, ix, gy, gp]
        · have yb2 : ¬ (y : Int) = (bare : Int) := by omega
          have xl : x ∉ left := fun hm => c ⟨yb, hm⟩
          simp [atIx_nat, mapD_get, get_gt hyl, e3, sx, ix, gy, gp, yb2, inl, xl]
  obtain ⟨s1, st1, ef1, hands, left, ps, q, a, b, rfl, rfl, hq, K⟩ := f1
  -- the rest is mixed
  obtain ⟨rest, q4, hrest, hq4, e4⟩ := h2 (α := Int) (o.set p q ++ [.lst (mapD hands), .lst (mapD left), dicP ps]) p (o.length + 1) left ((hp.set hq).app _) (by rw [L1]; rfl) (by
    have := K.perm.length_eq
    rw [rangeI_length, List.length_append] at this
    omega)
  rw [List.set_append_left _ _ (by simpa using hp.lt), List.set_set] at e4
  have M0 : ∀ q (A B C E : MO), (o.set p q ++ [A, B, C, E])[o.length]? = some A := fun q A B C E => by rw [get_n (by simp)]; rfl
  have M2 : ∀ q (A B C E : MO), (o.set p q ++ [A, B, C, E])[o.length + 2]? = some C := fun q A B C E => by rw [get_nk (by simp)]; rfl
  have M3 : ∀ q (A B C E : MO), (o.set p q ++ [A, B, C, E])[o.length + 3]? = some E := fun q A B C E => by rw [get_nk (by simp)]; rfl
  have T2 : ∀ q (A B C E X : MO), (o.set p q ++ [A, B, C, E]).set (o.length + 2) X = o.set p q ++ [A, B, X, E] := fun q A B C E X => by rw [set_nk (by simp)]; rfl
  have T3 : ∀ q (A B C E X : MO), (o.set p q ++ [A, B, C, E]).set (o.length + 3) X = o.set p q ++ [A, B, C, X] := fun q A B C E X => by rw [set_nk (by simp)]; rfl
  -- the second loop
  have f2 : ∃ s' st', frE R .range1 (.nm 7) [.ite (.and (.cmp .ne (.var 7) (.var 3)) (.cmp .nin (.var 7) (.var 6))) [.asg (.sub (.var 6) (.var 7)) (.mth .pop0 (.var 9) [])] []]
      [some (.loc p), some (toD h), some (.int h.length), some (.int bare), some (.loc o.length), some (.loc (o.length + 1)), some (.loc (o.length + 2)), a, b, some (.loc (o.length + 3))] [.int h.length] ⟨o.set p q4 ++ [.lst (mapD hands), .lst (mapD left), dicP ps, .lst (mapD rest)], none⟩ = .nxt s' st' ∧
      ∃ (ps : List (Nat × Int)) (rest : List Int) (a : Option D), s' = [some (.loc p), some (toD h), some (.int h.length), some (.int bare), some (.loc o.length), some (.loc (o.length + 1)), some (.loc (o.length + 2)), a, b, some (.loc (o.length + 3))] ∧ st' = ⟨o.set p q4 ++ [.lst (mapD hands), .lst (mapD left), dicP ps, .lst (mapD rest)], none⟩ ∧
        (ps.map (·.2) ++ rest).Perm (rangeI 0 (h.length - 1)) ∧ (ps.map (·.1)).Nodup ∧ (∀ k ∈ ps.map (·.1), k ≠ bare ∧ k < h.length) ∧ ∀ k ∈ List.range h.length, k ≠ bare → k ∈ ps.map (·.1) := by
    refine for_inv (h := toD) (ys := List.range h.length) (ls := []) (fun done s st => ∃ (ps : List (Nat × Int)) (rest : List Int) (a : Option D), s = [some (.loc p), some (toD h), some (.int h.length), some (.int bare), some (.loc o.length), some (.loc (o.length + 1)), some (.loc (o.length + 2)), a, b, some (.loc (o.length + 3))] ∧ st = ⟨o.set p q4 ++ [.lst (mapD hands), .lst (mapD left), dicP ps, .lst (mapD rest)], none⟩ ∧
        (ps.map (·.2) ++ rest).Perm (rangeI 0 (h.length - 1)) ∧ (ps.map (·.1)).Nodup ∧ (∀ k ∈ ps.map (·.1), k ≠ bare ∧ k < h.length) ∧ ∀ k ∈ done, k ≠ bare → k ∈ ps.map (·.1)) (src_range (by omega)) ?_ ?_
    · exact ⟨ps, rest, a, rfl, rfl, (hrest.append_left _).trans K.perm, K.nd, fun k hk => (K.key k hk).2, by simp⟩
    · rintro pre y post s st hy ⟨ps, rest, a, rfl, rfl, hperm, nd, hk, hd⟩
      have hyl : y < h.length := List.mem_range.mp (by rw [hy]; simp)
      have nin := nin_dic (α := Nat) (β := Int) keyT_nat (e := none) (M2 q4 (.lst (mapD hands)) (.lst (mapD left)) (dicP ps) (.lst (mapD rest))) y
      rw [look_mem] at nin
      simp only [toD_nat] at nin
      by_cases c : y ≠ bare ∧ y ∉ ps.map (·.1)
      · have room := ks_room nd hk hbare hyl c.1 c.2
        have hlen := hperm.length_eq
        rw [rangeI_length, List.length_append, List.length_map] at hlen
        rw [List.length_map] at room
        obtain ⟨init, x, rfl⟩ : ∃ init x, rest = init ++ [x] := by
          rcases List.eq_nil_or_concat rest with e | ⟨init, x, e⟩
          · rw [e] at hlen; simp at hlen; omega
          · exact ⟨init, x, by simpa using e⟩
        have po := pop0_loc (o := o.set p q4 ++ [.lst (mapD hands), .lst (mapD left), dicP ps, .lst (mapD (init ++ [x]))]) (e := none) (l := o.length + 3) (xs := mapD init) (x := toD x) (by rw [M3, ← mapD_snoc]; rfl)
        rw [T3] at po
        have lk : look ps y = none := look_none.mpr c.2
        have sd := setIx_dic (α := Nat) (β := Int) keyT_nat (e := none) (M2 q4 (.lst (mapD hands)) (.lst (mapD left)) (dicP ps) (.lst (mapD init))) y x (by
          show ps.length < 16777216; omega)
        rw [T2, put_length lk] at sd
        have mo : mthOk .pop0 (.loc (o.length + 3)) ⟨o.set p q4 ++ [.lst (mapD hands), .lst (mapD left), dicP ps, .lst (mapD (init ++ [x]))], none⟩ = true := mthOk_lst (xs := mapD (init ++ [x])) (by rw [M3]; rfl) (by simp)
        refine ⟨_, [some (.loc p), some (toD h), some (.int h.length), some (.int bare), some (.loc o.length), some (.loc (o.length + 1)), some (.loc (o.length + 2)), some (toD y), b, some (.loc (o.length + 3))], ⟨o.set p q4 ++ [.lst (mapD hands), .lst (mapD left), dicP (ps ++ [(y, x)]), .lst (mapD init)], none⟩, set_nm _ _ _, ?_, by simp [stays], ps ++ [(y, x)], init, _, rfl, rfl, ?_, ?_, ?_, ?_⟩
        · have yb : ¬ (y : Int) = (bare : Int) := fun e => c.1 (by omega)
          have c2 : decide (y ∈ ps.map (·.1)) = false := by simpa using c.2
          rw [c2] at nin
          simp only [toD_nat, toD_int] at sd po
          simp [yb, nin, mo, po, sd]
        · refine List.Perm.trans ?_ hperm
          rw [List.map_append, List.append_assoc]
          exact (List.perm_append_comm.append_left _)
        · rw [List.map_append, List.nodup_append]
          refine ⟨nd, by simp, fun u hu v hv e => ?_⟩
          simp at hv
          subst hv
          exact c.2 (e ▸ hu)
        · intro k hk2
          rw [List.map_append, List.mem_append] at hk2
          rcases hk2 with hk2 | hk2
          · exact hk k hk2
          · simp at hk2
            subst hk2
            exact ⟨c.1, hyl⟩
        · intro k hk2 kb
          rw [List.map_append, List.mem_append]
          rcases List.mem_append.mp hk2 with z | z
          · exact .inl (hd k z kb)
          · simp at z
            subst z
            exact .inr (by simp)
      · refine ⟨_, [some (.loc p), some (toD h), some (.int h.length), some (.int bare), some (.loc o.length), some (.loc (o.length + 1)), some (.loc (o.length + 2)), some (toD y), b, some (.loc (o.length + 3))], ⟨o.set p q4 ++ [.lst (mapD hands), .lst (mapD left), dicP ps, .lst (mapD rest)], none⟩, set_nm _ _ _, ?_, by simp [stays], ps, rest, _, rfl, rfl, hperm, nd, hk, ?_⟩
        · by_cases yb : y = bare
          · subst yb
            simp
          · have yb2 : ¬ (y : Int) = (bare : Int) := by omega
            have ym : y ∈ ps.map (·.1) := Classical.byContradiction fun h => c ⟨yb, h⟩
            rw [decide_eq_true ym] at nin
            simp [yb2, nin]
        · intro k hk2 kb
          rcases List.mem_append.mp hk2 with z | z
          · exact hd k z kb
          · simp at z
            subst z
            exact Classical.byContradiction fun h => c ⟨kb, h⟩
  obtain ⟨s2, st2, ef2, ps, rest, a, rfl, rfl, hperm, nd, hk, hd⟩ := f2
  have keys : ∀ k, k ∈ ps.map (·.1) ↔ k < h.length ∧ k ≠ bare := fun k => ⟨fun hm => ⟨(hk k hm).2, (hk k hm).1⟩, fun hm => hd k (List.mem_range.mpr hm.1) hm.2⟩
  have r0 : rest = [] := by
    have hlen := hperm.length_eq
    rw [rangeI_length, List.length_append, List.length_map] at hlen
    have pk : (bare :: ps.map (·.1)).Perm (List.range h.length) := by
      rw [List.perm_ext_iff_of_nodup (by rw [List.nodup_cons]; exact ⟨fun z => ((keys bare).mp z).2 rfl, nd⟩) List.nodup_range]
      intro x
      rw [List.mem_range, List.mem_cons, keys]
      by_cases e : x = bare
      · subst e; simp [hbare]
      · simp [e]
    have := pk.length_eq
    simp at this
    exact List.length_eq_zero_iff.mp (by omega)
  rw [r0, List.append_nil] at hperm
  refine ⟨(seatsOf h.length ps, hands), q4, ⟨seatsOf_ok hbare nd keys hperm, K.hl, fun i hi hj => ?_⟩, hq4, ?_⟩
  · have := K.hb i hj
    rwa [gt_lt hi, gt_lt hj] at this
  · have g2 : ∀ k : Nat, mthRun .get2 (.loc (o.length + 2)) [.int (k : Int), .int (-1)] ⟨o.set p q4 ++ [.lst (mapD hands), .lst (mapD left), dicP ps, .lst (mapD rest)], none⟩ = .ok (.int ((look ps k).getD (-1))) ⟨o.set p q4 ++ [.lst (mapD hands), .lst (mapD left), dicP ps, .lst (mapD rest)], none⟩ := fun k => by
      have := get2_dic (α := Nat) (β := Int) keyT_nat (e := none) (M2 q4 (.lst (mapD hands)) (.lst (mapD left)) (dicP ps) (.lst (mapD rest))) k (.int (-1))
      refine Eq.trans this ?_
      cases look ps k <;> rfl
    have mo : mthOk .get2 (.loc (o.length + 2)) ⟨o.set p q4 ++ [.lst (mapD hands), .lst (mapD left), dicP ps, .lst (mapD rest)], none⟩ = true := mthOk_dic (ps := ps) (M2 _ _ _ _ _)
    have cm := compT_map (R := R) (e := .mth .get2 (.var 6) [.var 7, .neg (.int 1)]) (t := .nm 7) (k := .range1) (s := [some (.loc p), some (toD h), some (.int h.length), some (.int bare), some (.loc o.length), some (.loc (o.length + 1)), some (.loc (o.length + 2)), none, b, some (.loc (o.length + 3))]) (ds := [.int h.length]) (ls := []) (st := ⟨o.set p q4 ++ [.lst (mapD hands), .lst (mapD left), dicP ps, .lst (mapD rest)], none⟩) (fun i => (look ps i).getD (-1)) (h := toD) (ys := List.range h.length) (src_range (by omega)) (by rw [List.length_range]; show h.length ≤ 16777216; omega) (by
      intro y hy
      exact ⟨_, set_nm _ _ _, by simp [mo, g2]⟩)
    have tl := tuple_loc (o := o.set p q4 ++ [.lst (mapD hands), .lst (mapD left), dicP ps, .lst (mapD rest)]) (e := none) (l := o.length) (xs := mapD hands) (by rw [M0]; rfl)
    have mn := endC_app2 (o := o) (p := p) (q := q) (q2 := q4) (ys := [.lst (mapD hands), .lst (mapD left), dicP ps]) (xs := []) (noL_tlD rest)
    simp only [List.append_nil] at mn
    have mn2 := endC_app2 (o := o) (p := p) (q := q1) (q2 := q2) (ys := [.lst (mapD (List.replicate h.length (0 : Nat))), .lst (mapD (rangeI 0 (h.length - 1))), dicP ([] : List (Nat × Int))]) (xs := [.lst (mapD (List.range h.length))]) (noL_tlD zs)
    simp [f_law_kept_stand, e1, ec, em, el, el2, stl_not, settle_tup, settle_tl, settle_td, settle_int, settles_nil, settles_cons, settles_mapD] at e2 mn2 ef1 ⊢
    rw [e2, mn2]
    simp [ef1, e4, mn, ef2, wipeD, cm, tl]
    exact finS_pen _ (noL_toD (seatsOf h.length ps, hands))
end
end DV
set_option linter.all false
set_option autoImplicit false
set_option maxRecDepth 100000
/-! PN: beats. -/
namespace DV
open PySem (Str PyData)
open Enc
section
variable {R : Env}
def calledF (h : House) (s : Stand) : Int := gt (gt h (bareF s.1)) (gt s.2 (bareF s.1))
def nextF (h : House) (s : Stand) : Nat := (gt s.2 (bareF s.1) + 1) % (gt h (bareF s.1)).length
def beatF (h : House) (s : Stand) : Stand := ((s.1.set (s.1.idxOf (calledF h s)) (-1)).set (bareF s.1) (calledF h s), s.2.set (bareF s.1) (nextF h s))
/-- what a beat of a stand touches -/
structure BeatAt (h : House) (s : Stand) : Prop where
  b : bareF s.1 < h.length
  bs : bareF s.1 < s.1.length
  bh : bareF s.1 < s.2.length
  at_ : s.1[bareF s.1]? = some (-1)
  l : 1 ≤ (gt h (bareF s.1)).length ∧ (gt h (bareF s.1)).length ≤ 3
  k : gt s.2 (bareF s.1) < (gt h (bareF s.1)).length
  n0 : 0 ≤ calledF h s
  mem : calledF h s ∈ s.1
  j : s.1.idxOf (calledF h s) < s.1.length
  jat : s.1[s.1.idxOf (calledF h s)]? = some (calledF h s)
  ne : s.1.idxOf (calledF h s) ≠ bareF s.1
theorem StandOk.beat {h : House} {s : Stand} (H : HouseOk h) (S : StandOk h s) : BeatAt h s := by
  have lb := S.bare H
  have ls := S.seat.len
  have lk := S.at lb.2
  have ll := H.at lb.2
  have hn := H.nm _ (gt_mem lb.2) _ (gt_mem lk)
  have m : calledF h s ∈ s.1 := S.seat.mem.mpr (by have := H.len; unfold calledF; omega)
  have lj := List.idxOf_lt_length_of_mem m
  have a1 : s.1[bareF s.1]? = some (-1) := by
    have hb : bareF s.1 < s.1.length := by omega
    have e : s.1[bareF s.1] = -1 := List.getElem_idxOf hb
    rw [List.getElem?_eq_getElem hb, e]
  have a2 : s.1[s.1.idxOf (calledF h s)]? = some (calledF h s) := by
    rw [List.getElem?_eq_getElem lj, List.getElem_idxOf]
  refine ⟨lb.2, by omega, by rw [S.len]; exact lb.2, a1, ll, lk, hn.1, m, lj, a2, fun e => ?_⟩
  rw [e, a1] at a2
  have : (-1 : Int) = calledF h s := Option.some.inj a2
  have h0 : 0 ≤ calledF h s := hn.1
  omega
theorem beat_ok {h : House} {s : Stand} (H : HouseOk h) (S : StandOk h s) : StandOk h (beatF h s) := by
  have B := S.beat H
  refine ⟨?_, by simp [beatF, S.len], fun i hi hj => ?_⟩
  · have e1 : s.1[bareF s.1]'B.bs = -1 := by have := B.at_; rw [List.getElem?_eq_getElem B.bs] at this; exact Option.some.inj this
    have e2 : s.1[s.1.idxOf (calledF h s)]'B.j = calledF h s := List.getElem_idxOf _
    have z := List.set_set_perm (as := s.1) B.j B.bs
    rw [e1, e2] at z
    exact z.trans S.seat
  · have hj2 := hj
    show (s.2.set (bareF s.1) (nextF h s))[i]'(by simpa [beatF] using hi) < _
    rw [List.getElem_set]
    split
    · rename_i e
      subst e
      have : (gt h (bareF s.1)) = h[bareF s.1] := gt_lt hj
      rw [← this]
      exact Nat.mod_lt _ (by have := B.l; omega)
    · exact S.hand i (by simpa [beatF] using hi) hj
theorem pures_ints' (xs : List Int) : D.pures (mapD xs) = true := pures_mapD xs
theorem set_toI (s : List Int) (k : Nat) (a : Int) : D.tup ((mapD s).set k (.int a)) = toD (s.set k a) := by
  rw [show D.int a = toD a from rfl, mapD_set]; rfl
theorem set_toN (s : List Nat) (k : Nat) (a : Nat) : D.tup ((mapD s).set k (.int (a : Int))) = toD (s.set k a) := by
  rw [show D.int (a : Int) = toD a from rfl, mapD_set]; rfl
/-- with_at of a row of numbers -/
def S_with_at (g : Run) : Prop := (∀ (xs : List Int) (k : Nat) (a : Int) (st : Sto), k < xs.length → xs.length ≤ 1000 → g [toD xs, .int k, .int a] st = .ok (toD (xs.set k a)) st) ∧
  ∀ (xs : List Nat) (k a : Nat) (st : Sto), k < xs.length → xs.length ≤ 1000 → g [toD xs, .int k, .int a] st = .ok (toD (xs.set k a)) st
theorem cut_from1 {α : Type} (xs : List α) (k : Nat) : cutD xs (some ((k : Int) + 1)) none = xs.drop (k + 1) := cut_from xs (k + 1)
theorem add_gen {α : Type} [Enc α] {xs ys : List α} {st : Sto} (h : xs.length + ys.length ≤ 2000) : binop .add (toD xs) (toD ys) st = .ok (toD (xs ++ ys)) st := add_toD (Nat.le_trans h (by decide))
theorem b_with_at : S_with_at (runFn R f_with_at) := by
  constructor
  · intro xs k a st hk hl
    rw [run_eq _ _ _ rfl]
    have e1 : ∀ st, binop .add (toD (xs.take k)) (.tup [.int a]) st = .ok (toD (xs.take k ++ [a])) st := fun st => add_gen (ys := [a]) (by simp; omega)
    have e2 : ∀ st, binop .add (toD (xs.take k ++ [a])) (toD (xs.drop (k + 1))) st = .ok (toD (xs.set k a)) st := fun st => by
      rw [add_gen (by simp; omega), set_cut hk]
    simp [f_with_at, cut_to, cut_from1, e1]
    simp [e2]
    exact finS_toD _ st
  · intro xs k a st hk hl
    rw [run_eq _ _ _ rfl]
    have e1 : ∀ st, binop .add (toD (xs.take k)) (.tup [.int (a : Int)]) st = .ok (toD (xs.take k ++ [a])) st := fun st => add_gen (ys := [a]) (by simp; omega)
    have e2 : ∀ st, binop .add (toD (xs.take k ++ [a])) (toD (xs.drop (k + 1))) st = .ok (toD (xs.set k a)) st := fun st => by
      rw [add_gen (by simp; omega), set_cut hk]
    simp [f_with_at, cut_to, cut_from1, e1]
    simp [e2]
    exact finS_toD _ st
def S_beat_by (g : Run) : Prop := ∀ (h : House) (s : Stand) (st : Sto), HouseOk h → StandOk h s → g [toD h, toD s] st = .ok (toD (beatF h s)) st
theorem mod_nat {a b : Nat} {st : Sto} (h : 0 < b) : binop .mod (.int ((a : Int) + 1)) (.int (b : Int)) st = .ok (.int (((a + 1) % b : Nat) : Int)) st := by
  rw [mod_int (by omega)]
  congr 2
theorem b_beat_by {i j : Nat} (hR : Std R) (h1 : S_bare_of (R.call i)) (h2 : S_with_at (R.call j)) : S_beat_by (runFn R (f_beat_by i j)) := by
  intro h s st H S
  rw [run_eq _ _ _ rfl]
  have B := S.beat H
  have l := H.len
  have ls := S.seat.len
  have e1 := h1 s.1 st.bare (S.bare H).1
  have g1 : (gt h (bareF s.1))[gt s.2 (bareF s.1)]? = some (calledF h s) := get_gt B.k
  have e2 := h2.1 s.1 (s.1.idxOf (calledF h s)) (-1) st.bare B.j (by omega)
  have e3 := h2.1 (s.1.set (s.1.idxOf (calledF h s)) (-1)) (bareF s.1) (calledF h s) st.bare (by simp [B.bs]) (by simp; omega)
  have e4 := h2.2 s.2 (bareF s.1) (nextF h s) st.bare B.bh (by rw [S.len]; omega)
  have e5 := mod_nat (a := gt s.2 (bareF s.1)) (b := (gt h (bareF s.1)).length) (st := st.bare) (by have := B.l; omega)
  have e6 := index_int (st := st.bare) B.mem
  simp only [bare_eq] at e1 e2 e3 e4 e5 e6
  simp [f_beat_by, hR.c, consts0, e1, atIx_nat, get_gt B.b, get_gt B.bh, g1, e2, e3, e5, e6]
  rw [show (((gt s.2 (bareF s.1) : Nat) : Int) + 1) % ((gt h (bareF s.1)).length : Int) = ((nextF h s : Nat) : Int) from rfl]
  simp [e4]
  exact finS_toD (beatF h s) st
def S_beat (g : Run) : Prop := ∀ (h : House) (s : Stand) (st : Sto), HouseOk h → StandOk h s → g [toD h, toD s] st = .ok (toD (beatF h s)) st
theorem b_beat {i j c : Nat} (h1 : S_need_stand c (R.call i)) (h2 : S_beat_by (R.call j)) : S_beat (runFn R (f_beat i j)) := by
  intro h s st H S
  rw [run_eq _ _ _ rfl]
  simp [f_beat, need_ok h1 H S, h2 h s _ H S]
  exact finS_toD _ st
/-! the laws' own -/
def S_law_bare (g : Run) : Prop := ∀ (h : House) (s : Stand) (st : Sto), HouseOk h → StandOk h s → g [toD s] st = .ok (.int (bareF s.1 : Nat)) st
theorem idx_inj {s : List Int} (nd : s.Nodup) {i : Nat} {a : Int} (hi : i < s.length) (h : gt s i = a) : s.idxOf a = i := by
  have m : a ∈ s := by rw [← h]; exact gt_mem hi
  have lj := List.idxOf_lt_length_of_mem m
  have e : s[s.idxOf a] = s[i] := by rw [List.getElem_idxOf, ← gt_lt hi, h]
  exact (List.getElem_inj nd).mp e
theorem filter_one {n b : Nat} (h : b < n) : (List.range n).filter (fun i => i == b) = [b] := by
  have p : ((List.range n).filter (fun i => i == b)).Perm [b] := by
    rw [List.perm_ext_iff_of_nodup (List.nodup_range.filter _) (by simp)]
    intro a
    rw [List.mem_filter, List.mem_range]
    simp
    omega
  exact List.perm_singleton.mp p
theorem bare_filter {h : House} {s : Stand} (H : HouseOk h) (S : StandOk h s) : (List.range h.length).filter (fun i => decide (gt s.1 i < 0)) = [bareF s.1] := by
  have B := S.beat H
  have ls := S.seat.len
  have e : (List.range h.length).filter (fun i => decide (gt s.1 i < 0)) = (List.range h.length).filter (fun i => i == bareF s.1) := by
    apply List.filter_congr
    intro i hi
    rw [List.mem_range] at hi
    have hi2 : i < s.1.length := by omega
    by_cases q : i = bareF s.1
    · subst q
      have : gt s.1 (bareF s.1) = -1 := gt_of B.at_
      simp [this]
    · have m := S.seat.mem.mp (gt_mem hi2)
      have n : ¬ gt s.1 i = -1 := fun e => q (idx_inj S.seat.nodup hi2 e).symm
      have n2 : ¬ gt s.1 i < 0 := by omega
      simp [q, n2]
  rw [e, filter_one B.b]
end
end DV
set_option linter.all false
set_option autoImplicit false
set_option maxRecDepth 100000
/-! PO: repr. -/
namespace DV
open PySem (Str PyData)
open Enc
section
variable {R : Env} {α β : Type} [Enc α] [Enc β]
mutual
/-- data whose text is short and plain -/
def tinyP : PyData → Bool
  | .none => true
  | .bool _ => true
  | .int i => decide (i.natAbs < 10 ^ 12)
  | .str x => PyData.strOk x && PyData.strOk (PySem.reprText x)
  | .list xs => tinyPs xs
  | .tuple xs => tinyPs xs
  | .dict _ => false
def tinyPs : List PyData → Bool
  | [] => true
  | x :: xs => tinyP x && tinyPs xs
end
theorem ok_app {a b : Str} (h1 : PyData.strOk a = true) (h2 : PyData.strOk b = true) : PyData.strOk (a ++ b) = true := by
  unfold PyData.strOk at *
  show ((a.cps ++ b.cps).all (· < 0x110000)) = true
  rw [Array.all_append, h1, h2]
  rfl
theorem ok_of (s : String) : PyData.strOk (Str.ofString s) = true := by
  unfold PyData.strOk
  show (Array.all (List.toArray _) _) = true
  rw [List.all_toArray, PySem.cpsOfBytes_string, List.all_map, List.all_eq_true]
  intro c _
  have h := c.valid
  simp only [Function.comp_def, decide_eq_true_eq]
  show c.val.toNat < 0x110000
  simp only [UInt32.isValidChar, Nat.isValidChar] at h
  omega
theorem ok_lit : PyData.strOk ("[" : Str) = true ∧ PyData.strOk ("]" : Str) = true ∧ PyData.strOk ("(" : Str) = true ∧ PyData.strOk (")" : Str) = true ∧ PyData.strOk (",)" : Str) = true ∧ PyData.strOk (", " : Str) = true ∧ PyData.strOk ("" : Str) = true := ⟨ok_of _, ok_of _, ok_of _, ok_of _, ok_of _, ok_of _, ok_of _⟩
theorem ok_textFrom : ∀ (ts : List Str) (k : Nat) (acc : Str), PyData.strOk acc = true → (∀ t ∈ ts, PyData.strOk t = true) → PyData.strOk (PySem.textFrom k acc ts) = true
  | [], _, _, h, _ => h
  | t :: ts, k, acc, h, ht => by
    unfold PySem.textFrom
    refine ok_textFrom ts (k + 1) _ (ok_app (ok_app h (ok_of _)) (ht t (by simp))) fun u hu => ht u (by simp [hu])
theorem ok_join : ∀ (ts : List Str), (∀ t ∈ ts, PyData.strOk t = true) → PyData.strOk (Str.join ", " ts) = true
  | [], _ => ok_of ""
  | [x], h => h x (by simp)
  | x :: y :: ts, h => by
    unfold Str.join
    exact ok_app (ok_app (h x (by simp)) (ok_of _)) (ok_join (y :: ts) fun t ht => h t (by simp [ht]))
mutual
theorem ok_shown : ∀ d : PyData, tinyP d = true → PyData.strOk d.shown = true
  | .none, _ => ok_of _
  | .bool b, _ => by cases b <;> exact ok_of _
  | .int i, _ => ok_of _
  | .str x, h => by
    simp only [tinyP, Bool.and_eq_true] at h
    exact h.2
  | .list xs, h => by
    simp only [PyData.shown, PySem.listText]
    exact ok_app (ok_textFrom _ _ _ (ok_of _) (ok_showns xs (by simpa [tinyP] using h))) (ok_of _)
  | .tuple xs, h => by
    simp only [PyData.shown, PySem.tupleText]
    refine ok_app (ok_app (ok_of _) (ok_join _ (ok_showns xs (by simpa [tinyP] using h)))) ?_
    split <;> exact ok_of _
  | .dict _, h => by simp [tinyP] at h
theorem ok_showns : ∀ ds : List PyData, tinyPs ds = true → ∀ t ∈ PyData.shownAll ds, PyData.strOk t = true
  | [], _ => by simp [PyData.shownAll]
  | x :: xs, h => by
    simp only [tinyPs, Bool.and_eq_true] at h
    intro t ht
    simp only [PyData.shownAll, List.mem_cons] at ht
    rcases ht with rfl | ht
    · exact ok_shown x h.1
    · exact ok_showns xs h.2 t ht
end
mutual
theorem tiny_showable : ∀ d : PyData, tinyP d = true → d.showable = true ∧ d.leavesShort 13 = true
  | .none, _ => by simp [PyData.showable, PyData.leavesShort]
  | .bool b, _ => by simp [PyData.showable, PyData.leavesShort]
  | .int i, h => by
    simp only [tinyP, decide_eq_true_eq] at h
    constructor
    · simp only [PyData.showable, decide_eq_true_eq]
      by_cases z : i.natAbs = 0
      · rw [z]; decide
      · have h3 : i.natAbs < 2 ^ 40 := Nat.lt_trans h (by decide)
        have := (Nat.log2_lt z).mpr h3
        omega
    · simp only [PyData.leavesShort, decide_eq_true_eq]
      exact PyData.shown_int_le h
  | .str x, h => by
    simp only [tinyP, Bool.and_eq_true] at h
    refine ⟨by simp [PyData.showable], ?_⟩
    exact PyData.leavesShort_of_canLay0 13 _ (by simp only [PyData.canLay0]; exact h.1) (by simp [PyData.intsShort])
  | .list xs, h => by
    have z := tinys_showable xs (by simpa [tinyP] using h)
    simpa [PyData.showable, PyData.leavesShort] using z
  | .tuple xs, h => by
    have z := tinys_showable xs (by simpa [tinyP] using h)
    simpa [PyData.showable, PyData.leavesShort] using z
  | .dict _, h => by simp [tinyP] at h
theorem tinys_showable : ∀ ds : List PyData, tinyPs ds = true → PyData.showableAll ds = true ∧ PyData.leavesShortAll 13 ds = true
  | [], _ => by simp [PyData.showableAll, PyData.leavesShortAll]
  | x :: xs, h => by
    simp only [tinyPs, Bool.and_eq_true] at h
    have a := tiny_showable x h.1
    have b := tinys_showable xs h.2
    simp [PyData.showableAll, PyData.leavesShortAll, a, b]
end
/-- p is tiny and of weight w at most -/
def Tiny (p : PyData) (w : Nat) : Prop := tinyP p = true ∧ p.weight ≤ w
theorem Tiny.mono {p : PyData} {w v : Nat} (h : Tiny p w) (hv : w ≤ v) : Tiny p v := ⟨h.1, Nat.le_trans h.2 hv⟩
theorem Tiny.len {p : PyData} {w : Nat} (h : Tiny p w) (hw : w ≤ 2 ^ 20) : p.shown.length ≤ line := by
  have z := PyData.shown_fits (B := 13) (by decide) (by decide) (tiny_showable p h.1).2 (Nat.le_trans h.2 hw)
  exact z
theorem tiny_int {i : Int} (h : i.natAbs < 10 ^ 12) : Tiny (.int i) 40 := by
  refine ⟨by simp only [tinyP, decide_eq_true_eq]; exact h, ?_⟩
  simp only [PyData.weight]
  split
  · omega
  · rename_i z
    have z2 : i.natAbs ≠ 0 := by simpa using z
    have := (Nat.log2_lt z2).mpr (Nat.lt_trans h (by decide : 10 ^ 12 < 2 ^ 40))
    omega
theorem tiny_seqs {ps : List PyData} {w : Nat} (h : ∀ p ∈ ps, Tiny p w) : tinyPs ps = true ∧ PyData.weightAll ps ≤ ps.length * (w + 1) := by
  induction ps with
  | nil => exact ⟨rfl, by simp [PyData.weightAll]⟩
  | cons p ps ih =>
    have a := h p (by simp)
    have b := ih fun q hq => h q (by simp [hq])
    refine ⟨by simp only [tinyPs, a.1, b.1, Bool.and_self], ?_⟩
    simp only [PyData.weightAll, List.length_cons, Nat.add_mul, Nat.one_mul]
    have := a.2
    have := b.2
    omega
theorem tiny_tup {ps : List PyData} {w : Nat} (h : ∀ p ∈ ps, Tiny p w) : Tiny (.tuple ps) (ps.length * (w + 1)) := by
  have z := tiny_seqs h
  exact ⟨by simp only [tinyP]; exact z.1, by simp only [PyData.weight]; exact z.2⟩
theorem tiny_lst {ps : List PyData} {w : Nat} (h : ∀ p ∈ ps, Tiny p w) : Tiny (.list ps) (ps.length * (w + 1)) := by
  have z := tiny_seqs h
  exact ⟨by simp only [tinyP]; exact z.1, by simp only [PyData.weight]; exact z.2⟩
theorem tiny_list {xs : List α} {w n : Nat} (h : ∀ a ∈ xs, Tiny (dat a) w) (hn : xs.length ≤ n) : Tiny (dat xs) (n * (w + 1)) := by
  have z := tiny_tup (ps := xs.map dat) (w := w) fun p hp => by
    obtain ⟨a, ha, rfl⟩ := List.mem_map.mp hp
    exact h a ha
  rw [List.length_map] at z
  exact z.mono (Nat.mul_le_mul_right _ hn)
theorem tiny_pair {a : α} {b : β} {w : Nat} (h1 : Tiny (dat a) w) (h2 : Tiny (dat b) w) : Tiny (dat (a, b)) (2 * (w + 1)) := by
  refine tiny_tup (ps := [dat a, dat b]) fun p hp => ?_
  rcases List.mem_cons.mp hp with rfl | hp
  · exact h1
  · rw [List.mem_singleton] at hp; subst hp; exact h2
theorem tiny_ints {xs : List Int} {n : Nat} (h : ∀ a ∈ xs, a.natAbs < 10 ^ 12) (hn : xs.length ≤ n) : Tiny (dat xs) (n * 41) := tiny_list (fun a ha => tiny_int (h a ha)) hn
theorem tiny_nats {xs : List Nat} {n : Nat} (h : ∀ a ∈ xs, a < 10 ^ 12) (hn : xs.length ≤ n) : Tiny (dat xs) (n * 41) := tiny_list (fun a ha => tiny_int (i := (a : Int)) (by have := h a ha; omega)) hn
/-- deep values with tiny data -/
def SmD (k : Nat) (d : D) (w : Nat) : Prop := ∃ p, (∀ o, toP o k d = some p) ∧ Tiny p w
def SmL (k : Nat) (ds : List D) (w : Nat) : Prop := ∃ ps, (∀ o, mapO (toP o k) ds = some ps) ∧ (∀ p ∈ ps, Tiny p w) ∧ ps.length = ds.length
theorem sm_nil {k w : Nat} : SmL k [] w := ⟨[], fun _ => rfl, by simp, rfl⟩
theorem sm_cons {k w : Nat} {d : D} {ds : List D} (h1 : SmD k d w) (h2 : SmL k ds w) : SmL k (d :: ds) w := by
  obtain ⟨p, e1, t1⟩ := h1
  obtain ⟨ps, e2, t2, l⟩ := h2
  refine ⟨p :: ps, fun o => by simp only [mapO, e1, e2, Option.map_some], fun q hq => ?_, by simp [l]⟩
  rcases List.mem_cons.mp hq with rfl | hq
  · exact t1
  · exact t2 q hq
theorem sm_map {γ : Type} {k w : Nat} {f : γ → D} : ∀ {xs : List γ}, (∀ x ∈ xs, SmD k (f x) w) → SmL k (xs.map f) w
  | [], _ => sm_nil
  | x :: xs, h => sm_cons (h x (by simp)) (sm_map fun y hy => h y (by simp [hy]))
theorem sm_toD {k w : Nat} {a : α} (hk : dep α ≤ k) (h : Tiny (dat a) w) : SmD k (toD a) w := ⟨dat a, fun o => toPd o k a hk, h⟩
theorem sm_int {k : Nat} {i : Int} (h : i.natAbs < 10 ^ 12) : SmD (k + 1) (.int i) 40 := ⟨.int i, fun _ => rfl, tiny_int h⟩
theorem sm_tup {k w n : Nat} {ds : List D} (h : SmL k ds w) (hn : ds.length ≤ n) : SmD (k + 1) (.tup ds) (n * (w + 1)) := by
  obtain ⟨ps, e, t, l⟩ := h
  refine ⟨.tuple ps, fun o => ?_, (tiny_tup t).mono (Nat.mul_le_mul_right _ (by omega))⟩
  show (mapO (toP o k) ds).map PyData.tuple = _
  rw [e]; rfl
theorem SmD.mono {k w v : Nat} {d : D} (h : SmD k d w) (hv : w ≤ v) : SmD k d v := by
  obtain ⟨p, e, t⟩ := h
  exact ⟨p, e, t.mono hv⟩
/-- the data of a list that is kept in the store -/
theorem data_lst {o : List MO} {e : Option Nat} {l : Nat} {ds : List D} {w : Nat} (h : lstOf o[l]? = some ds) (hs : SmL 15 ds w) : ∃ p, (⟨o, e⟩ : Sto).data (.loc l) = some p ∧ Tiny p (ds.length * (w + 1)) := by
  obtain ⟨ps, e1, t, l1⟩ := hs
  refine ⟨.list ps, ?_, by rw [← l1]; exact tiny_lst t⟩
  show (match o[l]? with | some (.lst xs) => (mapO (toP o 15) xs).map PyData.list | _ => none) = _
  rw [lst_of h]
  show (mapO (toP o 15) ds).map PyData.list = _
  rw [e1]; rfl
theorem repr_of {st : Sto} {d : D} {xs : List D} {p : PyData} {w : Nat} (h1 : st.seq d = some xs) (h2 : st.data d = some p) (h3 : Tiny p w) (hw : w ≤ 2 ^ 20) : bltRun .repr [d] st = .ok (.str p.shown) st := by
  have s := (tiny_showable p h3.1).1
  have l : decide (p.shown.length ≤ line) = true := decide_eq_true (h3.len hw)
  simp only [bltRun, reprD, h1, h2, s, l, Bool.and_self, if_true]
theorem data_str {st : Sto} {s : Str} (h : PyData.strOk s = true) : st.data (.str s) = some (.str s) := by
  show (if (PyData.str s).canLay0 then some (PyData.str s) else none) = _
  have : (PyData.str s).canLay0 = true := by simp only [PyData.canLay0]; exact h
  rw [this]; rfl
theorem eq_str {st : Sto} {s t : Str} (h : PyData.strOk s = true) (h2 : PyData.strOk t = true) : cmpop .eq (.str s) (.str t) st = .ok (.bl (s == t)) st := by
  simp only [cmpop, opEq, eqD, data_str h, data_str h2, blO, PyData.eqv]
theorem ne_str {st : Sto} {s t : Str} (h : PyData.strOk s = true) (h2 : PyData.strOk t = true) : cmpop .ne (.str s) (.str t) st = .ok (.bl (!(s == t))) st := by
  simp only [cmpop, opNe, eqD, data_str h, data_str h2, PyData.eqv]
/-- .. by their whole weight -/
def SmW (k : Nat) (ds : List D) (w : Nat) : Prop := ∃ ps, (∀ o, mapO (toP o k) ds = some ps) ∧ tinyPs ps = true ∧ PyData.weightAll ps ≤ w
theorem smW_of {k w : Nat} {ds : List D} (h : SmL k ds w) : SmW k ds (ds.length * (w + 1)) := by
  obtain ⟨ps, e, t, l⟩ := h
  have z := tiny_seqs t
  exact ⟨ps, e, z.1, by rw [← l]; exact z.2⟩
theorem smW_nil {k : Nat} : SmW k [] 0 := ⟨[], fun _ => rfl, rfl, Nat.le_refl _⟩
theorem smW_cons {k w v : Nat} {d : D} {ds : List D} (h1 : SmD k d w) (h2 : SmW k ds v) : SmW k (d :: ds) (w + 1 + v) := by
  obtain ⟨p, e1, t1⟩ := h1
  obtain ⟨ps, e2, t2, l⟩ := h2
  refine ⟨p :: ps, fun o => by simp only [mapO, e1, e2, Option.map_some], by simp only [tinyPs, t1.1, t2, Bool.and_self], ?_⟩
  simp only [PyData.weightAll]
  have := t1.2
  omega
theorem data_lstW {o : List MO} {e : Option Nat} {l : Nat} {ds : List D} {w : Nat} (h : lstOf o[l]? = some ds) (hs : SmW 15 ds w) : ∃ p, (⟨o, e⟩ : Sto).data (.loc l) = some p ∧ Tiny p w := by
  obtain ⟨ps, e1, t, l1⟩ := hs
  refine ⟨.list ps, ?_, by simp only [tinyP]; exact t, by simp only [PyData.weight]; exact l1⟩
  show (match o[l]? with | some (.lst xs) => (mapO (toP o 15) xs).map PyData.list | _ => none) = _
  rw [lst_of h]
  show (mapO (toP o 15) ds).map PyData.list = _
  rw [e1]; rfl
def S_law_same (g : Run) : Prop := ∀ (o : List MO) (l1 l2 : Nat) (ds : List D) (w : Nat), lstOf o[l1]? = some ds → lstOf o[l2]? = some ds → SmW 15 ds w → w ≤ 2 ^ 20 → g [.loc l1, .loc l2] ⟨o, none⟩ = .ok (.bl true) ⟨o, none⟩
theorem b_law_same : S_law_same (runFn R f_law_same) := by
  intro o l1 l2 ds w h1 h2 hs hw
  rw [run_eq _ _ _ rfl]
  obtain ⟨p, e1, t1⟩ := data_lstW (e := none) h1 hs
  obtain ⟨p2, e2, t2⟩ := data_lstW (e := none) h2 hs
  have pp : p2 = p := by
    obtain ⟨ps, e, _, _⟩ := hs
    have a : (⟨o, none⟩ : Sto).data (.loc l1) = (mapO (toP o 15) ds).map PyData.list := by
      show (match o[l1]? with | some (.lst xs) => (mapO (toP o 15) xs).map PyData.list | _ => none) = _
      rw [lst_of h1]
    have b : (⟨o, none⟩ : Sto).data (.loc l2) = (mapO (toP o 15) ds).map PyData.list := by
      show (match o[l2]? with | some (.lst xs) => (mapO (toP o 15) xs).map PyData.list | _ => none) = _
      rw [lst_of h2]
    rw [a] at e1
    rw [b, e1] at e2
    exact (Option.some.inj e2).symm
  subst pp
  have r1 := repr_of (st := ⟨o, none⟩) (d := .loc l1) (xs := ds) (by rw [seq_loc, h1]) e1 t1 hw
  have r2 := repr_of (st := ⟨o, none⟩) (d := .loc l2) (xs := ds) (by rw [seq_loc, h2]) e2 t1 hw
  have q := eq_str (st := ⟨o, none⟩) (ok_shown p2 t1.1) (ok_shown p2 t1.1)
  simp at q
  simp [f_law_same, r1, r2, q]
  exact finS_pure (st := ⟨o, none⟩) rfl
theorem repr_toD {a : List α} {st : Sto} {w : Nat} (hd : dep α + 1 ≤ 16) (h : Tiny (dat a) w) (hw : w ≤ 2 ^ 20) : bltRun .repr [toD a] st = .ok (.str (dat a).shown) st := repr_of (seq_list a st) (data_toD hd st a) h hw
theorem repr_pair {a : α} {b : β} {st : Sto} {w : Nat} (hd : max (dep α) (dep β) + 1 ≤ 16) (h : Tiny (dat (a, b)) w) (hw : w ≤ 2 ^ 20) : bltRun .repr [toD (a, b)] st = .ok (.str (dat (a, b)).shown) st := repr_of (st := st) (d := toD (a, b)) (xs := [toD a, toD b]) rfl (data_toD hd st (a, b)) h hw
end
end DV
set_option linter.all false
set_option autoImplicit false
set_option maxRecDepth 100000
/-! PQ: the laws' own beats, who keeps, all stands. -/
namespace DV
open PySem (Str PyData)
open Enc
section
variable {R : Env} {α β : Type} [Enc α] [Enc β]
theorem b_law_bare : S_law_bare (runFn R f_law_bare) := by
  intro h s st H S
  rw [run_eq _ _ _ rfl]
  have l := H.len
  have ls := S.seat.len
  have c := compT_if (R := R) (e := .var 1) (c := .cmp .lt (.var 2) (.int 0)) (t := .tup [.nm 1, .nm 2]) (k := .enum) (s := [some (toD s), none, none]) (ds := [toD s.1]) (ls := []) (st := ⟨st.objs, none⟩) (fun (p : Int × Nat) => decide (p.1 < 0)) (fun p => p.2) (src_enumD s.1 _) (by rw [List.length_zipIdx, ls]; show h.length ≤ 16777216; omega) (by
    rintro ⟨x, n⟩ hx
    exact ⟨_, by simp [enumT]; rfl, by simp, fun _ => by simp⟩)
  rw [enum_filter (fun a _ => decide (a < 0)) s.1 ls, bare_filter H S] at c
  have a0 : atIx (mapD [bareF s.1]) 0 = some (.int (bareF s.1 : Nat)) := rfl
  simp [f_law_bare, wipeD, c, a0]
  exact finS_pure rfl
theorem finS_ext {o ext : List MO} {l : Nat} {xs : List D} (h1 : o.length ≤ l) (h2 : lstOf (o ++ ext)[l]? = some xs) (h3 : D.noLs xs = true) : finS ⟨o, none⟩ (.loc l) ⟨o ++ ext, none⟩ = .ok (.tl xs) ⟨o, none⟩ :=
  finS_dem (st := ⟨o, none⟩) (dem_loc h1 h2 h3) (by simp)
theorem finS_v {o ext : List MO} {d : D} (h : d.noL = true) : finS ⟨o, none⟩ d ⟨o ++ ext, none⟩ = .ok d ⟨o, none⟩ := finS_noL (st := ⟨o, none⟩) h
def S_law_beat (g : Run) : Prop := ∀ (h : House) (s : Stand) (o : List MO), HouseOk h → StandOk h s → g [toD h, toD s] ⟨o, none⟩ = .ok (toD (beatF h s)) ⟨o, none⟩
theorem b_law_beat {i : Nat} (h1 : S_law_bare (R.call i)) : S_law_beat (runFn R (f_law_beat i)) := by
  intro h s o H S
  rw [run_eq _ _ _ rfl]
  have B := S.beat H
  have l := H.len
  have ls := S.seat.len
  have e1 := fun st => h1 h s st H S
  have g1 : (gt h (bareF s.1))[gt s.2 (bareF s.1)]? = some (calledF h s) := get_gt B.k
  have L0 : ∀ (A B : List D), lstOf (o ++ [.lst A, .lst B])[o.length]? = some A := fun A B => by rw [get_n rfl]; rfl
  have L1 : ∀ (A B : List D), lstOf (o ++ [.lst A, .lst B])[o.length + 1]? = some B := fun A B => by rw [get_nk rfl]; rfl
  have i0 := fun A B i => idx_loc (e := none) (L0 A B) i
  have i1 := fun A B i => idx_loc (e := none) (L1 A B) i
  have ix := index_loc (α := Int) (e := none) (L0 (mapD s.1) (mapD s.2)) (by decide) B.mem
  have s1 := setIx_lst (e := none) (k := bareF s.1) (d := toD (calledF h s)) (L0 (mapD s.1) (mapD s.2)) (by simpa using B.bs) (noL_toD _)
  rw [set_n rfl, mapD_set] at s1
  have s2 := setIx_lst (e := none) (k := s.1.idxOf (calledF h s)) (d := toD (-1 : Int)) (L0 (mapD (s.1.set (bareF s.1) (calledF h s))) (mapD s.2)) (by simpa using B.j) (noL_toD _)
  rw [set_n rfl, mapD_set] at s2
  have s3 := setIx_lst (e := none) (k := bareF s.1) (d := toD (nextF h s)) (L1 (mapD ((s.1.set (bareF s.1) (calledF h s)).set (s.1.idxOf (calledF h s)) (-1))) (mapD s.2)) (by simpa using B.bh) (noL_toD _)
  rw [set_nk rfl, mapD_set] at s3
  have t0 := fun A B => tuple_loc (e := none) (L0 A B)
  have t1 := fun A B => tuple_loc (e := none) (L1 A B)
  have m0 : ∀ A B, mthOk .index (.loc o.length) ⟨o ++ [.lst A, .lst B], none⟩ = true := fun A B => mthOk_lst (L0 A B) (by simp)
  have e5 := fun st => mod_nat (a := gt s.2 (bareF s.1)) (b := (gt h (bareF s.1)).length) (st := st) (by have := B.l; omega)
  have sw : (s.1.set (bareF s.1) (calledF h s)).set (s.1.idxOf (calledF h s)) (-1) = (s.1.set (s.1.idxOf (calledF h s)) (-1)).set (bareF s.1) (calledF h s) := List.set_comm _ _ (fun e => B.ne e.symm)
  simp only [toD_int, toD_nat, List.set_cons_zero, List.set_cons_succ] at ix s1 s2 s3
  simp [f_law_beat, stl_not, settle_tup, settle_tl, settles_nil, settles_cons, settles_mapD, e1, atIx_nat, mapD_get, get_gt B.b, get_gt B.bh, g1, i0, i1, ix, s1, s2, m0, e5]
  rw [show (((gt s.2 (bareF s.1) : Nat) : Int) + 1) % ((gt h (bareF s.1)).length : Int) = ((nextF h s : Nat) : Int) from rfl, s3]
  simp [t0, t1, sw]
  exact finS_v (noL_toD (beatF h s))
def S_law_any_stand (g : Run) : Prop := ∀ (o : List MO) (p : Nat) (h : House), PenAt o p → HouseOk h → ∃ (s : Stand) (q : MO), StandOk h s ∧ PenMO q ∧ g [.loc p, toD h] ⟨o, none⟩ = .ok (toD s) ⟨o.set p q, none⟩
theorem b_law_any_stand {i j k m : Nat} (h1 : S_law_stand (R.call i)) (h2 : S_law_kept_stand (R.call j)) (h3 : S_law_draw (R.call k)) (h4 : S_law_beat (R.call m)) : S_law_any_stand (runFn R (f_law_any_stand i j k m)) := by
  intro o p h hp H
  rw [run_eq _ _ _ rfl]
  obtain ⟨s1, q1, S1, hq1, e1⟩ := h1 o p h hp H
  obtain ⟨s2, q2, S2, hq2, e2⟩ := h2 (o.set p q1) p h (hp.set hq1) H
  rw [List.set_set] at e2
  obtain ⟨r3, q3, hr3, hq3, e3⟩ := draw_at h3 hp hq2 (m := 2) (by omega) (by omega)
  obtain ⟨r4, q4, hr4, hq4, e4⟩ := draw_at h3 hp hq3 (m := 4) (by omega) (by omega)
  obtain ⟨s, S, es⟩ : ∃ s, StandOk h s ∧ atIx [toD s1, toD s2] (r3 : Int) = some (toD s) := by
    rw [atIx_nat]
    have : r3 = 0 ∨ r3 = 1 := by omega
    rcases this with rfl | rfl
    · exact ⟨s1, S1, rfl⟩
    · exact ⟨s2, S2, rfl⟩
  have ec : ∀ d, endC ⟨o, none⟩ (.ok d ⟨o.set p q1, none⟩) = .ok d ⟨o.set p q1, none⟩ := fun d => endC_same (by simp)
  obtain ⟨s', st', ef, s5, b, rfl, rfl, S5⟩ := for_inv (R := R) (k := .range1) (t := .nm 3) (b := [.asg (.nm 2) (.call m [.var 1, .var 2])]) (ds := [.int (r4 : Int)]) (ls := []) (h := toD) (ys := List.range r4) (s := [some (.loc p), some (toD h), some (toD s), none]) (st := ⟨o.set p q4, none⟩)
    (fun _ sl st => ∃ (s : Stand) (b : Option D), sl = [some (.loc p), some (toD h), some (toD s), b] ∧ st = ⟨o.set p q4, none⟩ ∧ StandOk h s) (src_range (by omega)) ⟨s, none, rfl, rfl, S⟩ (by
      rintro pre y post sl st hy ⟨s, b, rfl, rfl, S⟩
      exact ⟨_, [some (.loc p), some (toD h), some (toD (beatF h s)), some (toD y)], _, set_nm _ _ _, by simp [h4 h s _ H S], by simp [stays], beatF h s, _, rfl, rfl, beat_ok H S⟩)
  refine ⟨s5, q4, S5, hq4, ?_⟩
  simp [f_law_any_stand, e1, e2, e3, e4, ec, es, ef]
  exact finS_pen0 (noL_toD s5)
end
end DV
set_option linter.all false
set_option autoImplicit false
set_option maxRecDepth 100000
/-! PR: who keeps by the laws, all seatings, all hands, all stands. -/
namespace DV
open PySem (Str PyData)
open Enc
section
variable {R : Env} {α β : Type} [Enc α] [Enc β]
def S_law_kept (g : Run) : Prop := ∀ (h : House) (s : Stand) (o : List MO), HouseOk h → StandOk h s → g [toD h, toD s] ⟨o, none⟩ = .ok (.tl (mapD (keptF h s))) ⟨o, none⟩
theorem house_enum (h : House) : h.zipIdx = (List.range h.length).map fun i => (gt h i, i) := by
  apply List.ext_getElem
  · simp
  · intro i h1 h2
    simp at h1 h2
    simp [gt_lt h1]
theorem b_law_kept : S_law_kept (runFn R f_law_kept) := by
  intro h s o H S
  rw [run_eq _ _ _ rfl]
  have l := H.len
  have ls := S.seat.len
  have src : ∀ st, srcItems .enum [toD h] st = some ((List.range h.length).map fun i => enumT (gt h i, i), []) := fun st => by
    rw [src_enumD, house_enum, List.map_map]; rfl
  obtain ⟨s', st', e, a, b, c, d, rfl, rfl⟩ := for_inv (R := R) (k := .enum) (t := .tup [.nm 3, .nm 4]) (b := [.asg (.tup [.nm 5, .nm 6]) (.tup [.bin .add (.var 4) (.var 4), .idx (.idx (.var 1) (.int 1)) (.var 3)]), .ite (.cmp .eq (.idx (.var 5) (.bin .sub (.bin .add (.blt .len [.var 4]) (.var 6)) (.int 1))) (.idx (.idx (.var 1) (.int 0)) (.var 3))) [.ex (.mth .append (.var 2) [.var 3])] []])
    (ds := [toD h]) (ls := []) (ys := List.range h.length) (s := [some (toD h), some (toD s), some (.loc o.length), none, none, none, none]) (st := ⟨o ++ [.lst []], none⟩)
    (fun done sl st => ∃ a b c d, sl = [some (toD h), some (toD s), some (.loc o.length), a, b, c, d] ∧ st = ⟨o ++ [.lst (mapD (done.filter (keepB h s)))], none⟩) (src _) ⟨none, none, none, none, rfl, rfl⟩ (by
      rintro pre y post sl st hy ⟨a, b, c, d, rfl, rfl⟩
      have hyl : y < h.length := List.mem_range.mp (by rw [hy]; simp)
      have ll := H.at hyl
      have kk := S.at hyl
      have pl : pre.length ≤ 5 := by
        have := congrArg List.length hy
        simp at this
        omega
      have L : lstOf (o ++ [MO.lst (mapD (pre.filter (keepB h s)))])[o.length]? = some (mapD (pre.filter (keepB h s))) := by rw [get_n rfl]; rfl
      have A := append_loc (e := none) (x := toD y) L (by rw [mapD_length]; exact Nat.lt_of_le_of_lt (List.length_filter_le _ _) (show pre.length < 16777216 by omega)) (noT_toD _) (noL_toD _)
      rw [set_n rfl, mapD_snoc] at A
      have e1 : ∀ st, binop .add (toD (gt h y)) (toD (gt h y)) st = .ok (toD (gt h y ++ gt h y)) st := fun st => add_gen (by omega)
      have e2 : atIx (gt h y ++ gt h y) (((gt h y).length : Int) + (gt s.2 y : Nat) - 1) = some (lastF h s.2 y) := by
        rw [show ((gt h y).length : Int) + ((gt s.2 y : Nat) : Int) - 1 = (((gt h y).length + gt s.2 y - 1 : Nat) : Int) by omega, atIx_nat]
        unfold lastF
        rw [← get_gt (prevI_lt ll.1 kk)]
        unfold prevI
        split
        · rw [List.getElem?_append_left (by omega)]
          congr 1; omega
        · rw [List.getElem?_append_right (by omega)]
          congr 1; omega
      have gy1 : s.1[y]? = some (gt s.1 y) := get_gt (by omega)
      have gy2 : s.2[y]? = some (gt s.2 y) := get_gt (by rw [S.len]; exact hyl)
      have mo := mthOk_lst (e := none) (m := .append) L (by simp)
      refine ⟨_, [some (toD h), some (toD s), some (.loc o.length), some (toD y), some (toD (gt h y)), some (toD (gt h y ++ gt h y)), some (toD (gt s.2 y))], ⟨o ++ [.lst (mapD ((pre ++ [y]).filter (keepB h s)))], none⟩, by simp [enumT]; rfl, ?_, by simp [stays], _, _, _, _, rfl, rfl⟩
      by_cases q : gt s.1 y = lastF h s.2 y
      · have kb : keepB h s y = true := by simp [keepB, q]
        simp at A
        have f : (pre ++ [y]).filter (keepB h s) = pre.filter (keepB h s) ++ [y] := by simp [List.filter_append, kb]
        rw [f]
        simp [e1, stlNoT, atIx_nat, gy1, gy2, e2, q, mo, A]
      · have kb : keepB h s y = false := by simp [keepB, q]
        have f : (pre ++ [y]).filter (keepB h s) = pre.filter (keepB h s) := by simp [List.filter_append, kb]
        have q2 : ¬ lastF h s.2 y = gt s.1 y := fun e => q e.symm
        rw [f]
        simp [e1, stlNoT, atIx_nat, gy1, gy2, e2, q2])
  simp [f_law_kept, e]
  exact finS_loc0 (st := ⟨o, none⟩) rfl (noLs_mapD _)
/-- all rows of k of the names below n -/
def seatsK (n : Nat) : Nat → List (List Int)
  | 0 => [[]]
  | k + 1 => (seatsK n k).flatMap fun row => ((rangeI (-1) n).filter fun x => !decide (x ∈ row)).map fun x => row ++ [x]
/-- all hands of the lists -/
def handsA : House → List (List Nat)
  | h => h.foldl (fun rows l => rows.flatMap fun row => (List.range l.length).map fun x => row ++ [x]) [[]]
theorem flatMap_le {γ δ : Type} {f : γ → List δ} {m : Nat} : ∀ {xs : List γ}, (∀ x ∈ xs, (f x).length ≤ m) → (xs.flatMap f).length ≤ xs.length * m
  | [], _ => by simp
  | x :: xs, h => by
    rw [List.flatMap_cons, List.length_append, List.length_cons, Nat.add_mul, Nat.one_mul]
    have := h x (by simp)
    have := flatMap_le (xs := xs) fun y hy => h y (by simp [hy])
    omega
theorem seatsK_length (n : Nat) : ∀ k, (seatsK n k).length ≤ n ^ k ∧ ∀ r ∈ seatsK n k, r.length = k
  | 0 => by simp [seatsK]
  | k + 1 => by
    obtain ⟨h1, h2⟩ := seatsK_length n k
    constructor
    · rw [seatsK, Nat.pow_succ]
      refine Nat.le_trans (flatMap_le (m := n) fun x _ => ?_) (Nat.mul_le_mul_right _ h1)
      rw [List.length_map]
      exact Nat.le_trans (List.length_filter_le _ _) (by rw [rangeI_length]; exact Nat.le_refl _)
    · intro r hr
      rw [seatsK, List.mem_flatMap] at hr
      obtain ⟨row, h3, h4⟩ := hr
      obtain ⟨x, _, rfl⟩ := List.mem_map.mp h4
      simp [h2 row h3]
theorem flatMap_snoc {γ δ : Type} (f : γ → List δ) (xs : List γ) (x : γ) : (xs ++ [x]).flatMap f = xs.flatMap f ++ f x := by simp
theorem flatMap_pre_le {γ δ : Type} {f : γ → List δ} {xs pre post : List γ} (h : xs = pre ++ post) : (pre.flatMap f).length ≤ (xs.flatMap f).length := by
  rw [h, List.flatMap_append, List.length_append]
  omega
def S_law_seatings (g : Run) : Prop := ∀ (n : Nat) (o : List MO), 1 ≤ n → n ≤ 7 → g [.int n] ⟨o, none⟩ = .ok (.tl (mapD (seatsK n n))) ⟨o, none⟩
theorem b_law_seatings : S_law_seatings (runFn R f_law_seatings) := by
  intro n o h1 h2
  rw [run_eq _ _ _ rfl]
  have bound : ∀ k, k ≤ n → (seatsK n k).length ≤ 823543 := fun k hk => Nat.le_trans (seatsK_length n k).1 (Nat.le_trans (Nat.pow_le_pow_left h2 k) (Nat.pow_le_pow_right (by decide) (by omega : k ≤ 7)))
  obtain ⟨s', st', e, l, ext, a, b, c, d, rfl, rfl, hl, L⟩ := for_inv (R := R) (k := .range1) (t := .nm 2) (b := [.asg (.nm 3) (.lst []), .fr (.nm 4) .seq [.var 1] [.asg (.nm 3) (.bin .add (.var 3) (.comp (.bin .add (.var 4) (.tup [.var 5])) [5] (.nm 5) .range2 [.neg (.int 1), .bin .sub (.var 0) (.int 1)] [.cmp .nin (.var 5) (.var 4)]))], .asg (.nm 1) (.var 3)])
    (ds := [.int (n : Int)]) (ls := []) (h := toD) (ys := List.range n) (s := [some (.int n), some (.loc o.length), none, none, none, none]) (st := ⟨o ++ [.lst [.tup []]], none⟩)
    (fun done sl st => ∃ (l : Nat) (ext : List MO) (a b c d : Option D), sl = [some (.int n), some (.loc l), a, b, c, d] ∧ st = ⟨o ++ ext, none⟩ ∧ o.length ≤ l ∧ lstOf (o ++ ext)[l]? = some (mapD (seatsK n done.length))) (src_range (by omega)) ⟨o.length, _, none, none, none, none, rfl, rfl, Nat.le_refl _, by rw [get_n rfl]; rfl⟩ (by
      rintro pre y post sl st hy ⟨l, ext, a, b, c, d, rfl, rfl, hl, L⟩
      have hle : pre.length < n := by
        have := congrArg List.length hy
        simp at this
        omega
      have bd := bound (pre.length + 1) (by omega)
      -- the rows one by one
      obtain ⟨s2, st2, e2, l2, ext2, a2, b2, c2, d2, rfl, rfl, hl2, L2, L2'⟩ := for_inv (R := R) (k := .seq) (t := .nm 4) (b := [.asg (.nm 3) (.bin .add (.var 3) (.comp (.bin .add (.var 4) (.tup [.var 5])) [5] (.nm 5) .range2 [.neg (.int 1), .bin .sub (.var 0) (.int 1)] [.cmp .nin (.var 5) (.var 4)]))])
        (ds := [.loc l]) (ls := [l]) (h := toD) (ys := seatsK n pre.length) (s := [some (.int n), some (.loc l), some (toD y), some (.loc (o ++ ext).length), c, d]) (st := ⟨o ++ ext ++ [.lst []], none⟩)
        (fun done sl st => ∃ (l2 : Nat) (ext2 : List MO) (c d : Option D) (a : Option D) (b : Option D), sl = [some (.int n), some (.loc l), some (toD y), some (.loc l2), c, d] ∧ st = ⟨o ++ ext ++ ext2, none⟩ ∧ o.length ≤ l2 ∧ lstOf (o ++ ext ++ ext2)[l2]? = some (mapD (done.flatMap fun row => ((rangeI (-1) n).filter fun x => !decide (x ∈ row)).map fun x => row ++ [x])) ∧ lstOf (o ++ ext ++ ext2)[l]? = some (mapD (seatsK n pre.length)))
        (src_loc (by rw [get_lt (lst_of L)]; rfl)) ⟨(o ++ ext).length, _, c, d, none, none, rfl, rfl, by simp, by rw [get_n rfl]; rfl, by rw [get_lt (lst_of L)]; rfl⟩ (by
          rintro pre2 row post2 sl st hy2 ⟨l2, ext2, c, d, a, b, rfl, rfl, hl2, L2, L2'⟩
          have hrow := (seatsK_length n pre.length).2 row (by rw [hy2]; simp)
          have cm : ∀ s5 st, compE R (.bin .add (.var 4) (.tup [.var 5])) [.cmp .nin (.var 5) (.var 4)] (.nm 5) .range2 [some (.int n), some (.loc l), some (toD y), some (.loc l2), some (toD row), s5] [.int (-1), .int ((n : Int) - 1)] st = .ok (.tl (mapD (((rangeI (-1) n).filter fun x => !decide (x ∈ row)).map fun x => row ++ [x]))) st := fun s5 st => by
            refine compT_if (fun x => !decide (x ∈ row)) (fun x => row ++ [x]) (h := toD) (src_range2 (n := n) (by omega) (by omega) (by omega)) (by rw [rangeI_length]; show n ≤ 16777216; omega) fun x hx => ⟨_, set_nm _ _ _, by simp, fun _ => ?_⟩
            have := add_gen (xs := row) (ys := [x]) (st := st) (by simp; omega)
            simp
            exact this
          have ad := add_loc_tl (e := none) (ys := mapD (((rangeI (-1) n).filter fun x => !decide (x ∈ row)).map fun x => row ++ [x])) L2 (by
            have z := flatMap_pre_le (f := fun row => ((rangeI (-1) n).filter fun x => !decide (x ∈ row)).map fun x => row ++ [x]) (xs := seatsK n pre.length) (pre := pre2 ++ [row]) (post := post2) (by rw [hy2]; simp)
            rw [flatMap_snoc, List.length_append] at z
            have e : ((seatsK n pre.length).flatMap fun row => ((rangeI (-1) n).filter fun x => !decide (x ∈ row)).map fun x => row ++ [x]) = seatsK n (pre.length + 1) := rfl
            rw [e] at z
            rw [mapD_length, mapD_length]
            show _ ≤ 16777216
            omega)
          rw [mapD_app, ← flatMap_snoc] at ad
          refine ⟨_, [some (.int n), some (.loc l), some (toD y), some (.loc (o ++ ext ++ ext2).length), some (toD row), d], ⟨o ++ ext ++ (ext2 ++ [.lst (mapD ((pre2 ++ [row]).flatMap fun row => ((rangeI (-1) n).filter fun x => !decide (x ∈ row)).map fun x => row ++ [x]))]), none⟩, set_nm _ _ _, ?_, ?_, _, _, _, _, none, none, rfl, rfl, by simp only [List.length_append]; omega, ?_, ?_⟩
          · simp only [toD_nat] at cm
            simp at ad
            simp [wipeD, cm, ad]
          · simp only [stays, List.all_cons, List.all_nil, Bool.and_true, decide_eq_true_eq]
            rw [← List.append_assoc, get_lt (lst_of L2'), lst_of L2']
          · rw [← List.append_assoc, get_n rfl]; rfl
          · rw [← List.append_assoc, get_lt (lst_of L2')]; rfl)
      refine ⟨_, [some (.int n), some (.loc l2), some (toD y), some (.loc l2), a2, b2], ⟨o ++ (ext ++ ext2), none⟩, set_nm _ _ _, ?_, by simp [stays], l2, ext ++ ext2, _, _, _, _, rfl, rfl, hl2, ?_⟩
      · simp at e2
        simp [e2]
      · rw [← List.append_assoc, L2]
        simp [seatsK])
  simp at e L
  simp [f_law_seatings, e, stl_tl]
  exact finS_ext hl L (noLs_mapD _)
end
end DV
set_option linter.all false
set_option autoImplicit false
set_option maxRecDepth 100000
/-! PS: all hands, all stands. -/
namespace DV
open PySem (Str PyData)
open Enc
section
variable {R : Env} {α β : Type} [Enc α] [Enc β]
def handsL (ls : House) : List (List Nat) := ls.foldl (fun rows l => rows.flatMap fun row => (List.range l.length).map fun x => row ++ [x]) [[]]
theorem handsL_snoc (ls : House) (l : List Int) : handsL (ls ++ [l]) = (handsL ls).flatMap fun row => (List.range l.length).map fun x => row ++ [x] := by
  simp [handsL, List.foldl_append]
theorem list_rec_snoc {γ : Type} {P : List γ → Prop} (h0 : P []) (h1 : ∀ xs x, P xs → P (xs ++ [x])) (xs : List γ) : P xs := by
  have : P xs.reverse.reverse := by
    induction xs.reverse with
    | nil => exact h0
    | cons x xs ih => rw [List.reverse_cons]; exact h1 _ _ ih
  rwa [List.reverse_reverse] at this
theorem handsL_len (ls : House) : (∀ l ∈ ls, l.length ≤ 3) → (handsL ls).length ≤ 3 ^ ls.length ∧ ∀ r ∈ handsL ls, r.length = ls.length := by
  refine list_rec_snoc (P := fun ls => (∀ l ∈ ls, l.length ≤ 3) → (handsL ls).length ≤ 3 ^ ls.length ∧ ∀ r ∈ handsL ls, r.length = ls.length) (by simp [handsL]) (fun ls l ih h => ?_) ls
  obtain ⟨i1, i2⟩ := ih fun x hx => h x (by simp [hx])
  rw [handsL_snoc]
  constructor
  · rw [List.length_append, List.length_singleton, Nat.pow_succ]
    refine Nat.le_trans (flatMap_le (m := 3) fun x _ => ?_) (Nat.mul_le_mul_right _ i1)
    rw [List.length_map, List.length_range]
    exact h l (by simp)
  · intro r hr
    rw [List.mem_flatMap] at hr
    obtain ⟨row, h3, h4⟩ := hr
    obtain ⟨x, _, rfl⟩ := List.mem_map.mp h4
    simp [i2 row h3]
def S_law_all_hands (g : Run) : Prop := ∀ (h : House) (o : List MO), HouseOk h → g [toD h] ⟨o, none⟩ = .ok (.tl (mapD (handsL h))) ⟨o, none⟩
theorem b_law_all_hands : S_law_all_hands (runFn R f_law_all_hands) := by
  intro h o H
  rw [run_eq _ _ _ rfl]
  have lh := H.len
  obtain ⟨s', st', e, l, ext, a, b, c, d, rfl, rfl, hl, L⟩ := for_inv (R := R) (k := .seq) (t := .nm 2) (b := [.asg (.nm 3) (.lst []), .fr (.nm 4) .seq [.var 1] [.asg (.nm 3) (.bin .add (.var 3) (.comp (.bin .add (.var 4) (.tup [.var 5])) [5] (.nm 5) .range1 [.blt .len [.var 2]] []))], .asg (.nm 1) (.var 3)])
    (ds := [toD h]) (ls := []) (h := toD) (ys := h) (s := [some (toD h), some (.loc o.length), none, none, none, none]) (st := ⟨o ++ [.lst [.tup []]], none⟩)
    (fun done sl st => ∃ (l : Nat) (ext : List MO) (a b c d : Option D), sl = [some (toD h), some (.loc l), a, b, c, d] ∧ st = ⟨o ++ ext, none⟩ ∧ o.length ≤ l ∧ lstOf (o ++ ext)[l]? = some (mapD (handsL done))) (src_toD h _) ⟨o.length, _, none, none, none, none, rfl, rfl, Nat.le_refl _, by rw [get_n rfl]; rfl⟩ (by
      rintro pre y post sl st hy ⟨l, ext, a, b, c, d, rfl, rfl, hl, L⟩
      have hle : pre.length < h.length := by
        have := congrArg List.length hy
        simp at this
        omega
      have ym : y ∈ h := by rw [hy]; simp
      have y3 := H.lst y ym
      have pm : ∀ l ∈ pre, l.length ≤ 3 := fun l hl => (H.lst l (by rw [hy]; simp [hl])).2
      have pm2 : ∀ l ∈ pre ++ [y], l.length ≤ 3 := fun l hl => by
        rcases List.mem_append.mp hl with z | z
        · exact pm l z
        · simp at z; subst z; exact y3.2
      have bd : (handsL (pre ++ [y])).length ≤ 243 := Nat.le_trans (handsL_len _ pm2).1 (by
        rw [List.length_append, List.length_singleton]
        exact Nat.pow_le_pow_right (by decide) (by omega : pre.length + 1 ≤ 5))
      rw [handsL_snoc] at bd
      obtain ⟨s2, st2, e2, l2, ext2, a2, b2, rfl, rfl, hl2, L2, L2'⟩ := for_inv (R := R) (k := .seq) (t := .nm 4) (b := [.asg (.nm 3) (.bin .add (.var 3) (.comp (.bin .add (.var 4) (.tup [.var 5])) [5] (.nm 5) .range1 [.blt .len [.var 2]] []))])
        (ds := [.loc l]) (ls := [l]) (h := toD) (ys := handsL pre) (s := [some (toD h), some (.loc l), some (toD y), some (.loc (o ++ ext).length), c, d]) (st := ⟨o ++ ext ++ [.lst []], none⟩)
        (fun done sl st => ∃ (l2 : Nat) (ext2 : List MO) (c d : Option D), sl = [some (toD h), some (.loc l), some (toD y), some (.loc l2), c, d] ∧ st = ⟨o ++ ext ++ ext2, none⟩ ∧ o.length ≤ l2 ∧ lstOf (o ++ ext ++ ext2)[l2]? = some (mapD (done.flatMap fun row => (List.range y.length).map fun x => row ++ [x])) ∧ lstOf (o ++ ext ++ ext2)[l]? = some (mapD (handsL pre)))
        (src_loc (by rw [get_lt (lst_of L)]; rfl)) ⟨(o ++ ext).length, _, c, d, rfl, rfl, by simp, by rw [get_n rfl]; rfl, by rw [get_lt (lst_of L)]; rfl⟩ (by
          rintro pre2 row post2 sl st hy2 ⟨l2, ext2, c, d, rfl, rfl, hl2, L2, L2'⟩
          have hrow := (handsL_len pre pm).2 row (by rw [hy2]; simp)
          have cm : ∀ s5 st, compE R (.bin .add (.var 4) (.tup [.var 5])) [] (.nm 5) .range1 [some (toD h), some (.loc l), some (toD y), some (.loc l2), some (toD row), s5] [.int (y.length : Int)] st = .ok (.tl (mapD ((List.range y.length).map fun x => row ++ [x]))) st := fun s5 st => by
            refine compT_map (fun x => row ++ [x]) (h := toD) (src_range (by omega)) (by rw [List.length_range]; show y.length ≤ 16777216; omega) fun x hx => ⟨_, set_nm _ _ _, ?_⟩
            have := add_gen (xs := row) (ys := [x]) (st := st) (by simp; omega)
            simp
            exact this
          have ad := add_loc_tl (e := none) (ys := mapD ((List.range y.length).map fun x => row ++ [x])) L2 (by
            have z := flatMap_pre_le (f := fun row : List Nat => (List.range y.length).map fun x => row ++ [x]) (xs := handsL pre) (pre := pre2 ++ [row]) (post := post2) (by rw [hy2]; simp)
            rw [flatMap_snoc, List.length_append] at z
            rw [mapD_length, mapD_length]
            show _ ≤ 16777216
            omega)
          rw [mapD_app, ← flatMap_snoc] at ad
          refine ⟨_, [some (toD h), some (.loc l), some (toD y), some (.loc (o ++ ext ++ ext2).length), some (toD row), d], ⟨o ++ ext ++ (ext2 ++ [.lst (mapD ((pre2 ++ [row]).flatMap fun row => (List.range y.length).map fun x => row ++ [x]))]), none⟩, set_nm _ _ _, ?_, ?_, _, _, _, _, rfl, rfl, by simp only [List.length_append]; omega, ?_, ?_⟩
          · simp at ad
            simp [wipeD, cm, ad]
          · simp only [stays, List.all_cons, List.all_nil, Bool.and_true, decide_eq_true_eq]
            rw [← List.append_assoc, get_lt (lst_of L2'), lst_of L2']
          · rw [← List.append_assoc, get_n rfl]; rfl
          · rw [← List.append_assoc, get_lt (lst_of L2')]; rfl)
      refine ⟨_, [some (toD h), some (.loc l2), some (toD y), some (.loc l2), a2, b2], ⟨o ++ (ext ++ ext2), none⟩, set_nm _ _ _, ?_, by simp [stays], l2, ext ++ ext2, _, _, _, _, rfl, rfl, hl2, ?_⟩
      · simp at e2
        simp [e2]
      · rw [← List.append_assoc, L2, handsL_snoc])
  simp [f_law_all_hands, e, stl_tl]
  exact finS_ext hl L (noLs_mapD _)
/-- all stands of a house, as the laws go through them -/
def standsA (h : House) : List Stand := (seatsK h.length h.length).flatMap fun s => (handsL h).map fun hs => (s, hs)
theorem standsA_len {h : House} (H : HouseOk h) : (standsA h).length ≤ 3125 * 243 := by
  have l := H.len
  have a : (seatsK h.length h.length).length ≤ 3125 := Nat.le_trans (seatsK_length _ _).1 (Nat.le_trans (Nat.pow_le_pow_left l.2 _) (Nat.pow_le_pow_right (by decide) l.2))
  have b : (handsL h).length ≤ 243 := Nat.le_trans (handsL_len h fun x hx => (H.lst x hx).2).1 (Nat.pow_le_pow_right (by decide) l.2)
  refine Nat.le_trans (flatMap_le (m := 243) fun x _ => by rw [List.length_map]; exact b) (Nat.mul_le_mul_right _ a)
def S_law_all_stands (g : Run) : Prop := ∀ (h : House) (o : List MO), HouseOk h → g [toD h] ⟨o, none⟩ = .ok (.tl (mapD (standsA h))) ⟨o, none⟩
theorem b_law_all_stands {i j : Nat} (h1 : S_law_all_hands (R.call i)) (h2 : S_law_seatings (R.call j)) : S_law_all_stands (runFn R (f_law_all_stands i j)) := by
  intro h o H
  rw [run_eq _ _ _ rfl]
  have lh := H.len
  have e1 := h1 h o H
  have e2 := h2 h.length (o ++ [.lst [], .lst (mapD (handsL h))]) (by omega) (by omega)
  have len := standsA_len H
  obtain ⟨s', st', e, l, ext, a, b, rfl, rfl, hl, L, L'⟩ := for_inv (R := R) (k := .seq) (t := .nm 3) (b := [.asg (.nm 1) (.bin .add (.var 1) (.comp (.tup [.var 3, .var 4]) [4] (.nm 4) .seq [.var 2] []))])
    (ds := [.tl (mapD (seatsK h.length h.length))]) (ls := []) (h := toD) (ys := seatsK h.length h.length) (s := [some (toD h), some (.loc o.length), some (.loc (o.length + 1)), none, none]) (st := ⟨o ++ [.lst [], .lst (mapD (handsL h))], none⟩)
    (fun done sl st => ∃ (l : Nat) (ext : List MO) (a b : Option D), sl = [some (toD h), some (.loc l), some (.loc (o.length + 1)), a, b] ∧ st = ⟨o ++ ext, none⟩ ∧ o.length ≤ l ∧ lstOf (o ++ ext)[l]? = some (mapD (done.flatMap fun s => (handsL h).map fun hs => (s, hs))) ∧ lstOf (o ++ ext)[o.length + 1]? = some (mapD (handsL h)))
    (src_tlD _ _) ⟨o.length, _, none, none, rfl, rfl, Nat.le_refl _, by rw [get_n rfl]; rfl, by rw [get_nk rfl]; rfl⟩ (by
      rintro pre y post sl st hy ⟨l, ext, a, b, rfl, rfl, hl, L, L'⟩
      have cm : ∀ s5, compE R (.tup [.var 3, .var 4]) [] (.nm 4) .seq [some (toD h), some (.loc l), some (.loc (o.length + 1)), some (toD y), s5] [.loc (o.length + 1)] ⟨o ++ ext, none⟩ = .ok (.tl (mapD ((handsL h).map fun hs => (y, hs)))) ⟨o ++ ext, none⟩ := fun s5 => by
        have lh : (handsL h).length ≤ 243 := Nat.le_trans (handsL_len h fun x hx => (H.lst x hx).2).1 (Nat.pow_le_pow_right (by decide) H.len.2)
        refine compT_map (fun hs => (y, hs)) (h := toD) (src_loc L') (show (handsL h).length ≤ 16777216 by omega) fun x hx => ⟨_, set_nm _ _ _, ?_⟩
        simp
        rfl
      have ad := add_loc_tl (e := none) (ys := mapD ((handsL h).map fun hs => (y, hs))) L (by
        have z := flatMap_pre_le (f := fun s : List Int => (handsL h).map fun hs => (s, hs)) (xs := seatsK h.length h.length) (pre := pre ++ [y]) (post := post) (by rw [hy]; simp)
        rw [flatMap_snoc, List.length_append] at z
        rw [mapD_length, mapD_length]
        show _ ≤ 16777216
        have e : (seatsK h.length h.length).flatMap (fun s => (handsL h).map fun hs => (s, hs)) = standsA h := rfl
        rw [e] at z
        omega)
      rw [mapD_app, ← flatMap_snoc] at ad
      refine ⟨_, [some (toD h), some (.loc (o ++ ext).length), some (.loc (o.length + 1)), some (toD y), b], ⟨o ++ (ext ++ [.lst (mapD ((pre ++ [y]).flatMap fun s => (handsL h).map fun hs => (s, hs)))]), none⟩, set_nm _ _ _, ?_, by simp [stays], _, _, _, _, rfl, rfl, by simp, ?_, ?_⟩
      · simp at ad
        simp [wipeD, cm, ad]
      · rw [← List.append_assoc, get_n rfl]; rfl
      · rw [← List.append_assoc, get_lt (lst_of L')]; rfl)
  simp [f_law_all_stands, stl_not, settle_tup, settle_tl, settles_nil, settles_cons, settles_mapD, e1, e2, e]
  exact finS_ext hl L (noLs_mapD _)
end
end DV
set_option linter.all false
set_option autoImplicit false
set_option maxRecDepth 100000
/-! PT: the order of rows and stands, min. -/
namespace DV
open PySem (Str PyData)
open Enc
section
variable {R : Env} {α β : Type} [Enc α] [Enc β]
def ltE (a b : α) : Bool := PySem.W.dataLt (dat a) (dat b)
theorem dat_ints (xs : List Int) : dat xs = .tuple (xs.map .int) := rfl
theorem dat_nats (xs : List Nat) : dat xs = .tuple ((xs.map fun (k : Nat) => (k : Int)).map .int) := by
  show PyData.tuple (xs.map dat) = _
  rw [List.map_map]
  rfl
theorem ltE_ints (xs ys : List Int) : ltE xs ys = decide (xs < ys) := by
  unfold ltE
  rw [dat_ints, dat_ints, PySem.W.dataLt_tuple]
  exact PySem.W.dataLt_ints xs ys
theorem ltE_nats (xs ys : List Nat) : ltE xs ys = decide (xs.map (fun (k : Nat) => (k : Int)) < ys.map (fun (k : Nat) => (k : Int))) := by
  unfold ltE
  rw [dat_nats, dat_nats, PySem.W.dataLt_tuple]
  exact PySem.W.dataLt_ints _ _
theorem ltE_pair [DecidableEq α] [DecidableEq β] (p q : α × β) : ltE p q = if p.1 = q.1 then (if p.2 = q.2 then false else ltE p.2 q.2) else ltE p.1 q.1 := by
  unfold ltE
  show PySem.W.dataLt (.tuple [dat p.1, dat p.2]) (.tuple [dat q.1, dat q.2]) = _
  rw [PySem.W.dataLt_pair (alk _ _) (alk _ _)]
  by_cases h1 : p.1 = q.1
  · rw [if_pos ((inj _ _).mpr h1), if_pos h1]
    by_cases h2 : p.2 = q.2
    · rw [if_pos ((inj _ _).mpr h2), if_pos h2]
    · rw [if_neg (fun e => h2 ((inj _ _).mp e)), if_neg h2]
  · rw [if_neg (fun e => h1 ((inj _ _).mp e)), if_neg h1]
/-- a value from its data again -/
def BackT (α : Type) [Enc α] : Prop := ∀ a : α, fromP (dat a) = toD a
theorem back_int : BackT Int := fun _ => rfl
theorem back_nat : BackT Nat := fun _ => rfl
theorem fromPs_map (h : BackT α) : ∀ xs : List α, fromPs (xs.map dat) = xs.map toD
  | [] => rfl
  | x :: xs => by simp only [List.map_cons, fromPs, h x, fromPs_map h xs]
theorem back_list (h : BackT α) : BackT (List α) := fun xs => by
  show fromP (.tuple (xs.map dat)) = _
  simp only [fromP, fromPs_map h]
  rfl
theorem back_pair (h1 : BackT α) (h2 : BackT β) : BackT (α × β) := fun p => by
  show fromP (.tuple [dat p.1, dat p.2]) = _
  simp only [fromP, fromPs, h1 p.1, h2 p.2]
  rfl
/-- the first least one -/
def minE : α → List α → α := fun x xs => xs.foldl (fun a y => if ltE y a then y else a) x
theorem foldl_dat : ∀ (xs : List α) (x : α), (xs.map dat).foldl (fun a y => if PySem.W.dataLt y a then y else a) (dat x) = dat (minE x xs)
  | [], x => rfl
  | y :: xs, x => by
    rw [List.map_cons, List.foldl_cons]
    have e : (if PySem.W.dataLt (dat y) (dat x) = true then dat y else dat x) = dat (if ltE y x then y else x) := by
      unfold ltE
      split <;> rfl
    rw [e, foldl_dat xs]
    rfl
theorem min1_tl (hb : BackT α) (hd : dep α ≤ 16) {st : Sto} {x : α} {xs : List α} (hk : (∀ a ∈ x :: xs, tupleB (dat a) = true) ∨ ∀ a ∈ x :: xs, otherB (dat a) = true) : bltRun .min1 [.tl (mapD (x :: xs))] st = .ok (toD (minE x xs)) st := by
  have h0 : st.list (.tl (mapD (x :: xs))) = some (mapD (x :: xs)) := rfl
  have h1 : alikeB (dat x :: xs.map dat) = true := by
    have : dat x :: xs.map dat = (x :: xs).map dat := rfl
    rw [this]
    simp only [alikeB, List.all_eq_true]
    intro a ha b hb
    obtain ⟨u, _, rfl⟩ := List.mem_map.mp ha
    obtain ⟨v, _, rfl⟩ := List.mem_map.mp hb
    exact alk u v
  have h2 : ((dat x :: xs.map dat).all tupleB || (dat x :: xs.map dat).all otherB) = true := by
    have : dat x :: xs.map dat = (x :: xs).map dat := rfl
    rw [this, Bool.or_eq_true, List.all_eq_true, List.all_eq_true]
    refine hk.imp (fun k d hd => ?_) fun k d hd => ?_ <;>
    · obtain ⟨a, ha, rfl⟩ := List.mem_map.mp hd
      exact k a ha
  have h3 : minD st (mapD (x :: xs)) = some (toD (minE x xs)) := by
    have m : mapO st.data (mapD (x :: xs)) = some (dat x :: xs.map dat) := mapO_toD hd st (x :: xs)
    simp only [minD, m, h1, h2, pures_mapD, Bool.and_self, if_true]
    rw [foldl_dat, hb]
  simp only [bltRun, min1D, h0, h3]
/-- what is least is handed back -/
theorem minE_least (irr : ∀ a : α, ltE a a = false) (asym : ∀ a b : α, ltE a b = true → ltE b a = false) {m : α} : ∀ {xs : List α} {x : α}, m ∈ x :: xs → (∀ y ∈ x :: xs, y = m ∨ ltE m y = true) → minE x xs = m
  | [], x, h, _ => by
    rw [List.mem_singleton] at h
    exact h.symm
  | y :: xs, x, h, H => by
    show minE (if ltE y x then y else x) xs = m
    refine minE_least irr asym ?_ ?_
    · rcases List.mem_cons.mp h with rfl | h
      · have : ltE y m = false := by
          rcases H y (by simp) with e | e
          · rw [e]; exact irr m
          · exact asym _ _ e
        rw [this]; simp
      · rcases List.mem_cons.mp h with rfl | h
        · rcases H x (by simp) with e | e
          · subst e; rw [irr]; simp
          · rw [e]; simp
        · exact List.mem_cons_of_mem _ h
    · intro z hz
      rcases List.mem_cons.mp hz with rfl | hz
      · split
        · exact H y (by simp)
        · exact H x (by simp)
      · exact H z (by simp [hz])
theorem ints_irr (a : List Int) : ltE a a = false := by rw [ltE_ints]; simp [List.lt_irrefl]
theorem stand_lt (p q : Stand) : ltE p q = true ↔ p.1 < q.1 ∨ (p.1 = q.1 ∧ p.2.map (fun (k : Nat) => (k : Int)) < q.2.map (fun (k : Nat) => (k : Int))) := by
  rw [ltE_pair]
  by_cases h1 : p.1 = q.1
  · rw [if_pos h1]
    by_cases h2 : p.2 = q.2
    · rw [if_pos h2, h1, h2]
      simp [List.lt_irrefl]
    · rw [if_neg h2, ltE_nats, decide_eq_true_eq, h1]
      simp [List.lt_irrefl]
  · rw [if_neg h1, ltE_ints, decide_eq_true_eq]
    simp [h1]
theorem stand_irr (p : Stand) : ltE p p = false := by
  rw [Bool.eq_false_iff]
  intro h
  rw [stand_lt] at h
  rcases h with h | ⟨_, h⟩
  · exact List.lt_irrefl _ h
  · exact List.lt_irrefl _ h
theorem stand_asym (p q : Stand) (h : ltE p q = true) : ltE q p = false := by
  rw [Bool.eq_false_iff]
  intro h2
  rw [stand_lt] at h h2
  rcases h with h | ⟨e, h⟩
  · rcases h2 with h2 | ⟨e2, h2⟩
    · exact List.lt_irrefl _ (List.lt_trans h h2)
    · rw [e2] at h; exact List.lt_irrefl _ h
  · rcases h2 with h2 | ⟨e2, h2⟩
    · rw [e] at h2; exact List.lt_irrefl _ h2
    · exact List.lt_irrefl _ (List.lt_trans h h2)
theorem zeros_least : ∀ (n : Nat) (hs : List Nat), hs.length = n → hs = List.replicate n 0 ∨ (List.replicate n (0 : Nat)).map (fun (k : Nat) => (k : Int)) < hs.map (fun (k : Nat) => (k : Int))
  | 0, [], _ => .inl rfl
  | n + 1, k :: hs, h => by
    rw [List.replicate_succ, List.map_cons, List.map_cons]
    rcases Nat.eq_zero_or_pos k with rfl | hk
    · rcases zeros_least n hs (by simpa using h) with e | e
      · exact .inl (by rw [← e])
      · exact .inr (List.Lex.cons e)
    · exact .inr (List.Lex.rel (by show ((0 : Nat) : Int) < (k : Int); omega))
theorem hands_zero (ls : House) : (∀ l ∈ ls, 1 ≤ l.length) → List.replicate ls.length 0 ∈ handsL ls := by
  refine list_rec_snoc (P := fun ls => (∀ l ∈ ls, 1 ≤ l.length) → List.replicate ls.length 0 ∈ handsL ls) (by simp [handsL]) (fun ls l ih h => ?_) ls
  rw [handsL_snoc, List.mem_flatMap]
  refine ⟨_, ih fun x hx => h x (by simp [hx]), ?_⟩
  rw [List.mem_map]
  refine ⟨0, by rw [List.mem_range]; exact h l (by simp), ?_⟩
  rw [List.length_append, List.length_singleton, List.replicate_succ']
/-- among all stands of a small house the first one is the least -/
theorem first_least {h : House} (H : HouseOk h) (h4 : h.length < 4) : ∃ x xs, standsA h = x :: xs ∧ minE x xs = firstF h := by
  have l := H.len
  have rows : rangeI (-1) h.length ∈ seatsK h.length h.length ∧ ∀ r ∈ seatsK h.length h.length, r = rangeI (-1) h.length ∨ rangeI (-1) h.length < r := by
    have : h.length = 2 ∨ h.length = 3 := by omega
    rcases this with e | e <;> rw [e] <;> decide
  have m : firstF h ∈ standsA h := by
    unfold standsA
    rw [List.mem_flatMap]
    exact ⟨_, rows.1, List.mem_map.mpr ⟨_, hands_zero h fun x hx => (H.lst x hx).1, rfl⟩⟩
  have le : ∀ s ∈ standsA h, s = firstF h ∨ ltE (firstF h) s = true := by
    intro s hs
    unfold standsA at hs
    rw [List.mem_flatMap] at hs
    obtain ⟨r, hr, hs⟩ := hs
    obtain ⟨k, hk, rfl⟩ := List.mem_map.mp hs
    have lk := (handsL_len h fun x hx => (H.lst x hx).2).2 k hk
    rcases rows.2 r hr with e | e
    · rcases zeros_least h.length k lk with e2 | e2
      · left; unfold firstF; rw [e, e2]
      · right; rw [stand_lt]; exact .inr ⟨e.symm, e2⟩
    · right; rw [stand_lt]; exact .inl e
  cases q : standsA h with
  | nil => rw [q] at m; cases m
  | cons x xs => exact ⟨x, xs, rfl, minE_least stand_irr stand_asym (q ▸ m) (q ▸ le)⟩
end
end DV
set_option linter.all false
set_option autoImplicit false
set_option maxRecDepth 100000
/-! PW: small data of stands, a law's frame. -/
namespace DV
open PySem (Str PyData)
open Enc
section
variable {R : Env}
theorem tiny_house {h : House} (H : HouseOk h) : Tiny (dat h) (5 * (3 * 41 + 1)) := by
  refine tiny_list (fun l hl => ?_) H.len.2
  refine tiny_ints (fun n hn => ?_) (H.lst l hl).2
  have := H.nm l hl n hn
  have := H.len
  have e : (10 : Nat) ^ 12 = 1000000000000 := by decide
  omega
theorem tiny_stand {h : House} {s : Stand} (H : HouseOk h) (S : StandOk h s) : Tiny (dat s) (2 * (5 * 41 + 1)) := by
  have l := H.len
  have e : (10 : Nat) ^ 12 = 1000000000000 := by decide
  refine tiny_pair (tiny_ints (fun n hn => ?_) (by rw [S.seat.len]; exact l.2)) (tiny_nats (fun k hk => ?_) (by rw [S.len]; exact l.2))
  · have := S.seat.mem.mp hn
    omega
  · obtain ⟨i, hi, rfl⟩ := List.getElem_of_mem hk
    have hj : i < h.length := by rw [← S.len]; exact hi
    have := S.hand i hi hj
    have := (H.lst _ (List.getElem_mem hj)).2
    omega
theorem tiny_kept {h : House} {s : Stand} (H : HouseOk h) : Tiny (dat (keptF h s)) (5 * 41) := by
  have l := H.len
  have e : (10 : Nat) ^ 12 = 1000000000000 := by decide
  refine tiny_nats (fun k hk => ?_) ?_
  · have := List.mem_range.mp (List.mem_filter.mp hk).1
    omega
  · have := List.length_filter_le (keepB h s) (List.range h.length)
    rw [List.length_range] at this
    unfold keptF
    omega
theorem tiny_both {h : House} {s : Stand} (H : HouseOk h) (S : StandOk h s) : Tiny (dat (h, s)) (2 * (620 + 1)) := tiny_pair ((tiny_house H).mono (by decide)) ((tiny_stand H S).mono (by decide))
theorem repr_both {h : House} {s : Stand} (H : HouseOk h) (S : StandOk h s) (st : Sto) : bltRun .repr [.tup [toD h, toD s]] st = .ok (.str (dat (h, s)).shown) st := repr_pair (by decide) (tiny_both H S) (by decide)
theorem same_str {p : PyData} {w : Nat} (h : Tiny p w) (st : Sto) : cmpop .eq (.str p.shown) (.str p.shown) st = .ok (.bl true) st := by
  have := eq_str (st := st) (ok_shown p h.1) (ok_shown p h.1)
  simpa using this
theorem same_ne {p : PyData} {w : Nat} (h : Tiny p w) (st : Sto) : cmpop .ne (.str p.shown) (.str p.shown) st = .ok (.bl false) st := by
  have := ne_str (st := st) (ok_shown p h.1) (ok_shown p h.1)
  simpa using this
/-- law_same of two lists, the second one kept, the first one laid for the call -/
theorem same_app {g : Run} (h1 : S_law_same g) {o : List MO} {l : Nat} {ds : List D} {w : Nat} (hl : lstOf o[l]? = some ds) (hs : SmL 15 ds w) (hw : ds.length * (w + 1) ≤ 2 ^ 20) :
    g [.loc o.length, .loc l] ⟨o ++ [.lst ds], none⟩ = .ok (.bl true) ⟨o ++ [.lst ds], none⟩ := h1 _ _ _ ds _ (by rw [get_n rfl]; rfl) (by rw [get_lt (lst_of hl)]; rfl) (smW_of hs) hw
theorem same_appW {g : Run} (h1 : S_law_same g) {o : List MO} {l : Nat} {ds : List D} {w : Nat} (hl : lstOf o[l]? = some ds) (hs : SmW 15 ds w) (hw : w ≤ 2 ^ 20) :
    g [.loc o.length, .loc l] ⟨o ++ [.lst ds], none⟩ = .ok (.bl true) ⟨o ++ [.lst ds], none⟩ := h1 _ _ _ ds w (by rw [get_n rfl]; rfl) (by rw [get_lt (lst_of hl)]; rfl) hs hw
theorem same_lit {g : Run} (h : S_law_same g) {o : List MO} {ds : List D} {w : Nat} (sm : SmL 15 ds w) (hw : ds.length * (w + 1) ≤ 2 ^ 20) : g [.loc o.length, .loc (o.length + 1)] ⟨o ++ [.lst ds, .lst ds], none⟩ = .ok (.bl true) ⟨o ++ [.lst ds, .lst ds], none⟩ :=
  h _ _ _ _ _ (by rw [get_n rfl]; rfl) (by rw [get_nk rfl]; rfl) (smW_of sm) hw
theorem endC_more {o xs : List MO} {d : D} (hd : d.noL = true) : endC ⟨o, none⟩ (.ok d ⟨o ++ xs, none⟩) = .ok d ⟨o, none⟩ := endC_app (st := ⟨o, none⟩) rfl hd
theorem Std.consts {R : Env} (h : Std R) : R.consts = consts0 := h.c
theorem least_val {n : Nat} {o : List MO} (h1 : 2 ≤ n) (h2 : n ≤ 5) : bltRun .tupR2 [.int (-1), .int ((n : Int) - 1)] ⟨o, none⟩ = .ok (toD (rangeI (-1) n)) ⟨o, none⟩ := tupR2_run (a := -1) (b := (n : Int) - 1) (n := n) (by omega) (by omega) (by omega) (show n ≤ 16777216 by omega)
theorem firstF_toD (h : House) : toD (firstF h) = .tup [toD (rangeI (-1) h.length), toD (List.replicate h.length (0 : Nat))] := rfl
theorem tiny_first {h : House} (H : HouseOk h) : Tiny (dat (firstF h)) 412 := by
  have l := H.len
  have e : (10 : Nat) ^ 12 = 1000000000000 := by decide
  refine (tiny_pair (a := rangeI (-1) h.length) (b := List.replicate h.length (0 : Nat)) (tiny_ints (n := 5) (fun n hn => ?_) (by rw [rangeI_length]; exact l.2)) (tiny_nats (n := 5) (fun k hk => ?_) (by simp; exact l.2))).mono (by decide)
  · have := mem_rangeI.mp hn
    omega
  · have := (List.mem_replicate.mp hk).2
    omega
def S_law_all (g : Run) : Prop := ∀ (is : List Int), is.length ≤ 63 → ∃ st', g [.fro (is.map D.int)] ⟨[], none⟩ = .ok (.bl true) st'
/-- the law's first lines for each cell -/
theorem src_cells {o : List MO} {n m : Nat} (hm : m ≤ 60) : srcItems .range1 [.int (max 1 (min (n : Int) m))] ⟨o, none⟩ = some ((List.range (max 1 (min n m))).map toD, []) := by
  have e : max (1 : Int) (min (n : Int) m) = ((max 1 (min n m) : Nat) : Int) := by omega
  rw [e]
  exact src_range (by omega)
theorem pen_new {o : List MO} {a b : Int} (h1 : 0 ≤ a) (h2 : 0 ≤ b) (h3 : b < 2147483648) : PenAt (o ++ [.lst [.int a, .int b, .int 0]]) o.length := ⟨_, by rw [get_n rfl]; rfl, a, b, 0, rfl, h1, h2, h3⟩
theorem endC_any {o o' : List MO} {d : D} (h : o'.length = o.length) : endC ⟨o, none⟩ (.ok d ⟨o', none⟩) = .ok d ⟨o', none⟩ := endC_same (st := ⟨o, none⟩) h
/-! the order of values -/
section
variable {α : Type} [Enc α]
theorem leE_trans (a b c : α) (h1 : leE a b = true) (h2 : leE b c = true) : leE a c = true := by
  unfold leE at *
  rw [Bool.not_eq_true'] at *
  exact PyProof.Rows.KeyOrd.kle_trans (O := PyProof.Rows.listOrd PyProof.Rows.itemOrd) (a := PySem.W.keyToks (dat a)) (b := PySem.W.keyToks (dat b)) (c := PySem.W.keyToks (dat c)) h1 h2
theorem leE_total (a b : α) : (leE a b || leE b a) = true := by
  unfold leE
  cases h : PySem.W.dataLt (dat b) (dat a) with
  | false => rfl
  | true =>
    have : PySem.W.dataLt (dat a) (dat b) = false := PyProof.Rows.KeyOrd.klt_asymm (O := PyProof.Rows.listOrd PyProof.Rows.itemOrd) (a := PySem.W.keyToks (dat b)) (b := PySem.W.keyToks (dat a)) h
    rw [this]; rfl
theorem leE_anti (a b : α) (h1 : leE a b = true) (h2 : leE b a = true) : a = b := by
  unfold leE at *
  rw [Bool.not_eq_true'] at *
  have e : PySem.W.keyToks (dat a) = PySem.W.keyToks (dat b) := (PyProof.Rows.listOrd PyProof.Rows.itemOrd).total _ _ h2 h1
  refine Classical.byContradiction fun n => ?_
  have q : PyData.eqv (dat a) (dat b) = false := by
    cases q : PyData.eqv (dat a) (dat b) with
    | false => rfl
    | true => exact absurd ((inj a b).mp q) n
  have z := (PySem.W.toks_eqv (dat a) (dat b) (alk a b)).2 q [] [.inl 0]
  rw [e, PySem.W.lex_pre] at z
  have i : PyProof.Rows.lexLt PyProof.Rows.itemOrd (PySem.W.keyToks (dat b)) (PySem.W.keyToks (dat b)) = false := (PyProof.Rows.listOrd PyProof.Rows.itemOrd).irrefl _
  rw [i] at z
  exact absurd (show true = false from z) (by decide)
theorem sort_perm {xs ys : List α} (h : xs.Perm ys) : xs.mergeSort leE = ys.mergeSort leE :=
  sort_unique leE_anti (((List.mergeSort_perm _ _).trans h).trans (List.mergeSort_perm _ _).symm) (List.pairwise_mergeSort leE_trans leE_total xs) (List.pairwise_mergeSort leE_trans leE_total ys)
theorem sort_self {xs : List α} (h : xs.Pairwise fun a b => leE a b = true) : xs.mergeSort leE = xs :=
  sort_unique leE_anti (List.mergeSort_perm _ _) (List.pairwise_mergeSort leE_trans leE_total xs) h
end
end
end DV
set_option linter.all false
set_option autoImplicit false
set_option maxRecDepth 100000
/-! PU: the stands ahead. -/
namespace DV
open PySem (Str PyData)
open Enc
section
variable {R : Env}
/-- the stand that a kept seat's call led from -/
def beforeF (h : House) (s : Stand) (i : Nat) : Stand := ((s.1.set (bareF s.1) (gt s.1 i)).set i (-1), s.2.set i (prevI (gt h i).length (gt s.2 i)))
def aheadF (h : House) (s : Stand) : List Stand := ((keptF h s).map (beforeF h s)).mergeSort leE
theorem mem_kept {h : House} {s : Stand} {i : Nat} : i ∈ keptF h s ↔ i < h.length ∧ gt s.1 i = lastF h s.2 i := by
  unfold keptF keepB
  rw [List.mem_filter, List.mem_range, decide_eq_true_eq]
theorem kept_nodup (h : House) (s : Stand) : (keptF h s).Nodup := List.nodup_range.filter _
theorem last_ge {h : House} {s : Stand} (H : HouseOk h) (S : StandOk h s) {i : Nat} (hi : i < h.length) : 0 ≤ lastF h s.2 i ∧ lastF h s.2 i ≤ (h.length : Int) - 2 := by
  have l := H.at hi
  exact H.nm _ (gt_mem hi) _ (gt_mem (prevI_lt l.1 (S.at hi)))
theorem kept_ne {h : House} {s : Stand} (H : HouseOk h) (S : StandOk h s) {i : Nat} (hi : i ∈ keptF h s) : i ≠ bareF s.1 := by
  rintro rfl
  obtain ⟨h1, h2⟩ := mem_kept.mp hi
  have := last_ge H S h1
  rw [gt_of (S.beat H).at_] at h2
  omega
theorem gt_set_ne {γ : Type} [Inhabited γ] {xs : List γ} {k i : Nat} {a : γ} (h : i ≠ k) : gt (xs.set k a) i = gt xs i := by
  unfold gt
  rw [List.getElem?_set_ne (fun e => h e.symm)]
theorem gt_set_eq {γ : Type} [Inhabited γ] {xs : List γ} {k : Nat} {a : γ} (h : k < xs.length) : gt (xs.set k a) k = a := by
  rw [gt_set h, if_pos rfl]
theorem ext_gt {γ : Type} [Inhabited γ] {xs ys : List γ} (hl : xs.length = ys.length) (h : ∀ i, i < xs.length → gt xs i = gt ys i) : xs = ys := by
  apply List.ext_getElem hl
  intro i h1 h2
  have := h i h1
  rwa [gt_lt h1, gt_lt h2] at this
theorem prev_next {n k : Nat} (hk : k < n) : prevI n ((k + 1) % n) = k := by
  unfold prevI
  by_cases e : k + 1 = n
  · subst e; simp
  · rw [Nat.mod_eq_of_lt (by omega)]; simp
theorem next_prev {n k : Nat} (hk : k < n) : (prevI n k + 1) % n = k := by
  unfold prevI
  by_cases e : k = 0
  · subst e
    rw [if_pos rfl, Nat.sub_add_cancel (by omega), Nat.mod_self]
  · rw [if_neg e, Nat.sub_add_cancel (by omega), Nat.mod_eq_of_lt hk]
theorem before_ok {h : House} {s : Stand} (H : HouseOk h) (S : StandOk h s) {i : Nat} (hi : i ∈ keptF h s) : StandOk h (beforeF h s i) := by
  obtain ⟨h1, h2⟩ := mem_kept.mp hi
  have B := S.beat H
  have ls := S.seat.len
  have hi1 : i < s.1.length := by omega
  have hi2 : i < s.2.length := by rw [S.len]; exact h1
  refine ⟨?_, by simp [beforeF, S.len], fun k hk hj => ?_⟩
  · have z := List.set_set_perm (as := s.1) B.bs hi1
    have e1 : s.1[bareF s.1]'B.bs = -1 := by rw [← gt_lt B.bs]; exact gt_of B.at_
    rw [e1, ← gt_lt hi1] at z
    exact z.trans S.seat
  · show (s.2.set i (prevI (gt h i).length (gt s.2 i)))[k]'(by simpa [beforeF] using hk) < _
    rw [List.getElem_set]
    split
    · rename_i e
      subst e
      have l := H.at h1
      rw [← gt_lt hj]
      exact prevI_lt l.1 (S.at h1)
    · exact S.hand k (by simpa [beforeF] using hk) hj
/-- a stand leads to another one just where it is one of these -/
theorem lead_iff {h : House} {x y : Stand} (H : HouseOk h) (X : StandOk h x) (Y : StandOk h y) : beatF h y = x ↔ ∃ i ∈ keptF h x, y = beforeF h x i := by
  constructor
  · intro e
    have B := Y.beat H
    have ly := Y.seat.len
    have g1 : gt x.1 (bareF y.1) = calledF h y := by
      rw [← e]
      exact gt_set_eq (by simpa using B.bs)
    have g2 : gt x.2 (bareF y.1) = nextF h y := by
      rw [← e]
      exact gt_set_eq B.bh
    have hb : bareF x.1 = y.1.idxOf (calledF h y) := by
      refine idx_inj X.seat.nodup (by rw [X.seat.len, ← ly]; exact B.j) ?_
      rw [← e]
      show gt ((y.1.set (y.1.idxOf (calledF h y)) (-1)).set (bareF y.1) (calledF h y)) _ = _
      rw [gt_set_ne B.ne, gt_set_eq B.j]
    refine ⟨bareF y.1, mem_kept.mpr ⟨B.b, ?_⟩, ?_⟩
    · rw [g1]
      unfold lastF
      rw [g2]
      unfold nextF
      rw [prev_next B.k]
      rfl
    · refine Prod.ext (ext_gt (by simp [beforeF, X.seat.len, ly]) fun i hi => ?_) (ext_gt (by simp [beforeF, X.len, Y.len]) fun i hi => ?_)
      · show _ = gt ((x.1.set (bareF x.1) (gt x.1 (bareF y.1))).set (bareF y.1) (-1)) i
        have lx : bareF y.1 < x.1.length := by rw [X.seat.len, ← ly]; exact B.bs
        by_cases e1 : i = bareF y.1
        · subst e1
          rw [gt_set_eq (by simpa using lx), gt_of B.at_]
        · rw [gt_set_ne e1, g1, hb]
          by_cases e2 : i = y.1.idxOf (calledF h y)
          · rw [e2, gt_set_eq (by rw [X.seat.len, ← ly]; exact B.j), gt_of B.jat]
          · rw [gt_set_ne e2, ← e]
            show _ = gt ((y.1.set (y.1.idxOf (calledF h y)) (-1)).set (bareF y.1) (calledF h y)) i
            rw [gt_set_ne e1, gt_set_ne e2]
      · show _ = gt (x.2.set (bareF y.1) (prevI (gt h (bareF y.1)).length (gt x.2 (bareF y.1)))) i
        by_cases e1 : i = bareF y.1
        · subst e1
          rw [gt_set_eq (by rw [X.len]; exact B.b), g2]
          unfold nextF
          rw [prev_next B.k]
        · rw [gt_set_ne e1, ← e]
          show _ = gt (y.2.set (bareF y.1) (nextF h y)) i
          rw [gt_set_ne e1]
  · rintro ⟨i, hi, rfl⟩
    obtain ⟨h1, h2⟩ := mem_kept.mp hi
    have ne := kept_ne H X hi
    have B := X.beat H
    have lx := X.seat.len
    have hi1 : i < x.1.length := by omega
    have hi2 : i < x.2.length := by rw [X.len]; exact h1
    have y1 : gt (beforeF h x i).1 i = -1 := gt_set_eq (by simpa using hi1)
    have hb : bareF (beforeF h x i).1 = i := idx_inj Y.seat.nodup (by rw [Y.seat.len]; exact h1) y1
    have y2 : gt (beforeF h x i).2 i = prevI (gt h i).length (gt x.2 i) := gt_set_eq hi2
    have l := H.at h1
    have ca : calledF h (beforeF h x i) = gt x.1 i := by
      unfold calledF
      rw [hb, y2, h2]
      rfl
    have nx : nextF h (beforeF h x i) = gt x.2 i := by
      unfold nextF
      rw [hb, y2, next_prev (X.at h1)]
    have ij : (beforeF h x i).1.idxOf (gt x.1 i) = bareF x.1 := by
      refine idx_inj Y.seat.nodup (by rw [Y.seat.len]; exact B.b) ?_
      show gt ((x.1.set (bareF x.1) (gt x.1 i)).set i (-1)) _ = _
      rw [gt_set_ne (fun e => ne e.symm), gt_set_eq B.bs]
    unfold beatF
    rw [ca, hb, nx, ij]
    refine Prod.ext (ext_gt (by simp [beforeF]) fun k hk => ?_) (ext_gt (by simp [beforeF]) fun k hk => ?_)
    · show gt ((((x.1.set (bareF x.1) (gt x.1 i)).set i (-1)).set (bareF x.1) (-1)).set i (gt x.1 i)) k = gt x.1 k
      by_cases e1 : k = i
      · subst e1
        rw [gt_set_eq (by simpa using hi1)]
      · rw [gt_set_ne e1]
        by_cases e2 : k = bareF x.1
        · subst e2
          rw [gt_set_eq (by simpa using B.bs), gt_of B.at_]
        · rw [gt_set_ne e2, gt_set_ne e1, gt_set_ne e2]
    · show gt ((x.2.set i (prevI (gt h i).length (gt x.2 i))).set i (gt x.2 i)) k = gt x.2 k
      by_cases e1 : k = i
      · subst e1
        rw [gt_set_eq (by simpa using hi2)]
      · rw [gt_set_ne e1, gt_set_ne e1]
theorem before_inj {h : House} {x : Stand} (H : HouseOk h) (X : StandOk h x) {i j : Nat} (hi : i ∈ keptF h x) (hj : j ∈ keptF h x) (e : beforeF h x i = beforeF h x j) : i = j := by
  have bi : bareF (beforeF h x i).1 = i := idx_inj (before_ok H X hi).seat.nodup (by rw [(before_ok H X hi).seat.len]; exact (mem_kept.mp hi).1) (gt_set_eq (by simp; rw [X.seat.len]; exact (mem_kept.mp hi).1))
  have bj : bareF (beforeF h x j).1 = j := idx_inj (before_ok H X hj).seat.nodup (by rw [(before_ok H X hj).seat.len]; exact (mem_kept.mp hj).1) (gt_set_eq (by simp; rw [X.seat.len]; exact (mem_kept.mp hj).1))
  rw [← bi, ← bj, e]
theorem before_nodup {h : House} {x : Stand} (H : HouseOk h) (X : StandOk h x) : ((keptF h x).map (beforeF h x)).Nodup := by
  have nd := kept_nodup h x
  have : ∀ l : List Nat, (∀ i ∈ l, i ∈ keptF h x) → l.Nodup → (l.map (beforeF h x)).Nodup := by
    intro l
    induction l with
    | nil => intro _ _; simp
    | cons i l ih =>
      intro hm hn
      rw [List.nodup_cons] at hn
      rw [List.map_cons, List.nodup_cons]
      refine ⟨fun hc => ?_, ih (fun j hj => hm j (by simp [hj])) hn.2⟩
      obtain ⟨j, hj, e⟩ := List.mem_map.mp hc
      have := before_inj H X (hm j (by simp [hj])) (hm i (by simp)) e
      exact hn.1 (this ▸ hj)
  exact this _ (fun _ h => h) nd
/-! all stands -/
theorem seatsK_mem {n : Nat} : ∀ {k : Nat} {r : List Int}, r ∈ seatsK n k ↔ r.length = k ∧ r.Nodup ∧ ∀ x ∈ r, x ∈ rangeI (-1) n
  | 0, r => by
    simp only [seatsK, List.mem_singleton]
    constructor
    · rintro rfl; simp
    · rintro ⟨h, _⟩; exact List.length_eq_zero_iff.mp h
  | k + 1, r => by
    rw [seatsK, List.mem_flatMap]
    constructor
    · rintro ⟨row, h1, h2⟩
      obtain ⟨x, h3, rfl⟩ := List.mem_map.mp h2
      obtain ⟨l, nd, m⟩ := seatsK_mem.mp h1
      rw [List.mem_filter] at h3
      refine ⟨by simp [l], ?_, fun y hy => ?_⟩
      · rw [List.nodup_append]
        refine ⟨nd, by simp, fun a ha b hb e => ?_⟩
        simp at hb
        subst hb
        subst e
        simp [ha] at h3
      · rcases List.mem_append.mp hy with z | z
        · exact m y z
        · simp at z; subst z; exact h3.1
    · rintro ⟨l, nd, m⟩
      rcases List.eq_nil_or_concat r with e | ⟨row, x, e⟩
      · rw [e] at l; simp at l
      · have e' : r = row ++ [x] := by simpa using e
        subst e'
        rw [List.nodup_append] at nd
        refine ⟨row, seatsK_mem.mpr ⟨by simpa using l, nd.1, fun y hy => m y (by simp [hy])⟩, List.mem_map.mpr ⟨x, ?_, rfl⟩⟩
        rw [List.mem_filter]
        refine ⟨m x (by simp), ?_⟩
        have : x ∉ row := fun hx => nd.2.2 x hx x (by simp) rfl
        simp [this]
theorem seatOk_iff {n : Nat} {r : List Int} : r ∈ seatsK n n ↔ SeatOk n r := by
  rw [seatsK_mem]
  constructor
  · rintro ⟨l, nd, m⟩
    refine (List.perm_ext_iff_of_nodup nd (rangeI_nodup _ _)).mpr fun a => ⟨m a, fun ha => ?_⟩
    refine Classical.byContradiction fun hn => ?_
    have := List.Nodup.length_le_of_subset (l₁ := a :: r) (l₂ := rangeI (-1) n) (by rw [List.nodup_cons]; exact ⟨hn, nd⟩) (by
      intro y hy
      rcases List.mem_cons.mp hy with rfl | hy
      · exact ha
      · exact m y hy)
    rw [rangeI_length, List.length_cons] at this
    omega
  · intro h
    exact ⟨h.len, h.nodup, fun x hx => h.mem_iff.mp hx⟩
theorem handsL_mem (ls : House) : ∀ r, r ∈ handsL ls ↔ r.length = ls.length ∧ ∀ i, i < ls.length → gt r i < (gt ls i).length := by
  refine list_rec_snoc (P := fun ls => ∀ r, r ∈ handsL ls ↔ r.length = ls.length ∧ ∀ i, i < ls.length → gt r i < (gt ls i).length) (fun r => ?_) (fun ls l ih r => ?_) ls
  · simp [handsL]
  · rw [handsL_snoc, List.mem_flatMap]
    have app1 : ∀ {γ : Type} [Inhabited γ] (xs : List γ) (x : γ) (i : Nat), i < xs.length → gt (xs ++ [x]) i = gt xs i := fun xs x i hi => by
      unfold gt; rw [List.getElem?_append_left hi]
    have app2 : ∀ {γ : Type} [Inhabited γ] (xs : List γ) (x : γ), gt (xs ++ [x]) xs.length = x := fun xs x => by
      unfold gt; simp
    constructor
    · rintro ⟨row, h1, h2⟩
      obtain ⟨x, h3, rfl⟩ := List.mem_map.mp h2
      obtain ⟨l1, m⟩ := (ih row).mp h1
      rw [List.mem_range] at h3
      refine ⟨by simp [l1], fun i hi => ?_⟩
      rw [List.length_append, List.length_singleton] at hi
      by_cases e : i < ls.length
      · rw [app1 _ _ _ (by omega), app1 _ _ _ e]; exact m i e
      · have : i = ls.length := by omega
        subst this
        rw [app2, ← l1, app2]; exact h3
    · rintro ⟨l1, m⟩
      rw [List.length_append, List.length_singleton] at l1
      rcases List.eq_nil_or_concat r with e | ⟨row, x, e⟩
      · rw [e] at l1; simp at l1
      · have e' : r = row ++ [x] := by simpa using e
        subst e'
        have lr : row.length = ls.length := by simpa using l1
        refine ⟨row, (ih row).mpr ⟨lr, fun i hi => ?_⟩, List.mem_map.mpr ⟨x, ?_, rfl⟩⟩
        · have := m i (by simp; omega)
          rwa [app1 _ _ _ (by omega), app1 _ _ _ hi] at this
        · have := m ls.length (by simp)
          rw [app2, ← lr, app2] at this
          rwa [List.mem_range]
theorem standsA_mem {h : House} {s : Stand} : s ∈ standsA h ↔ StandOk h s := by
  unfold standsA
  rw [List.mem_flatMap]
  constructor
  · rintro ⟨r, h1, h2⟩
    obtain ⟨k, h3, rfl⟩ := List.mem_map.mp h2
    obtain ⟨l, m⟩ := (handsL_mem h k).mp h3
    refine ⟨seatOk_iff.mp h1, l, fun i hi hj => ?_⟩
    have := m i hj
    rwa [gt_lt hi, gt_lt hj] at this
  · intro S
    refine ⟨s.1, seatOk_iff.mpr S.seat, List.mem_map.mpr ⟨s.2, (handsL_mem h s.2).mpr ⟨S.len, fun i hi => S.at hi⟩, rfl⟩⟩
theorem nodup_flatMap {γ δ : Type} {f : γ → List δ} {p : δ → γ} : ∀ {xs : List γ}, xs.Nodup → (∀ x ∈ xs, (f x).Nodup) → (∀ x ∈ xs, ∀ y ∈ f x, p y = x) → (xs.flatMap f).Nodup
  | [], _, _, _ => by simp
  | x :: xs, h1, h2, h3 => by
    rw [List.nodup_cons] at h1
    rw [List.flatMap_cons, List.nodup_append]
    refine ⟨h2 x (by simp), nodup_flatMap h1.2 (fun y hy => h2 y (by simp [hy])) (fun y hy => h3 y (by simp [hy])), fun a ha b hb e => ?_⟩
    subst e
    rw [List.mem_flatMap] at hb
    obtain ⟨y, hy, hb⟩ := hb
    have e1 := h3 x (by simp) a ha
    have e2 := h3 y (by simp [hy]) a hb
    exact h1.1 (by rw [← e1, e2]; exact hy)
theorem nodup_map {γ δ : Type} {f : γ → δ} {xs : List γ} (h : xs.Nodup) (hi : ∀ a b, f a = f b → a = b) : (xs.map f).Nodup := by
  rw [List.Nodup, List.pairwise_map]
  exact List.Pairwise.imp (fun {a b} n e => n (hi a b e)) h
theorem seatsK_nodup (n : Nat) : ∀ k, (seatsK n k).Nodup
  | 0 => by simp [seatsK]
  | k + 1 => by
    rw [seatsK]
    refine nodup_flatMap (p := List.dropLast) (seatsK_nodup n k) (fun r _ => nodup_map ((rangeI_nodup _ _).filter _) fun a b e => ?_) fun r _ y hy => ?_
    · simpa using e
    · obtain ⟨x, _, rfl⟩ := List.mem_map.mp hy
      simp
theorem handsL_nodup (ls : House) : (handsL ls).Nodup := by
  refine list_rec_snoc (P := fun ls => (handsL ls).Nodup) (by simp [handsL]) (fun ls l ih => ?_) ls
  rw [handsL_snoc]
  refine nodup_flatMap (p := List.dropLast) ih (fun r _ => nodup_map List.nodup_range fun a b e => ?_) fun r _ y hy => ?_
  · simpa using e
  · obtain ⟨x, _, rfl⟩ := List.mem_map.mp hy
    simp
theorem standsA_nodup (h : House) : (standsA h).Nodup := by
  unfold standsA
  refine nodup_flatMap (p := Prod.fst) (seatsK_nodup _ _) (fun r _ => nodup_map (handsL_nodup h) fun a b e => ?_) fun r _ y hy => ?_
  · simpa using e
  · obtain ⟨x, _, rfl⟩ := List.mem_map.mp hy
    rfl
/-- all that lead to a stand -/
theorem lead_perm {h : House} {x : Stand} (H : HouseOk h) (X : StandOk h x) : ((standsA h).filter fun s => decide (beatF h s = x)).Perm ((keptF h x).map (beforeF h x)) := by
  rw [List.perm_ext_iff_of_nodup ((standsA_nodup h).filter _) (before_nodup H X)]
  intro y
  rw [List.mem_filter, standsA_mem, List.mem_map, decide_eq_true_eq]
  constructor
  · rintro ⟨Y, e⟩
    obtain ⟨i, hi, rfl⟩ := (lead_iff H X Y).mp e
    exact ⟨i, hi, rfl⟩
  · rintro ⟨i, hi, rfl⟩
    have Y := before_ok H X hi
    exact ⟨Y, (lead_iff H X Y).mpr ⟨i, hi, rfl⟩⟩
end
end DV
set_option linter.all false
set_option autoImplicit false
set_option maxRecDepth 100000
/-! PV: the program's stands ahead. -/
namespace DV
open PySem (Str PyData)
open Enc
section
variable {R : Env}
@[simp] theorem endC_objs (st : Sto) (d : D) : endC st (.ok d ⟨st.objs, none⟩) = .ok d st := endC_bare st d
@[simp] theorem finXS_objs (st : Sto) : finXS st ⟨st.objs, none⟩ = st := finXS_bare st
theorem finS_objs {st : Sto} {d : D} (h : d.pure = true) : finS st d ⟨st.objs, none⟩ = .ok d st := finS_pure h
def S_before_by (g : Run) : Prop := ∀ (h : House) (s : Stand) (i : Nat) (st : Sto), HouseOk h → StandOk h s → i < h.length → i ≠ bareF s.1 → g [toD h, toD s, .int i] st = .ok (toD (beforeF h s i)) st
theorem mod_prev {a b : Nat} {st : Sto} (ha : a < b) : binop .mod (.int ((a : Int) - 1)) (.int (b : Int)) st = .ok (.int ((prevI b a : Nat) : Int)) st := by
  rw [mod_int (by omega)]
  congr 2
  unfold prevI
  by_cases e : a = 0
  · subst e
    rw [if_pos rfl]
    have : ((0 : Nat) : Int) - 1 = -1 := rfl
    rw [this, show (-1 : Int) % (b : Int) = (b : Int) - 1 by
      rw [show (-1 : Int) = (b - 1 : Int) + b * (-1) by omega, Int.add_mul_emod_self_left]
      exact Int.emod_eq_of_lt (by omega) (by omega)]
    omega
  · rw [if_neg e, Int.emod_eq_of_lt (by omega) (by omega)]
    omega
theorem b_before_by {i j : Nat} (hR : Std R) (h1 : S_with_at (R.call i)) (h2 : S_bare_of (R.call j)) : S_before_by (runFn R (f_before_by i j)) := by
  intro h s k st H S hk hb
  rw [run_eq _ _ _ rfl]
  have B := S.beat H
  have l := H.len
  have ls := S.seat.len
  have l2 := S.len
  have e1 := h2 s.1 st.bare (S.bare H).1
  have gk1 : s.1[k]? = some (gt s.1 k) := get_gt (by omega)
  have gk2 : s.2[k]? = some (gt s.2 k) := get_gt (by omega)
  have e2 := h1.1 s.1 (bareF s.1) (gt s.1 k) st.bare B.bs (by omega)
  have e3 := h1.1 (s.1.set (bareF s.1) (gt s.1 k)) k (-1) st.bare (by simp; omega) (by simp; omega)
  have e4 := h1.2 s.2 k (prevI (gt h k).length (gt s.2 k)) st.bare (by omega) (by omega)
  have e5 := fun st => mod_prev (st := st) (S.at hk)
  simp only [bare_eq] at e1 e2 e3 e4
  simp [f_before_by, hR.c, consts0, e1, atIx_nat, gk1, gk2, get_gt hk, e2, e3, e4, e5]
  exact finS_toD (beforeF h s k) st
def S_ahead_by (g : Run) : Prop := ∀ (h : House) (s : Stand) (st : Sto), HouseOk h → StandOk h s → g [toD h, toD s] st = .ok (toD (aheadF h s)) st
theorem b_ahead_by {i j : Nat} (h1 : S_kept_by (R.call i)) (h2 : S_before_by (R.call j)) : S_ahead_by (runFn R (f_ahead_by i j)) := by
  intro h s st H S
  rw [run_eq _ _ _ rfl]
  have l := H.len
  have lk : (keptF h s).length ≤ 5 := by
    have := List.length_filter_le (keepB h s) (List.range h.length)
    rw [List.length_range] at this
    unfold keptF
    omega
  have e1 := fun st => h1 h s st H S
  have c : ∀ st, compE R (.call j [.var 0, .var 1, .var 2]) [] (.nm 2) .seq [some (toD h), some (toD s), none] [toD (keptF h s)] st = .ok (.tl (mapD ((keptF h s).map (beforeF h s)))) st := fun st => by
    refine compT_map (beforeF h s) (h := toD) (src_toD _ _) (show _ ≤ 16777216 by omega) fun x hx => ⟨_, set_nm _ _ _, ?_⟩
    have e2 := fun st => h2 h s x st H S (mem_kept.mp hx).1 (kept_ne H S hx)
    simp [e2]
  have so := fun st => sorted_tl (st := st) (xs := (keptF h s).map (beforeF h s)) (by decide) (by rw [List.length_map]; show _ ≤ 16777216; omega) (.inl fun _ _ => rfl)
  simp [f_ahead_by, e1, wipeD, c, so]
  exact finS_toD (aheadF h s) st
def S_ahead (g : Run) : Prop := ∀ (h : House) (s : Stand) (st : Sto), HouseOk h → StandOk h s → g [toD h, toD s] st = .ok (toD (aheadF h s)) st
theorem b_ahead {i j c : Nat} (h1 : S_need_stand c (R.call i)) (h2 : S_ahead_by (R.call j)) : S_ahead (runFn R (f_ahead i j)) := by
  intro h s st H S
  rw [run_eq _ _ _ rfl]
  simp [f_ahead, need_ok h1 H S, h2 h s _ H S]
  exact finS_toD _ st
theorem ahead_ok {h : House} {s : Stand} (H : HouseOk h) (S : StandOk h s) : (∀ x ∈ aheadF h s, StandOk h x) ∧ (aheadF h s).length ≤ 5 := by
  constructor
  · intro x hx
    have := (List.mergeSort_perm _ _).mem_iff.mp hx
    obtain ⟨i, hi, rfl⟩ := List.mem_map.mp this
    exact before_ok H S hi
  · unfold aheadF
    rw [List.length_mergeSort, List.length_map]
    have := List.length_filter_le (keepB h s) (List.range h.length)
    rw [List.length_range] at this
    have l := H.len
    unfold keptF
    omega
theorem tiny_ahead {h : House} {s : Stand} (H : HouseOk h) (S : StandOk h s) : Tiny (dat (aheadF h s)) (5 * 413) := tiny_list (fun x hx => tiny_stand H ((ahead_ok H S).1 x hx)) (ahead_ok H S).2
end
end DV
set_option linter.all false
set_option autoImplicit false
set_option maxRecDepth 100000
/-! PX: beats one behind the other. -/
namespace DV
open PySem (Str PyData)
open Enc
section
variable {α : Type}
/-- f again and again -/
def iter (f : α → α) : Nat → α → α
  | 0, a => a
  | n + 1, a => iter f n (f a)
theorem iter_succ (f : α → α) : ∀ (n : Nat) (a : α), iter f (n + 1) a = f (iter f n a)
  | 0, _ => rfl
  | n + 1, a => iter_succ f n (f a)
theorem iter_add (f : α → α) : ∀ (m n : Nat) (a : α), iter f (m + n) a = iter f m (iter f n a)
  | m, 0, a => rfl
  | m, n + 1, a => by
    rw [← Nat.add_assoc]
    exact iter_add f m n (f a)
/-- p stands one behind the other, unlike; the next one is the one at off again -/
structure Rho (f : α → α) (s : α) (p off : Nat) : Prop where
  lt : off < p
  back : iter f p s = iter f off s
  inj : ∀ i j, i < p → j < p → iter f i s = iter f j s → i = j
def orb (f : α → α) (s : α) (p : Nat) : List α := (List.range p).map fun k => iter f k s
theorem orb_succ (f : α → α) (s : α) (p : Nat) : orb f s (p + 1) = orb f s p ++ [iter f p s] := by
  simp [orb, List.range_succ]
@[simp] theorem orb_length (f : α → α) (s : α) (p : Nat) : (orb f s p).length = p := by simp [orb]
theorem mem_orb {f : α → α} {s x : α} {p : Nat} : x ∈ orb f s p ↔ ∃ i, i < p ∧ iter f i s = x := by
  simp [orb]
theorem orb_get {f : α → α} {s : α} {p i : Nat} (h : i < p) : (orb f s p)[i]? = some (iter f i s) := by
  simp [orb, h]
theorem Rho.nodup {f : α → α} {s : α} {p off : Nat} (R : Rho f s p off) : (orb f s p).Nodup := by
  unfold orb
  rw [List.Nodup, List.pairwise_map]
  refine List.Pairwise.imp_of_mem (fun {a b} ha hb n e => n ?_) List.nodup_range
  exact R.inj a b (List.mem_range.mp ha) (List.mem_range.mp hb) e
theorem rho_exists {f : α → α} {s : α} {all : List α} {P : α → Prop} (h0 : P s) (hs : ∀ a, P a → P (f a)) (hall : ∀ a, P a → a ∈ all) : ∃ p off, Rho f s p off ∧ p ≤ all.length := by
  have hp : ∀ n, P (iter f n s) := fun n => by
    induction n with
    | zero => exact h0
    | succ n ih => rw [iter_succ]; exact hs _ ih
  have step : ∀ n, (∀ i j, i < n → j < n → iter f i s = iter f j s → i = j) ∨ ∃ p off, Rho f s p off ∧ p < n := by
    intro n
    induction n with
    | zero => exact .inl fun i j h => by omega
    | succ n ih =>
      rcases ih with ih | ⟨p, off, R, h⟩
      · by_cases c : ∃ i, i < n ∧ iter f i s = iter f n s
        · obtain ⟨i, hi, e⟩ := c
          exact .inr ⟨n, i, ⟨hi, e.symm, ih⟩, by omega⟩
        · refine .inl fun i j hi hj e => ?_
          by_cases e1 : i = n
          · by_cases e2 : j = n
            · omega
            · exact absurd ⟨j, by omega, by rw [← e, e1]⟩ c
          · by_cases e2 : j = n
            · exact absurd ⟨i, by omega, by rw [e, e2]⟩ c
            · exact ih i j (by omega) (by omega) e
      · exact .inr ⟨p, off, R, by omega⟩
  rcases step (all.length + 1) with h | ⟨p, off, R, h⟩
  · have nd : (orb f s (all.length + 1)).Nodup := by
      unfold orb
      rw [List.Nodup, List.pairwise_map]
      refine List.Pairwise.imp_of_mem (fun {a b} ha hb n e => n ?_) List.nodup_range
      exact h a b (List.mem_range.mp ha) (List.mem_range.mp hb) e
    have := List.Nodup.length_le_of_subset nd (l₂ := all) (fun x hx => by
      obtain ⟨i, _, rfl⟩ := mem_orb.mp hx
      exact hall _ (hp i))
    rw [orb_length] at this
    omega
  · exact ⟨p, off, R, by omega⟩
/-- far beats, by the round -/
theorem Rho.far {f : α → α} {s : α} {p off : Nat} (R : Rho f s p off) {m : Nat} (hm : off ≤ m) : iter f m s = iter f (off + (m - off) % (p - off)) s := by
  have lt := R.lt
  induction m using Nat.strongRecOn with
  | _ m ih =>
    by_cases h : m < p
    · rw [Nat.mod_eq_of_lt (by omega)]
      congr 1; omega
    · have e1 : iter f m s = iter f (m - (p - off)) s := by
        rw [show m = (m - p) + p by omega, iter_add, R.back, ← iter_add]
        congr 1; omega
      rw [e1, ih (m - (p - off)) (by omega) (by omega)]
      have e2 : (m - off) % (p - off) = (m - (p - off) - off) % (p - off) := by
        rw [show m - off = (m - (p - off) - off) + (p - off) by omega, Nat.add_mod_right]
      rw [e2]
theorem Rho.unique {f : α → α} {s : α} {p off p' off' : Nat} (R : Rho f s p off) (R' : Rho f s p' off') : p = p' ∧ off = off' := by
  have key : ∀ {p off p' off' : Nat}, Rho f s p off → Rho f s p' off' → ¬ p < p' := fun {p off p' off'} R R' h => by
    have := R'.inj p off h (by have := R.lt; omega) R.back
    have := R.lt
    omega
  have e : p = p' := by
    have := key R R'
    have := key R' R
    omega
  subst e
  exact ⟨rfl, R.inj _ _ R.lt R'.lt (by rw [← R.back, R'.back])⟩
end
section
variable {R : Env}
theorem iter_ok {h : House} {s : Stand} (H : HouseOk h) (S : StandOk h s) : ∀ n, StandOk h (iter (beatF h) n s)
  | 0 => S
  | n + 1 => by rw [iter_succ]; exact beat_ok H (iter_ok H S n)
theorem stand_rho {h : House} {s : Stand} (H : HouseOk h) (S : StandOk h s) : ∃ p off, Rho (beatF h) s p off ∧ p ≤ 759375 := by
  obtain ⟨p, off, R, hp⟩ := rho_exists (f := beatF h) (all := standsA h) (P := StandOk h) S (fun a ha => beat_ok H ha) fun a ha => standsA_mem.mpr ha
  exact ⟨p, off, R, Nat.le_trans hp (standsA_len H)⟩
def S_way_of (g : Run) : Prop := ∀ (h : House) (s : Stand) (st : Sto) (p off : Nat), HouseOk h → StandOk h s → Rho (beatF h) s p off → p ≤ 759375 → g [toD h, toD s] st = .ok (.tup [.tl (mapD (orb (beatF h) s p)), .int off]) st
def metP (f : Stand → Stand) (s : Stand) (k : Nat) : List (Stand × Nat) := (List.range k).map fun i => (iter f i s, i)
theorem metP_keys (f : Stand → Stand) (s : Stand) (k : Nat) : (metP f s k).map (·.1) = orb f s k := by simp [metP, orb]
theorem metP_succ (f : Stand → Stand) (s : Stand) (k : Nat) : metP f s (k + 1) = metP f s k ++ [(iter f k s, k)] := by simp [metP, List.range_succ]
theorem metP_look {f : Stand → Stand} {s : Stand} {p off : Nat} (R : Rho f s p off) {i : Nat} (hi : i < p) : ∀ k, i < k → k ≤ p → look (metP f s k) (iter f i s) = some i := by
  intro k
  induction k with
  | zero => intro h; omega
  | succ k ih =>
    intro h1 h2
    have e : look (metP f s (k + 1)) (iter f i s) = ((look (metP f s k) (iter f i s)).or (if iter f k s = iter f i s then some k else none)) := by
      rw [metP_succ]
      unfold look
      rw [List.find?_append]
      cases q : (metP f s k).find? fun p => decide (p.1 = iter f i s) with
      | some x => simp
      | none =>
        by_cases e : iter f k s = iter f i s <;> simp [List.find?_cons, e]
    rw [e]
    by_cases c : i < k
    · rw [ih c (by omega)]; rfl
    · have : i = k := by omega
      subst this
      have n : look (metP f s i) (iter f i s) = none := by
        rw [look_none, metP_keys]
        intro hm
        obtain ⟨j, hj, e⟩ := mem_orb.mp hm
        have := R.inj j i (by omega) hi e
        omega
      rw [n]; simp
theorem b_way_of {i : Nat} (h1 : S_beat_by (R.call i)) : S_way_of (runFn R (f_way_of i)) := by
  intro h s st p off H S Rh hp
  rw [run_eq _ _ _ rfl]
  obtain ⟨s', st', e, rfl, rfl⟩ := while_inv (R := R) (c := .cmp .nin (.var 4) (.var 3)) (b := [.asg (.sub (.var 3) (.var 4)) (.blt .len [.var 2]), .ex (.mth .append (.var 2) [.var 4]), .asg (.nm 4) (.call i [.var 0, .var 4])])
    (fun m sl st' => m ≤ p ∧ sl = [some (toD h), some (toD s), some (.loc st.objs.length), some (.loc (st.objs.length + 1)), some (toD (iter (beatF h) (p - m) s))] ∧ st' = ⟨st.objs ++ [.lst (mapD (orb (beatF h) s (p - m))), dicP (metP (beatF h) s (p - m))], none⟩)
    (fun sl st' => sl = [some (toD h), some (toD s), some (.loc st.objs.length), some (.loc (st.objs.length + 1)), some (toD (iter (beatF h) p s))] ∧ st' = ⟨st.objs ++ [.lst (mapD (orb (beatF h) s p)), dicP (metP (beatF h) s p)], none⟩) (by
      rintro m sl st' ⟨hm, rfl, rfl⟩
      have DD : ∀ A (ps : List (Stand × Nat)), (st.objs ++ [A, dicP ps])[st.objs.length + 1]? = some (dicP ps) := fun A ps => by rw [get_nk rfl]; rfl
      have nin := nin_dic keyT_stand (e := none) (DD (.lst (mapD (orb (beatF h) s (p - m)))) (metP (beatF h) s (p - m))) (iter (beatF h) (p - m) s)
      by_cases m0 : m = 0
      · subst m0
        refine .inl ⟨_, ?_, rfl, rfl⟩
        have l : look (metP (beatF h) s p) (iter (beatF h) p s) = some off := by
          rw [Rh.back]; exact metP_look Rh Rh.lt p Rh.lt (Nat.le_refl _)
        simp only [Nat.sub_zero] at nin ⊢
        rw [l] at nin
        simp [nin]
      · have l : look (metP (beatF h) s (p - m)) (iter (beatF h) (p - m) s) = none := by
          rw [look_none, metP_keys]
          intro hx
          obtain ⟨j, hj, e⟩ := mem_orb.mp hx
          have := Rh.inj j (p - m) (by omega) (by omega) e
          omega
        rw [l] at nin
        have L : ∀ B, lstOf (st.objs ++ [.lst (mapD (orb (beatF h) s (p - m))), B])[st.objs.length]? = some (mapD (orb (beatF h) s (p - m))) := fun B => by rw [get_n rfl]; rfl
        have sx := setIx_dic keyT_stand (e := none) (DD (.lst (mapD (orb (beatF h) s (p - m)))) (metP (beatF h) s (p - m))) (iter (beatF h) (p - m) s) (p - m : Nat) (by
          simp only [metP, List.length_map, List.length_range]
          show p - m < 16777216
          omega)
        rw [set_nk rfl, put_length l, ← metP_succ] at sx
        have ap := append_loc (e := none) (x := toD (iter (beatF h) (p - m) s)) (L (dicP (metP (beatF h) s (p - m + 1)))) (by rw [mapD_length, orb_length]; show p - m < 16777216; omega) (noT_toD _) (noL_toD _)
        rw [set_n rfl, mapD_snoc, ← orb_succ] at ap
        have mo := mthOk_lst (e := none) (m := .append) (L (dicP (metP (beatF h) s (p - m + 1)))) (by simp)
        have ln := len_loc (e := none) (L (dicP (metP (beatF h) s (p - m))))
        have e1 := fun st => h1 h (iter (beatF h) (p - m) s) st H (iter_ok H S _)
        have pm : p - (m - 1) = p - m + 1 := by omega
        refine .inr ⟨⟨st.objs ++ [.lst (mapD (orb (beatF h) s (p - m))), dicP (metP (beatF h) s (p - m))], none⟩, [some (toD h), some (toD s), some (.loc st.objs.length), some (.loc (st.objs.length + 1)), some (toD (iter (beatF h) (p - (m - 1)) s))], ⟨st.objs ++ [.lst (mapD (orb (beatF h) s (p - (m - 1)))), dicP (metP (beatF h) s (p - (m - 1)))], none⟩, m - 1, ?_, ?_, by omega, by omega, rfl, rfl⟩
        · simp [nin]
        · rw [pm]
          simp at sx ap mo ln
          simp [ln, sx, mo, ap, e1, iter_succ])
    p [some (toD h), some (toD s), some (.loc st.objs.length), some (.loc (st.objs.length + 1)), some (toD s)] ⟨st.objs ++ [.lst [], .dic [] []], none⟩ (by unfold turns; omega) ⟨Nat.le_refl _, by rw [Nat.sub_self]; rfl, by rw [Nat.sub_self]; rfl⟩
  have DD : (st.objs ++ [.lst (mapD (orb (beatF h) s p)), dicP (metP (beatF h) s p)])[st.objs.length + 1]? = some (dicP (metP (beatF h) s p)) := by rw [get_nk rfl]; rfl
  have ix := idx_dic keyT_stand (e := none) DD (iter (beatF h) p s)
  have l : look (metP (beatF h) s p) (iter (beatF h) p s) = some off := by
    rw [Rh.back]; exact metP_look Rh Rh.lt p Rh.lt (Nat.le_refl _)
  rw [l] at ix
  simp [f_way_of, stl_not, settle_tup, settle_tl, settle_td, settles_nil, settles_cons, settle_toD, e, ix]
  refine finS_dem (l := [st.objs.length]) ?_ (by simp)
  have d1 : dem (st.objs ++ [.lst (mapD (orb (beatF h) s p)), dicP (metP (beatF h) s p)]) st.objs.length 39 (.loc st.objs.length) = some (.tl (mapD (orb (beatF h) s p)), [st.objs.length]) := dem_loc (Nat.le_refl _) (by rw [get_n rfl]; rfl) (noLs_mapD _)
  have d2 : dem (st.objs ++ [.lst (mapD (orb (beatF h) s p)), dicP (metP (beatF h) s p)]) st.objs.length 39 (.int (off : Int)) = some (.int off, []) := dem_noL rfl
  have nl : (D.tup [.loc st.objs.length, .int (off : Int)]).noL = false := by simp [D.noL, D.noLs]
  show (if (D.tup [.loc st.objs.length, .int (off : Int)]).noL then _ else (demL (dem _ _ 39) [.loc st.objs.length, .int (off : Int)]).map _) = _
  rw [nl]
  simp only [Bool.false_eq_true, if_false, demL, d1, d2, Option.map_some, List.append_nil]
end
end DV
set_option linter.all false
set_option autoImplicit false
set_option maxRecDepth 100000
/-! PY: many beats, rounds. -/
namespace DV
open PySem (Str PyData)
open Enc
section
variable {R : Env}
theorem stl_way {o : List MO} {e : Option Nat} (xs : List Stand) (k : Int) : stl (.tup [.tl (mapD xs), .int k]) ⟨o, e⟩ = (.tup [.loc o.length, .int k], ⟨o ++ [.lst (mapD xs)], e⟩) := by
  rw [stl_not _ (by simp)]
  simp [settle_tup, settle_tl, settle_int, settles_nil, settles_cons, settles_mapD]
def S_after_by (g : Run) : Prop := ∀ (h : House) (s : Stand) (m : Nat) (st : Sto), HouseOk h → StandOk h s → g [toD h, toD s, .int m] st = .ok (toD (iter (beatF h) m s)) st
theorem b_after_by {i : Nat} (h1 : S_way_of (R.call i)) : S_after_by (runFn R (f_after_by i)) := by
  intro h s m st H S
  rw [run_eq _ _ _ rfl]
  obtain ⟨p, off, Rh, hp⟩ := stand_rho H S
  have e1 := fun st => h1 h s st p off H S Rh hp
  have lt := Rh.lt
  have L : lstOf (st.objs ++ [.lst (mapD (orb (beatF h) s p))])[st.objs.length]? = some (mapD (orb (beatF h) s p)) := by rw [get_n rfl]; rfl
  have ln := len_loc (e := none) L
  have ix := fun i => idx_loc (e := none) L i
  by_cases c : m < off
  · have c2 : (m : Int) < (off : Int) := by omega
    simp [f_after_by, e1, stl_way, ix, atIx_nat, mapD_get, c, orb_get (show m < p by omega)]
    exact finS_noL (noL_toD _)
  · have c2 : ¬ (m : Int) < (off : Int) := by omega
    have md : ∀ st, binop .mod (.int ((m : Int) - (off : Int))) (.int ((p : Int) - (off : Int))) st = .ok (.int (((m - off) % (p - off) : Nat) : Int)) st := fun st => by
      rw [mod_int (by omega), show (m : Int) - (off : Int) = ((m - off : Nat) : Int) by omega, show (p : Int) - (off : Int) = ((p - off : Nat) : Int) by omega]
      rfl
    have lt2 : (m - off) % (p - off) < p - off := Nat.mod_lt _ (by omega)
    have ad : ∀ st, binop .add (.int (off : Int)) (.int (((m - off) % (p - off) : Nat) : Int)) st = .ok (.int ((off + (m - off) % (p - off) : Nat) : Int)) st := fun st => by rw [add_int]; congr 2
    have ix2 := ix ((off + (m - off) % (p - off) : Nat) : Int)
    rw [atIx_nat, mapD_get, orb_get (by omega)] at ix2
    have fr := Rh.far (show off ≤ m by omega)
    simp only [Option.map_some, optR_some] at ix2
    have ix3 : opIdx (.loc st.objs.length) (.int ((off : Int) + ((m - off : Nat) : Int) % ((p - off : Nat) : Int))) ⟨st.objs ++ [.lst (mapD (orb (beatF h) s p))], none⟩ = .ok (toD (iter (beatF h) m s)) ⟨st.objs ++ [.lst (mapD (orb (beatF h) s p))], none⟩ := by
      rw [show ((off : Int) + ((m - off : Nat) : Int) % ((p - off : Nat) : Int)) = ((off + (m - off) % (p - off) : Nat) : Int) by rw [Int.natCast_add, Int.natCast_emod], ix2, fr]
    simp [f_after_by, e1, stl_way, c, ln, md, ix3]
    exact finS_noL (noL_toD _)
def S_need_many (c : Nat) (g : Run) : Prop := ∀ (d : D) (st : Sto), fineD st d = true → d.noT = true → g [d] st = if withinD 0 1000000000000 d then .ok .non st else .exc c st
theorem b_need_many {i c : Nat} (hR : Std R) (h1 : S_is_within (R.call i)) : S_need_many c (runFn R (f_need_many i c)) := by
  intro d st hf hn
  rw [run_eq _ _ _ rfl]
  have hb : fineD st.bare d = true := by rw [fine_bare]; exact hf
  have e := h1 d 0 1000000000000 st.bare hb hn
  simp only [bare_eq] at e
  cases q : withinD 0 1000000000000 d <;> simp [f_need_many, hR.c, consts0, stlNoT _ hn, e, q, finS_objs]
def S_after (g : Run) : Prop := ∀ (h : House) (s : Stand) (m : Nat) (st : Sto), HouseOk h → StandOk h s → m ≤ 1000000000000 → g [toD h, toD s, .int m] st = .ok (toD (iter (beatF h) m s)) st
theorem b_after {i j k c1 c2 : Nat} (h1 : S_need_stand c1 (R.call i)) (h2 : S_need_many c2 (R.call j)) (h3 : S_after_by (R.call k)) : S_after (runFn R (f_after i j k)) := by
  intro h s m st H S hm
  rw [run_eq _ _ _ rfl]
  have e2 : ∀ st, R.call j [.int (m : Int)] st = .ok .non st := fun st => by
    rw [h2 (.int m) st (fine_pure rfl) rfl]
    have : withinD 0 1000000000000 (.int (m : Int)) = true := by simp only [withinD, Bool.and_eq_true, decide_eq_true_eq]; omega
    rw [if_pos this]
  simp [f_after, need_ok h1 H S, e2, h3 h s m _ H S]
  exact finS_toD _ st
def S_off_and_long (g : Run) : Prop := ∀ (h : House) (s : Stand) (st : Sto) (p off : Nat), HouseOk h → StandOk h s → Rho (beatF h) s p off → p ≤ 759375 → g [toD h, toD s] st = .ok (toD (off, p - off)) st
theorem b_off_and_long {i j c : Nat} (h1 : S_need_stand c (R.call i)) (h2 : S_way_of (R.call j)) : S_off_and_long (runFn R (f_off_and_long i j)) := by
  intro h s st p off H S Rh hp
  rw [run_eq _ _ _ rfl]
  have e1 := fun st => h2 h s st p off H S Rh hp
  have lt := Rh.lt
  have L : lstOf (st.objs ++ [.lst (mapD (orb (beatF h) s p))])[st.objs.length]? = some (mapD (orb (beatF h) s p)) := by rw [get_n rfl]; rfl
  have ln := len_loc (e := none) L
  simp [f_off_and_long, need_ok h1 H S, e1, stl_way, ln]
  rw [show (p : Int) - (off : Int) = ((p - off : Nat) : Int) by omega]
  exact finS_noL (noL_toD (off, p - off))
/-- the stands of the round, from the first one there on -/
def ringF (h : House) (s : Stand) (p off : Nat) : List Stand := (orb (beatF h) s p).drop off
theorem ring_length (h : House) (s : Stand) (p off : Nat) : (ringF h s p off).length = p - off := by simp [ringF]
def S_ring_of (g : Run) : Prop := ∀ (h : House) (s : Stand) (st : Sto) (p off : Nat), HouseOk h → StandOk h s → Rho (beatF h) s p off → p ≤ 759375 → g [toD h, toD s] st = .ok (.tl (mapD (ringF h s p off))) st
theorem cut_mapD {α : Type} [Enc α] (xs : List α) (lo hi : Option Int) : cutD (mapD xs) lo hi = mapD (cutD xs lo hi) := cut_map toD xs lo hi
theorem b_ring_of {i : Nat} (h1 : S_way_of (R.call i)) : S_ring_of (runFn R (f_ring_of i)) := by
  intro h s st p off H S Rh hp
  rw [run_eq _ _ _ rfl]
  have e1 := fun st => h1 h s st p off H S Rh hp
  have L : lstOf (st.objs ++ [.lst (mapD (orb (beatF h) s p))])[st.objs.length]? = some (mapD (orb (beatF h) s p)) := by rw [get_n rfl]; rfl
  have sl := slc_loc (e := none) L (noTs_mapD _) (some (off : Int)) none
  rw [cut_mapD, cut_from] at sl
  simp [f_ring_of, e1, stl_way, sl]
  exact finS_noL (noL_tlD (ringF h s p off))
/-- the place of an item -/
def idxD {α : Type} [DecidableEq α] (xs : List α) (a : α) : Nat := xs.idxOf a
/-- a round from its least stand on -/
def turnF (ring : List Stand) : List Stand :=
  match ring with
  | [] => []
  | x :: xs => ring.drop (idxD ring (minE x xs)) ++ ring.take (idxD ring (minE x xs))
def S_from_least (g : Run) : Prop := ∀ (o : List MO) (l : Nat) (ring : List Stand), lstOf o[l]? = some (mapD ring) → ring ≠ [] → ring.length ≤ 759375 → g [.loc l] ⟨o, none⟩ = .ok (toD (turnF ring)) ⟨o, none⟩
theorem minE_mem {α : Type} [Enc α] : ∀ (xs : List α) (x : α), minE x xs ∈ x :: xs
  | [], x => by simp [minE]
  | y :: xs, x => by
    have z := minE_mem xs (if ltE y x then y else x)
    show minE (if ltE y x then y else x) xs ∈ _
    rcases List.mem_cons.mp z with e | e
    · rw [e]; split <;> simp
    · simp [e]
theorem min1_loc {α : Type} [Enc α] (hb : BackT α) (hd : dep α ≤ 16) {o : List MO} {e : Option Nat} {l : Nat} {x : α} {xs : List α} (h : lstOf o[l]? = some (mapD (x :: xs))) (hk : (∀ a ∈ x :: xs, tupleB (dat a) = true) ∨ ∀ a ∈ x :: xs, otherB (dat a) = true) : bltRun .min1 [.loc l] ⟨o, e⟩ = .ok (toD (minE x xs)) ⟨o, e⟩ := by
  have z := min1_tl (x := x) (xs := xs) hb hd (st := ⟨o, e⟩) hk
  have h0 : (⟨o, e⟩ : Sto).list (.loc l) = some (mapD (x :: xs)) := by
    simp only [Sto.list, D.isTup, Bool.false_eq_true, if_false, seq_loc, h]
  have h1 : (⟨o, e⟩ : Sto).list (.tl (mapD (x :: xs))) = some (mapD (x :: xs)) := rfl
  simp only [bltRun, min1D, h0] at z ⊢
  simp only [h1] at z
  exact z
theorem b_from_least : S_from_least (runFn R f_from_least) := by
  intro o l ring L hne hl
  rw [run_eq _ _ _ rfl]
  cases ring with
  | nil => exact absurd rfl hne
  | cons x xs =>
    have m := min1_loc (α := Stand) (e := none) (back_pair (back_list back_int) (back_list back_nat)) (by decide) L (.inl fun _ _ => rfl)
    have mm := minE_mem (α := Stand) xs x
    obtain ⟨k, hk⟩ : ∃ k, idxD (x :: xs) (minE (α := Stand) x xs) = k := ⟨_, rfl⟩
    have ix : mthRun .index (.loc l) [toD (minE (α := Stand) x xs)] ⟨o, none⟩ = .ok (.int (k : Int)) ⟨o, none⟩ := by
      rw [← hk]; exact index_loc (α := Stand) (e := none) L (by decide) mm
    have mo := mthOk_lst (e := none) (m := .index) L (by simp)
    have s1 := slc_loc (e := none) L (noTs_mapD _) (some (k : Int)) none
    have s2 := slc_loc (e := none) L (noTs_mapD _) none (some (k : Int))
    rw [cut_mapD, cut_from] at s1
    rw [cut_mapD, cut_to] at s2
    have ad := add_tl (st := ⟨o, none⟩) (xs := mapD ((x :: xs).drop k)) (ys := mapD ((x :: xs).take k)) (by
      rw [mapD_length, mapD_length, List.length_drop, List.length_take]
      show _ ≤ 16777216
      omega)
    have tf : turnF (x :: xs) = (x :: xs).drop k ++ (x :: xs).take k := by simp only [turnF, hk]
    rw [tf]
    simp [f_from_least, m, mo, ix, s1, s2, ad]
    exact finS_objs (st := ⟨o, none⟩) (pure_toD ((x :: xs).drop k ++ (x :: xs).take k))
def S_round_of (g : Run) : Prop := ∀ (h : House) (s : Stand) (st : Sto) (p off : Nat), HouseOk h → StandOk h s → Rho (beatF h) s p off → p ≤ 759375 → g [toD h, toD s] st = .ok (toD (turnF (ringF h s p off))) st
theorem b_round_of {i j k c : Nat} (h1 : S_need_stand c (R.call i)) (h2 : S_from_least (R.call j)) (h3 : S_ring_of (R.call k)) : S_round_of (runFn R (f_round_of i j k)) := by
  intro h s st p off H S Rh hp
  rw [run_eq _ _ _ rfl]
  have e3 := fun st => h3 h s st p off H S Rh hp
  have rl := ring_length h s p off
  have lt := Rh.lt
  have e2 := h2 (st.objs ++ [.lst (mapD (ringF h s p off))]) st.objs.length (ringF h s p off) (by rw [get_n rfl]; rfl) (fun e => by rw [e] at rl; simp at rl; omega) (by omega)
  have em := endC_more (o := st.objs) (xs := [.lst (mapD (ringF h s p off))]) (d := toD (turnF (ringF h s p off))) (noL_toD _)
  simp [f_round_of, need_ok h1 H S, e3, e2, em]
  exact finS_toD _ st
/-! who is heard -/
def baresF (ring : List Stand) : List Nat := ring.map fun s => bareF s.1
theorem orb_ok {h : House} {s : Stand} (H : HouseOk h) (S : StandOk h s) {p : Nat} : ∀ x ∈ orb (beatF h) s p, StandOk h x := by
  intro x hx
  obtain ⟨i, _, rfl⟩ := mem_orb.mp hx
  exact iter_ok H S i
theorem ring_ok {h : House} {s : Stand} (H : HouseOk h) (S : StandOk h s) {p off : Nat} : ∀ x ∈ ringF h s p off, StandOk h x := fun x hx => orb_ok H S x (List.mem_of_mem_drop hx)
/-- [bare_of(seating) for seating, hands in row] -/
theorem bares_comp {i : Nat} (h1 : S_bare_of (R.call i)) {h : House} (H : HouseOk h) {ring : List Stand} (hr : ∀ x ∈ ring, StandOk h x) (hl : ring.length ≤ 759375) {a b : Nat} {sl : Slots} {ds : List D} {ls : List Nat} {st : Sto} (hab : a ≠ b) (hs : srcItems .seq ds st = some (ring.map toD, ls)) (ha : a < sl.length) (hb : b < sl.length) :
    compE R (.call i [.var a]) [] (.tup [.nm a, .nm b]) .seq sl ds st = .ok (.tl (mapD (baresF ring))) st := by
  refine compT_map (fun s : Stand => bareF s.1) (h := toD) hs (show _ ≤ 16777216 by omega) fun x hx => ⟨_, by simp; rfl, ?_⟩
  have e1 := fun st => h1 x.1 st ((hr x hx).bare H).1
  have sr : ∀ st, slotR ((sl.set a (some (toD x.1))).set b (some (toD x.2))) a st = .ok (toD x.1) st := fun st => by
    unfold slotR
    rw [List.getElem?_set_ne (fun e => hab e.symm), List.getElem?_set_self ha]
  simp [sr, e1]
def heardF (h : House) (s : Stand) (p off : Nat) : List Nat := (List.range h.length).map fun i => (baresF (ringF h s p off)).count i
def S_heard (g : Run) : Prop := ∀ (h : House) (s : Stand) (st : Sto) (p off : Nat), HouseOk h → StandOk h s → Rho (beatF h) s p off → p ≤ 759375 → g [toD h, toD s] st = .ok (toD (heardF h s p off)) st
theorem b_heard {i j k c : Nat} (h1 : S_need_stand c (R.call i)) (h2 : S_ring_of (R.call j)) (h3 : S_bare_of (R.call k)) : S_heard (runFn R (f_heard i j k)) := by
  intro h s st p off H S Rh hp
  rw [run_eq _ _ _ rfl]
  have l := H.len
  have e2 := fun st => h2 h s st p off H S Rh hp
  have c1 := bares_comp (R := R) h3 H (ring_ok H S (p := p) (off := off)) (by rw [ring_length]; omega) (a := 3) (b := 4) (sl := [some (toD h), some (toD s), none, none, none, none]) (ds := [.tl (mapD (ringF h s p off))]) (st := ⟨st.objs, none⟩) (by decide) (src_tlD _ _) (by simp) (by simp)
  have L : lstOf (st.objs ++ [.lst (mapD (baresF (ringF h s p off)))])[st.objs.length]? = some (mapD (baresF (ringF h s p off))) := by rw [get_n rfl]; rfl
  have c2 : compE R (.mth .count (.var 2) [.var 5]) [] (.nm 5) .range1 [some (toD h), some (toD s), some (.loc st.objs.length), none, none, none] [.int (h.length : Int)] ⟨st.objs ++ [.lst (mapD (baresF (ringF h s p off)))], none⟩ = .ok (.tl (mapD (heardF h s p off))) ⟨st.objs ++ [.lst (mapD (baresF (ringF h s p off)))], none⟩ := by
    refine compT_map (fun i => (baresF (ringF h s p off)).count i) (h := toD) (src_range (by omega)) (by rw [List.length_range]; show _ ≤ 16777216; omega) fun x hx => ⟨_, set_nm _ _ _, ?_⟩
    have ct := count_loc (α := Nat) (e := none) L (by decide) x
    have mo := mthOk_lst (e := none) (m := .count) L (by simp)
    simp only [toD_nat] at ct
    simp [mo, ct]
  simp [f_heard, need_ok h1 H S, e2, wipeD, c1, c2]
  exact finS_noL (noL_toD (heardF h s p off))
def S_need_seat (c : Nat) (g : Run) : Prop := ∀ (h : House) (d : D) (st : Sto), fineD st d = true → d.noT = true → g [toD h, d] st = if withinD 0 ((h.length : Int) - 1) d then .ok .non st else .exc c st
theorem b_need_seat {i c : Nat} (h1 : S_is_within (R.call i)) : S_need_seat c (runFn R (f_need_seat i c)) := by
  intro h d st hf hn
  rw [run_eq _ _ _ rfl]
  have hb : fineD st.bare d = true := by rw [fine_bare]; exact hf
  have e := h1 d 0 ((h.length : Int) - 1) st.bare hb hn
  simp only [bare_eq] at e
  cases q : withinD 0 ((h.length : Int) - 1) d <;> simp [f_need_seat, stlNoT _ hn, e, q, finS_objs]
/-- at first heard -/
def firstHeardD (h : House) (s : Stand) (p i : Nat) : D := if i ∈ baresF (orb (beatF h) s p) then .int ((baresF (orb (beatF h) s p)).idxOf i : Nat) else .non
def S_first_heard (g : Run) : Prop := ∀ (h : House) (s : Stand) (i : Nat) (st : Sto) (p off : Nat), HouseOk h → StandOk h s → Rho (beatF h) s p off → p ≤ 759375 → i < h.length → g [toD h, toD s, .int i] st = .ok (firstHeardD h s p i) st
theorem b_first_heard {i j k m c1 c2 : Nat} (h1 : S_need_stand c1 (R.call i)) (h2 : S_need_seat c2 (R.call j)) (h3 : S_way_of (R.call k)) (h4 : S_bare_of (R.call m)) : S_first_heard (runFn R (f_first_heard i j k m)) := by
  intro h s x st p off H S Rh hp hx
  rw [run_eq _ _ _ rfl]
  have l := H.len
  have e2 : ∀ st, R.call j [toD h, .int (x : Int)] st = .ok .non st := fun st => by
    rw [h2 h (.int x) st (fine_pure rfl) rfl]
    have : withinD 0 ((h.length : Int) - 1) (.int (x : Int)) = true := by simp only [withinD, Bool.and_eq_true, decide_eq_true_eq]; omega
    rw [if_pos this]
  have e3 := fun st => h3 h s st p off H S Rh hp
  have a0 : atIx [D.tl (mapD (orb (beatF h) s p)), .int (off : Int)] 0 = some (.tl (mapD (orb (beatF h) s p))) := rfl
  have c1 := bares_comp (R := R) h4 H (orb_ok H S (p := p)) (by rw [orb_length]; omega) (a := 4) (b := 5) (sl := [some (toD h), some (toD s), some (.int x), none, none, none]) (ds := [.tl (mapD (orb (beatF h) s p))]) (st := ⟨st.objs, none⟩) (by decide) (src_tlD _ _) (by simp) (by simp)
  have L : lstOf (st.objs ++ [.lst (mapD (baresF (orb (beatF h) s p)))])[st.objs.length]? = some (mapD (baresF (orb (beatF h) s p))) := by rw [get_n rfl]; rfl
  have il := in_loc (α := Nat) (e := none) L (by decide) x
  have mo := mthOk_lst (e := none) (m := .index) L (by simp)
  simp only [toD_nat] at il
  by_cases c : x ∈ baresF (orb (beatF h) s p)
  · have ix := index_loc (α := Nat) (e := none) L (by decide) c
    simp only [toD_nat] at ix
    simp [f_first_heard, need_ok h1 H S, e2, e3, a0, wipeD, c1, il, c, mo, ix, firstHeardD]
    exact finS_noL (by simp only [D.noL])
  · simp [f_first_heard, need_ok h1 H S, e2, e3, a0, wipeD, c1, il, c, firstHeardD]
    exact finS_noL rfl
/-- the one ahead that comes again -/
def backD (h : House) (s : Stand) (p off : Nat) : D := if off = 0 then toD (iter (beatF h) (p - 1) s) else .non
def S_back (g : Run) : Prop := ∀ (h : House) (s : Stand) (st : Sto) (p off : Nat), HouseOk h → StandOk h s → Rho (beatF h) s p off → p ≤ 759375 → g [toD h, toD s] st = .ok (backD h s p off) st
theorem b_back {i j c : Nat} (h1 : S_need_stand c (R.call i)) (h2 : S_way_of (R.call j)) : S_back (runFn R (f_back i j)) := by
  intro h s st p off H S Rh hp
  rw [run_eq _ _ _ rfl]
  have e1 := fun st => h2 h s st p off H S Rh hp
  have lt := Rh.lt
  have L : lstOf (st.objs ++ [.lst (mapD (orb (beatF h) s p))])[st.objs.length]? = some (mapD (orb (beatF h) s p)) := by rw [get_n rfl]; rfl
  have ix := idx_loc (e := none) L (-1)
  have a1 : atIx (mapD (orb (beatF h) s p)) (-1) = some (toD (iter (beatF h) (p - 1) s)) := by
    unfold atIx ixOf
    rw [if_neg (by decide), mapD_length, orb_length, if_pos (by omega)]
    show (mapD (orb (beatF h) s p))[((-1 : Int) + (p : Int)).toNat]? = _
    rw [show ((-1 : Int) + (p : Int)).toNat = p - 1 by omega, mapD_get, orb_get (by omega)]
    rfl
  rw [a1] at ix
  by_cases c : off = 0
  · subst c
    simp [f_back, need_ok h1 H S, e1, stl_way, ix, backD]
    exact finS_noL (noL_toD _)
  · have c2 : ¬ (off : Int) = 0 := by omega
    simp [f_back, need_ok h1 H S, e1, stl_way, backD, c]
    exact finS_noL rfl
end
end DV
set_option linter.all false
set_option autoImplicit false
set_option maxRecDepth 100000
/-! PZ: the laws' own line of beats. -/
namespace DV
open PySem (Str PyData)
open Enc
section
variable {R : Env}
@[simp] theorem e_dic1 (i : Nat) (n : Int) (s : Slots) (st : Sto) : evE R (.dic [.var i] [.int n]) s st = (slotR s i st).bind fun d st => dic1 d n st := by
  simp only [evE, slotR]
  cases s[i]? with
  | none => rfl
  | some o => cases o <;> rfl
theorem dic1_run {α : Type} [Enc α] (hk : KeyT α) (k : α) (n : Int) (st : Sto) : dic1 (toD k) n st = .ok (.td [toD k] [.int n]) st := by
  unfold dic1
  have := hk [] k
  rw [show mapD ([] : List α) = [] from rfl] at this
  rw [this]; rfl
def S_law_line (g : Run) : Prop := ∀ (h : House) (s : Stand) (o : List MO) (p off : Nat), HouseOk h → StandOk h s → Rho (beatF h) s p off → p ≤ 759375 → g [toD h, toD s] ⟨o, none⟩ = .ok (.tup [.tl (mapD (orb (beatF h) s p)), .int off]) ⟨o, none⟩
theorem b_law_line {i : Nat} (h1 : S_law_beat (R.call i)) : S_law_line (runFn R (f_law_line i)) := by
  intro h s o p off H S Rh hp
  rw [run_eq _ _ _ rfl]
  have lt := Rh.lt
  obtain ⟨s', st', e, rfl, rfl⟩ := while_inv (R := R) (c := .cmp .nin (.var 4) (.var 3)) (b := [.asg (.sub (.var 3) (.var 4)) (.blt .len [.var 2]), .ex (.mth .append (.var 2) [.var 4]), .asg (.nm 4) (.call i [.var 0, .var 4])])
    (fun m sl st' => m < p ∧ sl = [some (toD h), some (toD s), some (.loc o.length), some (.loc (o.length + 1)), some (toD (iter (beatF h) (p - m) s))] ∧ st' = ⟨o ++ [.lst (mapD (orb (beatF h) s (p - m))), dicP (metP (beatF h) s (p - m))], none⟩)
    (fun sl st' => sl = [some (toD h), some (toD s), some (.loc o.length), some (.loc (o.length + 1)), some (toD (iter (beatF h) p s))] ∧ st' = ⟨o ++ [.lst (mapD (orb (beatF h) s p)), dicP (metP (beatF h) s p)], none⟩) (by
      rintro m sl st' ⟨hm, rfl, rfl⟩
      have DD : ∀ A (ps : List (Stand × Nat)), (o ++ [A, dicP ps])[o.length + 1]? = some (dicP ps) := fun A ps => by rw [get_nk rfl]; rfl
      have nin := nin_dic keyT_stand (e := none) (DD (.lst (mapD (orb (beatF h) s (p - m)))) (metP (beatF h) s (p - m))) (iter (beatF h) (p - m) s)
      by_cases m0 : m = 0
      · subst m0
        refine .inl ⟨_, ?_, rfl, rfl⟩
        have l : look (metP (beatF h) s p) (iter (beatF h) p s) = some off := by
          rw [Rh.back]; exact metP_look Rh Rh.lt p Rh.lt (Nat.le_refl _)
        simp only [Nat.sub_zero] at nin ⊢
        rw [l] at nin
        simp [nin]
      · have l : look (metP (beatF h) s (p - m)) (iter (beatF h) (p - m) s) = none := by
          rw [look_none, metP_keys]
          intro hx
          obtain ⟨j, hj, e⟩ := mem_orb.mp hx
          have := Rh.inj j (p - m) (by omega) (by omega) e
          omega
        rw [l] at nin
        have L : ∀ B, lstOf (o ++ [.lst (mapD (orb (beatF h) s (p - m))), B])[o.length]? = some (mapD (orb (beatF h) s (p - m))) := fun B => by rw [get_n rfl]; rfl
        have sx := setIx_dic keyT_stand (e := none) (DD (.lst (mapD (orb (beatF h) s (p - m)))) (metP (beatF h) s (p - m))) (iter (beatF h) (p - m) s) (p - m : Nat) (by
          simp only [metP, List.length_map, List.length_range]
          show p - m < 16777216
          omega)
        rw [set_nk rfl, put_length l, ← metP_succ] at sx
        have ap := append_loc (e := none) (x := toD (iter (beatF h) (p - m) s)) (L (dicP (metP (beatF h) s (p - m + 1)))) (by rw [mapD_length, orb_length]; show p - m < 16777216; omega) (noT_toD _) (noL_toD _)
        rw [set_n rfl, mapD_snoc, ← orb_succ] at ap
        have mo := mthOk_lst (e := none) (m := .append) (L (dicP (metP (beatF h) s (p - m + 1)))) (by simp)
        have ln := len_loc (e := none) (L (dicP (metP (beatF h) s (p - m))))
        have e1 := fun o => h1 h (iter (beatF h) (p - m) s) o H (iter_ok H S _)
        have pm : p - (m - 1) = p - m + 1 := by omega
        refine .inr ⟨⟨o ++ [.lst (mapD (orb (beatF h) s (p - m))), dicP (metP (beatF h) s (p - m))], none⟩, [some (toD h), some (toD s), some (.loc o.length), some (.loc (o.length + 1)), some (toD (iter (beatF h) (p - (m - 1)) s))], ⟨o ++ [.lst (mapD (orb (beatF h) s (p - (m - 1)))), dicP (metP (beatF h) s (p - (m - 1)))], none⟩, m - 1, ?_, ?_, by omega, by omega, rfl, rfl⟩
        · simp [nin]
        · rw [pm]
          simp at sx ap mo ln
          simp [ln, sx, mo, ap, e1, iter_succ])
    (p - 1) [some (toD h), some (toD s), some (.loc o.length), some (.loc (o.length + 1)), some (toD (beatF h s))] ⟨o ++ [.lst [toD s], .dic [toD s] [.int 0]], none⟩ (by unfold turns; omega) ⟨by omega, by rw [show p - (p - 1) = 1 by omega]; rfl, by rw [show p - (p - 1) = 1 by omega]; rfl⟩
  have DD : (o ++ [.lst (mapD (orb (beatF h) s p)), dicP (metP (beatF h) s p)])[o.length + 1]? = some (dicP (metP (beatF h) s p)) := by rw [get_nk rfl]; rfl
  have ix := idx_dic keyT_stand (e := none) DD (iter (beatF h) p s)
  have l : look (metP (beatF h) s p) (iter (beatF h) p s) = some off := by
    rw [Rh.back]; exact metP_look Rh Rh.lt p Rh.lt (Nat.le_refl _)
  rw [l] at ix
  have e0 := fun o => h1 h s o H S
  simp [f_law_line, stl_tl, dic1_run keyT_stand, e0, stl_not, settle_tup, settle_tl, settle_td, settle_int, settles_nil, settles_cons, settle_toD, e, ix]
  refine finS_dem (st := ⟨o, none⟩) (l := [o.length]) ?_ (by simp)
  have d1 : dem (o ++ [.lst (mapD (orb (beatF h) s p)), dicP (metP (beatF h) s p)]) o.length 39 (.loc o.length) = some (.tl (mapD (orb (beatF h) s p)), [o.length]) := dem_loc (Nat.le_refl _) (by rw [get_n rfl]; rfl) (noLs_mapD _)
  have d2 : dem (o ++ [.lst (mapD (orb (beatF h) s p)), dicP (metP (beatF h) s p)]) o.length 39 (.int (off : Int)) = some (.int off, []) := dem_noL rfl
  have nl : (D.tup [.loc o.length, .int (off : Int)]).noL = false := by simp [D.noL, D.noLs]
  show (if (D.tup [.loc o.length, .int (off : Int)]).noL then _ else (demL (dem _ _ 39) [.loc o.length, .int (off : Int)]).map _) = _
  rw [nl]
  simp only [Bool.false_eq_true, if_false, demL, d1, d2, Option.map_some, List.append_nil]
end
end DV
set_option linter.all false
set_option autoImplicit false
set_option maxRecDepth 100000
/-! K14: rounds. -/
namespace DV
open PySem (Str PyData)
open Enc
section
variable {R : Env}
theorem seats_120 {n : Nat} (h1 : 2 ≤ n) (h2 : n ≤ 5) : (seatsK n n).length ≤ 120 := by
  have : n = 2 ∨ n = 3 ∨ n = 4 ∨ n = 5 := by omega
  rcases this with rfl | rfl | rfl | rfl <;> decide +kernel
theorem standsA_few {h : House} (H : HouseOk h) : (standsA h).length ≤ 29160 := by
  have l := H.len
  have b : (handsL h).length ≤ 243 := Nat.le_trans (handsL_len h fun x hx => (H.lst x hx).2).1 (Nat.pow_le_pow_right (by decide) l.2)
  exact Nat.le_trans (flatMap_le (m := 243) fun x _ => by rw [List.length_map]; exact b) (Nat.mul_le_mul_right _ (seats_120 l.1 l.2))
theorem stand_rho' {h : House} {s : Stand} (H : HouseOk h) (S : StandOk h s) : ∃ p off, Rho (beatF h) s p off ∧ p ≤ 29160 := by
  obtain ⟨p, off, R, hp⟩ := rho_exists (f := beatF h) (all := standsA h) (P := StandOk h) S (fun a ha => beat_ok H ha) fun a ha => standsA_mem.mpr ha
  exact ⟨p, off, R, Nat.le_trans hp (standsA_few H)⟩
theorem tiny_small {i : Int} (h : i.natAbs < 4) : Tiny (.int i) 2 := by
  refine ⟨(tiny_int (i := i) (by have e : (10 : Nat) ^ 12 = 1000000000000 := by decide
                                 omega)).1, ?_⟩
  simp only [PyData.weight]
  split
  · omega
  · rename_i z
    have z2 : i.natAbs ≠ 0 := by simpa using z
    have := (Nat.log2_lt z2).mpr (show i.natAbs < 2 ^ 2 from h)
    omega
theorem tiny_stand' {h : House} {s : Stand} (H : HouseOk h) (S : StandOk h s) : Tiny (dat s) 32 := by
  have l := H.len
  refine (tiny_pair (tiny_list (α := Int) (w := 2) (n := 5) (fun n hn => ?_) (by rw [S.seat.len]; exact l.2)) (tiny_list (α := Nat) (w := 2) (n := 5) (fun k hk => ?_) (by rw [S.len]; exact l.2))).mono (by decide)
  · have := S.seat.mem.mp hn
    exact tiny_small (by omega)
  · obtain ⟨i, hi, rfl⟩ := List.getElem_of_mem hk
    have hj : i < h.length := by rw [← S.len]; exact hi
    have := S.hand i hi hj
    have := (H.lst _ (List.getElem_mem hj)).2
    exact tiny_small (i := ((s.2[i] : Nat) : Int)) (by omega)
theorem tiny_pairN {a b : Nat} (ha : a < 10 ^ 12) (hb : b < 10 ^ 12) : Tiny (dat (a, b)) 82 := (tiny_pair (tiny_int (i := (a : Int)) (by omega)) (tiny_int (i := (b : Int)) (by omega))).mono (by decide)
theorem turn_mem {ring : List Stand} {x : Stand} (h : x ∈ turnF ring) : x ∈ ring := by
  cases ring with
  | nil => simp [turnF] at h
  | cons y ys =>
    simp only [turnF] at h
    rcases List.mem_append.mp h with z | z
    · exact List.mem_of_mem_drop z
    · exact List.mem_of_mem_take z
theorem turn_length (ring : List Stand) : (turnF ring).length ≤ ring.length := by
  cases ring with
  | nil => simp [turnF]
  | cons y ys => simp only [turnF, List.length_append, List.length_drop, List.length_take]; omega
theorem tiny_turn {h : House} {s : Stand} (H : HouseOk h) (S : StandOk h s) {p off : Nat} (hp : p ≤ 29160) : Tiny (dat (turnF (ringF h s p off))) (29160 * 33) :=
  tiny_list (fun x hx => tiny_stand' H (ring_ok H S x (turn_mem hx))) (by have := turn_length (ringF h s p off); rw [ring_length] at this; omega)
@[simp] theorem toInt_bl (b : Bool) (st : Sto) : bltRun .toInt [.bl b] st = .ok (.int (if b then 1 else 0)) st := by cases b <;> rfl
theorem b_law_k14 {j1 j2 j3 j4 j5 j6 j7 j8 : Nat} (h1 : S_law_pen (R.call j1)) (h2 : S_law_cell_at (R.call j2)) (h3 : S_law_house (R.call j3)) (h4 : S_law_any_stand (R.call j4)) (h5 : S_law_line (R.call j5)) (h6 : S_law_same (R.call j6)) (h7 : S_off_and_long (R.call j7)) (h8 : S_round_of (R.call j8)) :
    S_law_all (runFn R (f_law_k14 j1 j2 j3 j4 j5 j6 j7 j8)) := by
  intro is his
  rw [run_eq _ _ _ rfl]
  obtain ⟨s', st', ef, o', vs, rfl, rfl, hvs⟩ := for_inv (R := R) (k := .range1) (t := .nm 1) (b := [.asg (.nm 2) (.call j1 [.call j2 [.var 0, .var 1]]), .asg (.nm 3) (.call j3 [.var 2, .bin .add (.int 4) (.blt .toInt [.cmp .eq (.var 1) (.int 0)])]), .fr (.nm 4) .range1 [.int 3] [.asg (.nm 5) (.call j4 [.var 2, .var 3]), .asg (.tup [.nm 6, .tup [.nm 7, .nm 8]]) (.tup [.blt .repr [.tup [.var 3, .var 5]], .call j5 [.var 3, .var 5]]), .asg (.nm 9) (.slc (.var 7) [.var 8] []), .asg (.nm 10) (.mth .index (.var 9) [.blt .min1 [.var 9]]), .asg (.nm 11) (.lst [.tup [.var 8, .blt .len [.var 9]], .blt .tuple [.bin .add (.slc (.var 9) [.var 10] []) (.slc (.var 9) [] [.var 10])]]), .fr (.nm 12) .range1 [.int 2] [.ite (.not (.call j6 [.lst [.call j7 [.var 3, .var 5], .call j8 [.var 3, .var 5]], .var 11])) [.ret (.bl false)] []], .ite (.cmp .ne (.blt .repr [.tup [.var 3, .var 5]]) (.var 6)) [.ret (.bl false)] []]])
    (ds := [.int (max 1 (min (is.length : Int) (4 : Nat)))]) (ls := []) (h := toD) (ys := List.range (max 1 (min is.length 4))) (s := [some (.fro (is.map D.int)), none, none, none, none, none, none, none, none, none, none, none, none]) (st := ⟨[], none⟩)
    (fun _ sl st => ∃ (o : List MO) (vs : List (Option D)), sl = some (.fro (is.map D.int)) :: vs ∧ st = ⟨o, none⟩ ∧ vs.length = 12) (src_cells (by decide)) ⟨[], _, rfl, rfl, rfl⟩ (by
      rintro pre y post sl st hy ⟨o, vs, rfl, rfl, hvs⟩
      obtain ⟨c, ec⟩ := h2 is y ⟨o, none⟩ his
      obtain ⟨a, b, ha, hb, hb2, ep⟩ := h1 c ⟨o, none⟩
      have hp : PenAt (o ++ [.lst [.int a, .int b, .int 0]]) o.length := pen_new ha hb hb2
      obtain ⟨most, m1, m2, em⟩ : ∃ most : Nat, 2 ≤ most ∧ most ≤ 5 ∧ (4 : Int) + (if decide ((y : Int) = 0) = true then 1 else 0) = (most : Int) := by
        by_cases e : y = 0
        · exact ⟨5, by decide, by decide, by simp [e]⟩
        · exact ⟨4, by decide, by decide, by simp [e]⟩
      obtain ⟨h, q1, H, _, hq1, e1⟩ := h3 _ o.length most hp m1 m2
      obtain ⟨o1, ho1⟩ : ∃ o1, o1 = (o ++ [MO.lst [.int a, .int b, .int 0]]).set o.length q1 := ⟨_, rfl⟩
      have hp1 : PenAt o1 o.length := by rw [ho1]; exact hp.set hq1
      match vs, hvs with
      | [v1, v2, v3, v4, v5, v6, v7, v8, v9, v10, v11, v12], _ =>
      obtain ⟨s2, st2, ef2, w4, w5, w6, w7, w8, w9, w10, w11, w12, o2, rfl, rfl, hp2⟩ := for_inv (R := R) (k := .range1) (t := .nm 4) (b := [.asg (.nm 5) (.call j4 [.var 2, .var 3]), .asg (.tup [.nm 6, .tup [.nm 7, .nm 8]]) (.tup [.blt .repr [.tup [.var 3, .var 5]], .call j5 [.var 3, .var 5]]), .asg (.nm 9) (.slc (.var 7) [.var 8] []), .asg (.nm 10) (.mth .index (.var 9) [.blt .min1 [.var 9]]), .asg (.nm 11) (.lst [.tup [.var 8, .blt .len [.var 9]], .blt .tuple [.bin .add (.slc (.var 9) [.var 10] []) (.slc (.var 9) [] [.var 10])]]), .fr (.nm 12) .range1 [.int 2] [.ite (.not (.call j6 [.lst [.call j7 [.var 3, .var 5], .call j8 [.var 3, .var 5]], .var 11])) [.ret (.bl false)] []], .ite (.cmp .ne (.blt .repr [.tup [.var 3, .var 5]]) (.var 6)) [.ret (.bl false)] []])
        (ds := [.int 3]) (ls := []) (h := toD) (ys := List.range 3) (s := [some (.fro (is.map D.int)), some (toD y), some (.loc o.length), some (toD h), v4, v5, v6, v7, v8, v9, v10, v11, v12]) (st := ⟨o1, none⟩)
        (fun _ sl st => ∃ (w4 w5 w6 w7 w8 w9 w10 w11 w12 : Option D) (o2 : List MO), sl = [some (.fro (is.map D.int)), some (toD y), some (.loc o.length), some (toD h), w4, w5, w6, w7, w8, w9, w10, w11, w12] ∧ st = ⟨o2, none⟩ ∧ PenAt o2 o.length) (src_range (n := 3) (by decide)) ⟨_, _, _, _, _, _, _, _, _, _, rfl, rfl, hp1⟩ (by
          rintro pre z post sl st hz ⟨w4, w5, w6, w7, w8, w9, w10, w11, w12, o2, rfl, rfl, hp2⟩
          obtain ⟨x, q2, X, hq2, e2⟩ := h4 o2 o.length h hp2 H
          obtain ⟨o3, ho3⟩ : ∃ o3, o3 = o2.set o.length q2 := ⟨_, rfl⟩
          have en : ∀ d, endC ⟨o2, none⟩ (.ok d ⟨o3, none⟩) = .ok d ⟨o3, none⟩ := fun d => endC_any (by rw [ho3]; simp)
          rw [← ho3] at e2
          obtain ⟨p, off, Rh, hpl⟩ := stand_rho' H X
          have lt := Rh.lt
          have e5 := h5 h x o3 p off H X Rh (by omega)
          have e7 := fun st => h7 h x st p off H X Rh (by omega)
          have e8 := fun st => h8 h x st p off H X Rh (by omega)
          have rb := repr_both H X
          have rl := ring_length h x p off
          obtain ⟨r0, rs, er⟩ : ∃ r0 rs, ringF h x p off = r0 :: rs := by
            cases q : ringF h x p off with
            | nil => rw [q] at rl; simp at rl; omega
            | cons r0 rs => exact ⟨r0, rs, rfl⟩
          have LL : ∀ ys, lstOf (o3 ++ .lst (mapD (orb (beatF h) x p)) :: ys)[o3.length]? = some (mapD (orb (beatF h) x p)) := fun ys => by rw [get_n rfl]; rfl
          have LR : ∀ A ys, lstOf (o3 ++ A :: .lst (mapD (r0 :: rs)) :: ys)[o3.length + 1]? = some (mapD (r0 :: rs)) := fun A ys => by rw [get_nk rfl]; rfl
          have sl1 := slc_loc (e := none) (LL []) (noTs_mapD _) (some (off : Int)) none
          rw [cut_mapD, cut_from] at sl1
          have er2 : (orb (beatF h) x p).drop off = r0 :: rs := er
          rw [er2] at sl1
          have mi := min1_loc (α := Stand) (e := none) (back_pair (back_list back_int) (back_list back_nat)) (by decide) (LR (.lst (mapD (orb (beatF h) x p))) []) (.inl fun _ _ => rfl)
          obtain ⟨k, hk⟩ : ∃ k, idxD (r0 :: rs) (minE (α := Stand) r0 rs) = k := ⟨_, rfl⟩
          have ix : mthRun .index (.loc (o3.length + 1)) [toD (minE (α := Stand) r0 rs)] ⟨o3 ++ [.lst (mapD (orb (beatF h) x p)), .lst (mapD (r0 :: rs))], none⟩ = .ok (.int (k : Int)) ⟨o3 ++ [.lst (mapD (orb (beatF h) x p)), .lst (mapD (r0 :: rs))], none⟩ := by
            rw [← hk]; exact index_loc (α := Stand) (e := none) (LR _ []) (by decide) (minE_mem rs r0)
          have mo := mthOk_lst (e := none) (m := .index) (LR (.lst (mapD (orb (beatF h) x p))) []) (by simp)
          have ln := len_loc (e := none) (LR (.lst (mapD (orb (beatF h) x p))) [])
          have lr : (r0 :: rs).length = p - off := by rw [← er]; exact rl
          rw [mapD_length, lr] at ln
          have s1 := slc_loc (e := none) (LR (.lst (mapD (orb (beatF h) x p))) []) (noTs_mapD _) (some (k : Int)) none
          have s2 := slc_loc (e := none) (LR (.lst (mapD (orb (beatF h) x p))) []) (noTs_mapD _) none (some (k : Int))
          rw [cut_mapD, cut_from] at s1
          rw [cut_mapD, cut_to] at s2
          have ad := add_tl (st := ⟨o3 ++ [.lst (mapD (orb (beatF h) x p)), .lst (mapD (r0 :: rs))], none⟩) (xs := mapD ((r0 :: rs).drop k)) (ys := mapD ((r0 :: rs).take k)) (by
            rw [mapD_length, mapD_length, List.length_drop, List.length_take, lr]
            show _ ≤ 16777216
            omega)
          have tf : turnF (ringF h x p off) = (r0 :: rs).drop k ++ (r0 :: rs).take k := by rw [er]; simp only [turnF, hk]
          obtain ⟨T, hT⟩ : ∃ T, T = turnF (ringF h x p off) := ⟨_, rfl⟩
          rw [← hT] at tf e8
          have e12 : (10 : Nat) ^ 12 = 1000000000000 := by decide
          have tpn : Tiny (dat (off, p - off)) 82 := tiny_pairN (by omega) (by omega)
          have tT : Tiny (dat T) (29160 * 33) := by rw [hT]; exact tiny_turn H X hpl
          have sm : SmW 15 [toD (off, p - off), toD T] (82 + 1 + (29160 * 33 + 1 + 0)) := smW_cons (sm_toD (by decide) tpn) (smW_cons (sm_toD (by decide) tT) smW_nil)
          obtain ⟨o4, ho4⟩ : ∃ o4, o4 = o3 ++ [.lst (mapD (orb (beatF h) x p)), .lst (mapD (r0 :: rs)), .lst [toD (off, p - off), toD T]] := ⟨_, rfl⟩
          have LD : lstOf o4[o3.length + 2]? = some [toD (off, p - off), toD T] := by rw [ho4, get_nk rfl]; rfl
          have sa := same_appW h6 LD sm (by decide)
          have em2 := endC_more (o := o4) (xs := [.lst [toD (off, p - off), toD T]]) (d := .bl true) rfl
          have nt : D.noTs [toD (off, p - off), toD T] = true := by simp
          obtain ⟨sx, stx, ef3, x12, rfl, rfl⟩ := for_inv (R := R) (k := .range1) (t := .nm 12) (b := [.ite (.not (.call j6 [.lst [.call j7 [.var 3, .var 5], .call j8 [.var 3, .var 5]], .var 11])) [.ret (.bl false)] []]) (ds := [.int 2]) (ls := []) (h := toD) (ys := List.range 2) (s := [some (.fro (is.map D.int)), some (toD y), some (.loc o.length), some (toD h), some (toD z), some (toD x), some (.str (dat (h, x)).shown), some (.loc o3.length), some (.int off), some (.loc (o3.length + 1)), some (.int k), some (.loc (o3.length + 2)), w12]) (st := ⟨o4, none⟩)
            (fun _ sl st => ∃ x12, sl = [some (.fro (is.map D.int)), some (toD y), some (.loc o.length), some (toD h), some (toD z), some (toD x), some (.str (dat (h, x)).shown), some (.loc o3.length), some (.int off), some (.loc (o3.length + 1)), some (.int k), some (.loc (o3.length + 2)), x12] ∧ st = ⟨o4, none⟩) (src_range (n := 2) (by decide)) ⟨w12, rfl, rfl⟩ (by
              rintro pre u post sl st hu ⟨x12, rfl, rfl⟩
              refine ⟨_, [some (.fro (is.map D.int)), some (toD y), some (.loc o.length), some (toD h), some (toD z), some (toD x), some (.str (dat (h, x)).shown), some (.loc o3.length), some (.int off), some (.loc (o3.length + 1)), some (.int k), some (.loc (o3.length + 2)), some (toD u)], ⟨o4, none⟩, set_nm _ _ _, ?_, by simp [stays], _, rfl, rfl⟩
              simp [e7, e8, stl_tl, nt, sa, em2])
          refine ⟨_, [some (.fro (is.map D.int)), some (toD y), some (.loc o.length), some (toD h), some (toD z), some (toD x), some (.str (dat (h, x)).shown), some (.loc o3.length), some (.int off), some (.loc (o3.length + 1)), some (.int k), some (.loc (o3.length + 2)), x12], ⟨o4, none⟩, set_nm _ _ _, ?_, by simp [stays], _, _, _, _, _, _, _, _, _, _, rfl, rfl, by rw [ho4, ho3]; exact (hp2.set hq2).app _⟩
          simp only [toD_nat] at ef3
          rw [ho4] at ef3 ⊢
          have pp : ∀ st, Res.ok (D.tup [.int (off : Int), .int ((p - off : Nat) : Int)]) st = .ok (toD (off, p - off)) st := fun _ => rfl
          simp [e2, en, rb, e5, stl_not, settle_tup, settle_tl, settle_str, settle_int, settles_nil, settles_cons, settles_mapD, sl1, mi, mo, ix, ln, s1, s2, ad, pp, ← tf, settle_toD, ef3, same_ne (tiny_both H X)])
      refine ⟨_, [some (.fro (is.map D.int)), some (toD y), some (.loc o.length), some (toD h), w4, w5, w6, w7, w8, w9, w10, w11, w12], ⟨o2, none⟩, set_nm _ _ _, ?_, by simp [stays], _, _, rfl, rfl, rfl⟩
      rw [← ho1] at e1
      have en : ∀ d, endC ⟨o ++ [MO.lst [.int a, .int b, .int 0]], none⟩ (.ok d ⟨o1, none⟩) = .ok d ⟨o1, none⟩ := fun d => endC_any (by rw [ho1]; simp)
      simp at ef2
      rw [← em] at e1
      simp at e1
      simp [ec, ep, stl_tl, e1, en, ef2])
  simp at ef
  refine ⟨⟨[], none⟩, ?_⟩
  simp [f_law_k14, ef]
  exact finS_v (o := []) rfl
end
end DV
set_option linter.all false
set_option autoImplicit false
set_option maxRecDepth 100000
/-! QA: two houses that go at once. -/
namespace DV
open PySem (Str PyData)
open Enc
section
variable {R : Env}
/-- a for that may be left by a return -/
theorem forL_first {α : Type} {t : Tg} {b : Slots → Sto → SRes} {ls : List Nat} {h : α → D} {st : Sto} (I : Slots → Prop) (c : α → Bool) (v : α → D) : ∀ (ys : List α) (s : Slots), I s →
    (∀ y ∈ ys, ∀ s, I s → ∃ s1, setTo t (h y) s = some s1 ∧ ((c y = true ∧ b s1 st = .ret (v y) st) ∨ (c y = false ∧ ∃ s2, b s1 st = .nxt s2 st ∧ I s2))) →
    (∃ y, ys.find? c = some y ∧ forL t b ls (ys.map h) s st = .ret (v y) st) ∨ (ys.find? c = none ∧ ∃ s', forL t b ls (ys.map h) s st = .nxt s' st ∧ I s')
  | [], s, h0, _ => .inr ⟨rfl, s, rfl, h0⟩
  | y :: ys, s, h0, H => by
    obtain ⟨s1, e1, q⟩ := H y (by simp) s h0
    rcases q with ⟨cy, e2⟩ | ⟨cy, s2, e2, h2⟩
    · refine .inl ⟨y, by simp [List.find?_cons, cy], ?_⟩
      simp only [List.map_cons, forL, e1, e2]
    · rcases forL_first I c v ys s2 h2 (fun z hz => H z (by simp [hz])) with ⟨z, e3, e4⟩ | ⟨e3, s', e4, h'⟩
      · refine .inl ⟨z, by simp [List.find?_cons, cy, e3], ?_⟩
        simp only [List.map_cons, forL, e1, e2, stays_self, if_true]
        exact e4
      · refine .inr ⟨by simp [List.find?_cons, cy, e3], s', ?_, h'⟩
        simp only [List.map_cons, forL, e1, e2, stays_self, if_true]
        exact e4
theorem for_first {α : Type} {k : SrcK} {t : Tg} {b : List St} {ds : List D} {ls : List Nat} {h : α → D} {ys : List α} {s : Slots} {st : Sto} (I : Slots → Prop) (c : α → Bool) (v : α → D) (hs : srcItems k ds st = some (ys.map h, ls)) (h0 : I s)
    (H : ∀ y ∈ ys, ∀ s, I s → ∃ s1, setTo t (h y) s = some s1 ∧ ((c y = true ∧ evSs R b s1 st = .ret (v y) st) ∨ (c y = false ∧ ∃ s2, evSs R b s1 st = .nxt s2 st ∧ I s2))) :
    (∃ y, ys.find? c = some y ∧ frE R k t b s ds st = .ret (v y) st) ∨ (ys.find? c = none ∧ ∃ s', frE R k t b s ds st = .nxt s' st ∧ I s') := by
  simp only [frE, frR, hs]
  exact forL_first I c v ys s h0 H
/-- the seat that is bare behind i beats -/
def bareAt (h : House) (s : Stand) (i : Nat) : Nat := bareF (iter (beatF h) i s).1
def S_heard_at (g : Run) : Prop := ∀ (h : House) (s : Stand) (o : List MO) (l p off m : Nat), HouseOk h → StandOk h s → Rho (beatF h) s p off → lstOf o[l]? = some (mapD (orb (beatF h) s p)) → g [.tup [.loc l, .int off], .int m] ⟨o, none⟩ = .ok (.int (bareAt h s m)) ⟨o, none⟩
theorem b_heard_at {i : Nat} (h1 : S_bare_of (R.call i)) : S_heard_at (runFn R (f_heard_at i)) := by
  intro h s o l p off m H S Rh L
  rw [run_eq _ _ _ rfl]
  have lt := Rh.lt
  have ln := len_loc (e := none) L
  have X := iter_ok H S m
  have e1 := fun st => h1 (iter (beatF h) m s).1 st (X.bare H).1
  have nt : ∀ st, stl (.tup [.loc l, .int (off : Int)]) st = (.tup [.loc l, .int (off : Int)], st) := fun st => stlNoT st (by simp)
  have nt2 : ∀ t st, stl (toD (t : Stand)) st = (toD t, st) := fun t st => stlNoT st (noT_toD _)
  by_cases c : m < off
  · have ci : (m : Int) < (off : Int) := by omega
    have ix := idx_loc (e := none) L (m : Int)
    rw [atIx_nat, mapD_get, orb_get (by omega)] at ix
    simp only [Option.map_some, optR_some] at ix
    simp [f_heard_at, nt, ci, ix, e1, nt2]
    exact finS_objs (st := ⟨o, none⟩) (pure_int _)
  · have md : ∀ st, binop .mod (.int ((m : Int) - (off : Int))) (.int ((p : Int) - (off : Int))) st = .ok (.int (((m - off) % (p - off) : Nat) : Int)) st := fun st => by
      rw [mod_int (by omega), show (m : Int) - (off : Int) = ((m - off : Nat) : Int) by omega, show (p : Int) - (off : Int) = ((p - off : Nat) : Int) by omega]
      rfl
    have lt2 : (m - off) % (p - off) < p - off := Nat.mod_lt _ (by omega)
    have fr := Rh.far (show off ≤ m by omega)
    have ci : ¬ (m : Int) < (off : Int) := by omega
    have ix4 : opIdx (.loc l) (.int ((off : Int) + ((m - off : Nat) : Int) % ((p - off : Nat) : Int))) ⟨o, none⟩ = .ok (toD (iter (beatF h) m s)) ⟨o, none⟩ := by
      rw [show ((off : Int) + ((m - off : Nat) : Int) % ((p - off : Nat) : Int)) = ((off + (m - off) % (p - off) : Nat) : Int) by rw [Int.natCast_add, Int.natCast_emod], idx_loc L, atIx_nat, mapD_get, orb_get (by omega), fr]
      rfl
    simp [f_heard_at, nt, ci, ln, md, ix4, e1, nt2]
    exact finS_objs (st := ⟨o, none⟩) (pure_int _)
/-- behind how many beats unlike, among the first many -/
def partedD (h : House) (s : Stand) (h' : House) (s' : Stand) (M : Nat) : D := match (List.range M).find? (fun i => !decide (bareAt h s i = bareAt h' s' i)) with
  | some i => .int (i : Int)
  | none => .non
def S_parted (g : Run) : Prop := ∀ (h : House) (s : Stand) (h' : House) (s' : Stand) (o : List MO) (p off p' off' : Nat), HouseOk h → StandOk h s → HouseOk h' → StandOk h' s' → Rho (beatF h) s p off → Rho (beatF h') s' p' off' → p ≤ 759375 → p' ≤ 759375 →
  g [toD h, toD s, toD h', toD s'] ⟨o, none⟩ = .ok (partedD h s h' s' (max off off' + p + p')) ⟨o, none⟩
theorem b_parted {i j k c : Nat} (h1 : S_need_stand c (R.call i)) (h2 : S_way_of (R.call j)) (h3 : S_heard_at (R.call k)) : S_parted (runFn R (f_parted i j k)) := by
  intro h s h' s' o p off p' off' H S H' S' Rh Rh' hp hp'
  rw [run_eq _ _ _ rfl]
  have e1 := fun st => h2 h s st p off H S Rh hp
  have e2 := fun st => h2 h' s' st p' off' H' S' Rh' hp'
  have lt := Rh.lt
  have lt' := Rh'.lt
  obtain ⟨o1, ho1⟩ : ∃ o1, o1 = o ++ [MO.lst (mapD (orb (beatF h) s p)), .lst (mapD (orb (beatF h') s' p'))] := ⟨_, rfl⟩
  have L1 : lstOf o1[o.length]? = some (mapD (orb (beatF h) s p)) := by rw [ho1, get_n rfl]; rfl
  have L2 : lstOf o1[o.length + 1]? = some (mapD (orb (beatF h') s' p')) := by rw [ho1, get_nk rfl]; rfl
  have n1 := len_loc (e := none) L1
  have n2 := len_loc (e := none) L2
  have a1 : ∀ (x y : D), atIx [x, y] 0 = some x := fun _ _ => rfl
  have a2 : ∀ (x y : D), atIx [x, y] 1 = some y := fun _ _ => rfl
  have src : srcItems .range1 [.int (max (off : Int) (off' : Int) + (p : Int) + (p' : Int))] ⟨o1, none⟩ = some ((List.range (max off off' + p + p')).map toD, []) := by
    rw [show max (off : Int) (off' : Int) + (p : Int) + (p' : Int) = ((max off off' + p + p' : Nat) : Int) by omega]
    exact src_range (by omega)
  have fl := for_first (R := R) (k := .range1) (t := .nm 6) (b := [.ite (.cmp .ne (.call k [.var 4, .var 6]) (.call k [.var 5, .var 6])) [.ret (.var 6)] []]) (s := [some (toD h), some (toD s), some (toD h'), some (toD s'), some (.tup [.loc o.length, .int off]), some (.tup [.loc (o.length + 1), .int off']), none]) (st := ⟨o1, none⟩)
    (fun sl => ∃ a, sl = [some (toD h), some (toD s), some (toD h'), some (toD s'), some (.tup [.loc o.length, .int off]), some (.tup [.loc (o.length + 1), .int off']), a]) (fun i => !decide (bareAt h s i = bareAt h' s' i)) (fun i : Nat => .int (i : Int)) src ⟨none, rfl⟩ (by
      rintro y hy sl ⟨a, rfl⟩
      have e3 := h3 h s o1 o.length p off y H S Rh L1
      have e4 := h3 h' s' o1 (o.length + 1) p' off' y H' S' Rh' L2
      have nt1 : ∀ st, stl (.tup [.loc o.length, .int (off : Int)]) st = (.tup [.loc o.length, .int (off : Int)], st) := fun st => stlNoT st (by simp)
      have nt2 : ∀ st, stl (.tup [.loc (o.length + 1), .int (off' : Int)]) st = (.tup [.loc (o.length + 1), .int (off' : Int)], st) := fun st => stlNoT st (by simp)
      refine ⟨_, set_nm _ _ _, ?_⟩
      by_cases q : bareAt h s y = bareAt h' s' y
      · have qi : (bareAt h s y : Int) = (bareAt h' s' y : Int) := by omega
        exact .inr ⟨by simp [q], [some (toD h), some (toD s), some (toD h'), some (toD s'), some (.tup [.loc o.length, .int off]), some (.tup [.loc (o.length + 1), .int off']), some (toD y)], by simp [nt1, nt2, e3, e4, q], _, rfl⟩
      · have qi : ¬ (bareAt h s y : Int) = (bareAt h' s' y : Int) := by omega
        exact .inl ⟨by simp [q], by simp [nt1, nt2, e3, e4, qi]⟩)
  have st2 : ∀ e, stl (.tup [.tup [.tl (mapD (orb (beatF h) s p)), .int (off : Int)], .tup [.tl (mapD (orb (beatF h') s' p')), .int (off' : Int)]]) ⟨o, e⟩ = (.tup [.tup [.loc o.length, .int off], .tup [.loc (o.length + 1), .int off']], ⟨o1, e⟩) := fun e => by
    rw [stl_not _ (by simp), ho1]
    simp [settle_tup, settle_tl, settle_int, settles_nil, settles_cons, settles_mapD]
  rcases fl with ⟨y, f1, f2⟩ | ⟨f1, s2, f2, _, rfl⟩
  · have pd : partedD h s h' s' (max off off' + p + p') = .int (y : Int) := by unfold partedD; rw [f1]
    rw [pd]
    simp [f_parted, need_ok h1 H S, need_ok h1 H' S', e1, e2, st2, a1, a2, n1, n2, f2]
    rw [ho1]
    exact finS_v rfl
  · have pd : partedD h s h' s' (max off off' + p + p') = .non := by unfold partedD; rw [f1]
    rw [pd]
    simp [f_parted, need_ok h1 H S, need_ok h1 H' S', e1, e2, st2, a1, a2, n1, n2, f2]
    rw [ho1]
    exact finS_v rfl
def S_law_heard_row (g : Run) : Prop := ∀ (h : House) (s : Stand) (o : List MO) (m : Nat), HouseOk h → StandOk h s → m ≤ 3000000 → g [toD h, toD s, .int m] ⟨o, none⟩ = .ok (.tl (mapD ((List.range m).map (bareAt h s)))) ⟨o, none⟩
theorem b_law_heard_row {i j : Nat} (h1 : S_law_bare (R.call i)) (h2 : S_law_beat (R.call j)) : S_law_heard_row (runFn R (f_law_heard_row i j)) := by
  intro h s o m H S hm
  rw [run_eq _ _ _ rfl]
  obtain ⟨s', st', ef, a, rfl, rfl⟩ := for_inv (R := R) (k := .range1) (t := .nm 4) (b := [.ex (.mth .append (.var 3) [.call i [.var 1]]), .asg (.nm 1) (.call j [.var 0, .var 1])]) (ds := [.int (m : Int)]) (ls := []) (h := toD) (ys := List.range m) (s := [some (toD h), some (toD s), some (.int m), some (.loc o.length), none]) (st := ⟨o ++ [.lst []], none⟩)
    (fun done sl st => ∃ a, sl = [some (toD h), some (toD (iter (beatF h) done.length s)), some (.int m), some (.loc o.length), a] ∧ st = ⟨o ++ [.lst (mapD ((List.range done.length).map (bareAt h s)))], none⟩) (src_range (by omega)) ⟨none, rfl, rfl⟩ (by
      rintro pre y post sl st hy ⟨a, rfl, rfl⟩
      have hle : pre.length < m := by
        have := congrArg List.length hy
        simp at this
        omega
      have X := iter_ok H S pre.length
      have e1 := fun st => h1 h (iter (beatF h) pre.length s) st H X
      have e2 := fun o => h2 h (iter (beatF h) pre.length s) o H X
      have L : lstOf (o ++ [MO.lst (mapD ((List.range pre.length).map (bareAt h s)))])[o.length]? = some (mapD ((List.range pre.length).map (bareAt h s))) := by rw [get_n rfl]; rfl
      have ap := append_loc (e := none) (x := toD (bareAt h s pre.length)) L (by rw [mapD_length, List.length_map, List.length_range]; show pre.length < 16777216; omega) (noT_toD _) (noL_toD _)
      have rs : (List.range (pre.length + 1)).map (bareAt h s) = (List.range pre.length).map (bareAt h s) ++ [bareAt h s pre.length] := by simp [List.range_succ]
      rw [set_n rfl, mapD_snoc, ← rs] at ap
      have mo := mthOk_lst (e := none) (m := .append) L (by simp)
      refine ⟨_, [some (toD h), some (toD (iter (beatF h) (pre.length + 1) s)), some (.int m), some (.loc o.length), some (toD y)], ⟨o ++ [.lst (mapD ((List.range (pre.length + 1)).map (bareAt h s)))], none⟩, set_nm _ _ _, ?_, by simp [stays], some (toD y), by simp, by simp⟩
      have ba : bareF (iter (beatF h) pre.length s).1 = bareAt h s pre.length := rfl
      simp only [toD_nat, List.set_cons_zero] at ap
      rw [iter_succ]
      simp [mo, e1, ba, ap, e2])
  rw [List.length_range] at ef
  simp [f_law_heard_row, ef]
  exact finS_loc0 (st := ⟨o, none⟩) rfl (noLs_mapD _)
end
end DV
set_option linter.all false
set_option autoImplicit false
set_option maxRecDepth 100000
/-! QB: the law's own following of two houses. -/
namespace DV
open PySem (Str PyData)
open Enc
section
variable {R : Env}
theorem src_zip_loc {α β : Type} [Enc α] [Enc β] {o : List MO} {e : Option Nat} {l m : Nat} {xs : List α} {ys : List β} (h : lstOf o[l]? = some (mapD xs)) (h2 : lstOf o[m]? = some (mapD ys)) : srcItems .zip [.loc l, .loc m] ⟨o, e⟩ = some ((xs.zip ys).map toD, [l, m]) := by
  simp only [srcItems, seqL, seq_loc, h, h2]
  simp only [D.isTup, if_true, zipD, Option.some.injEq, Prod.mk.injEq]
  refine ⟨?_, rfl⟩
  rw [mapD, mapD, List.zip_map, List.map_map]
  rfl
theorem find_idx (p : Nat → Bool) : ∀ (M k : Nat), (List.range' k M).find? p = if true ∈ (List.range' k M).map p then some (k + ((List.range' k M).map p).idxOf true) else none
  | 0, k => by simp
  | M + 1, k => by
    rw [List.range'_succ, List.find?_cons, List.map_cons, List.idxOf_cons]
    cases q : p k with
    | true => simp
    | false =>
      simp only [find_idx p M (k + 1), List.mem_cons, Bool.true_eq_false, false_or]
      by_cases c : true ∈ (List.range' (k + 1) M).map p
      · rw [if_pos c, if_pos c]; simp; omega
      · rw [if_neg c, if_neg c]
/-- which of the first beats are heard unlike -/
def unlike (h : House) (s : Stand) (h' : House) (s' : Stand) (M : Nat) : List Bool := (List.range M).map fun i => !decide (bareAt h s i = bareAt h' s' i)
theorem parted_eq (h : House) (s : Stand) (h' : House) (s' : Stand) (M : Nat) : partedD h s h' s' M = if true ∈ unlike h s h' s' M then .int (((unlike h s h' s' M).idxOf true : Nat) : Int) else .non := by
  unfold partedD unlike
  rw [List.range_eq_range', find_idx]
  split <;> rename_i q <;> split at q <;> simp_all
def S_law_due_2 (g : Run) : Prop := ∀ (h : House) (s : Stand) (h' : House) (s' : Stand) (o : List MO) (p off p' off' : Nat), HouseOk h → StandOk h s → HouseOk h' → StandOk h' s' → Rho (beatF h) s p off → Rho (beatF h') s' p' off' → p ≤ 759375 → p' ≤ 759375 →
  g [toD h, toD s, toD h', toD s'] ⟨o, none⟩ = .ok (partedD h s h' s' (max off off' + p + p')) ⟨o, none⟩
theorem b_law_due_2 {i j : Nat} (h1 : S_law_line (R.call i)) (h2 : S_law_heard_row (R.call j)) : S_law_due_2 (runFn R (f_law_due_2 i j)) := by
  intro h s h' s' o p off p' off' H S H' S' Rh Rh' hp hp'
  rw [run_eq _ _ _ rfl]
  have e1 := fun o => h1 h s o p off H S Rh hp
  have e2 := fun o => h1 h' s' o p' off' H' S' Rh' hp'
  have lt := Rh.lt
  have lt' := Rh'.lt
  obtain ⟨M, hM⟩ : ∃ M, M = max off off' + p + p' := ⟨_, rfl⟩
  have M3 : M ≤ 3000000 := by omega
  have e3 := fun o => h2 h s o M H S M3
  have e4 := fun o => h2 h' s' o M H' S' M3
  obtain ⟨o1, ho1⟩ : ∃ o1, o1 = o ++ [MO.lst (mapD (orb (beatF h) s p)), .lst (mapD (orb (beatF h') s' p'))] := ⟨_, rfl⟩
  have L1 : lstOf o1[o.length]? = some (mapD (orb (beatF h) s p)) := by rw [ho1, get_n rfl]; rfl
  have L2 : lstOf o1[o.length + 1]? = some (mapD (orb (beatF h') s' p')) := by rw [ho1, get_nk rfl]; rfl
  have n1 := len_loc (e := none) L1
  have n2 := len_loc (e := none) L2
  obtain ⟨o2, ho2⟩ : ∃ o2, o2 = o1 ++ [MO.lst (mapD ((List.range M).map (bareAt h s))), .lst (mapD ((List.range M).map (bareAt h' s'))), .lst [.loc o1.length, .loc (o1.length + 1)]] := ⟨_, rfl⟩
  have L3 : lstOf o2[o1.length]? = some (mapD ((List.range M).map (bareAt h s))) := by rw [ho2, get_n rfl]; rfl
  have L4 : lstOf o2[o1.length + 1]? = some (mapD ((List.range M).map (bareAt h' s'))) := by rw [ho2, get_nk rfl]; rfl
  have L5 : lstOf o2[o1.length + 2]? = some [.loc o1.length, .loc (o1.length + 1)] := by rw [ho2, get_nk rfl]; rfl
  have i0 : opIdx (.loc (o1.length + 2)) (.int 0) ⟨o2, none⟩ = .ok (.loc o1.length) ⟨o2, none⟩ := by rw [idx_loc L5]; rfl
  have i1 : opIdx (.loc (o1.length + 2)) (.int 1) ⟨o2, none⟩ = .ok (.loc (o1.length + 1)) ⟨o2, none⟩ := by rw [idx_loc L5]; rfl
  have zs := src_zip_loc (e := none) L3 L4
  rw [zip_maps, List.map_map] at zs
  have cm := compE_map (R := R) (e := .cmp .ne (.var 11) (.var 12)) (t := .tup [.nm 11, .nm 12]) (s := [some (toD h), some (toD s), some (toD h'), some (toD s'), some (.loc o.length), some (.int off), some (.loc (o.length + 1)), some (.int off'), some (.int M), some (.loc (o1.length + 2)), none, none, none]) (st := ⟨o2, none⟩) (fun i => toD (!decide (bareAt h s i = bareAt h' s' i))) zs (by rw [List.length_range]; show M ≤ 16777216; omega) (fun y _ => ⟨_, rfl, by
    simp [Int.ofNat_inj]⟩)
  have um : (List.range M).map (fun i => toD (!decide (bareAt h s i = bareAt h' s' i))) = mapD (unlike h s h' s' M) := by simp [mapD, unlike, List.map_map, Function.comp_def]
  rw [um] at cm
  have wi : wipeD [some (toD h), some (toD s), some (toD h'), some (toD s'), some (.loc o.length), some (.int off), some (.loc (o.length + 1)), some (.int off'), some (.int M), some (.loc (o1.length + 2)), none, none, none] [11, 12] = [some (toD h), some (toD s), some (toD h'), some (toD s'), some (.loc o.length), some (.int off), some (.loc (o.length + 1)), some (.int off'), some (.int M), some (.loc (o1.length + 2)), none, none, none] := rfl
  obtain ⟨o3, ho3⟩ : ∃ o3, o3 = o2 ++ [MO.lst (mapD (unlike h s h' s' M))] := ⟨_, rfl⟩
  have L6 : lstOf o3[o2.length]? = some (mapD (unlike h s h' s' M)) := by rw [ho3, get_n rfl]; rfl
  have inn := in_loc (e := none) L6 (by decide) true
  simp only [toD_bool] at inn
  have mo := mthOk_lst (e := none) (m := .index) L6 (by simp)
  have ex : o3 = o ++ ([MO.lst (mapD (orb (beatF h) s p)), .lst (mapD (orb (beatF h') s' p')), MO.lst (mapD ((List.range M).map (bareAt h s))), .lst (mapD ((List.range M).map (bareAt h' s'))), .lst [.loc o1.length, .loc (o1.length + 1)], MO.lst (mapD (unlike h s h' s' M))]) := by rw [ho3, ho2, ho1]; simp
  have ma : max (off : Int) (off' : Int) + (p : Int) + (p' : Int) = (M : Int) := by omega
  rw [← hM, parted_eq]
  by_cases c : true ∈ unlike h s h' s' M
  · have ix := index_loc (e := none) L6 (by decide) c
    rw [if_pos c]
    simp only [toD_bool] at ix
    simp [f_law_due_2, e1, e2, stl_not, settle_tup, settle_tl, settle_int, settles_nil, settles_cons, settles_mapD, ← ho1, n1, n2, ma, e3, e4, ← ho2, i0, i1, wi, cm, ← ho3, inn, c, mo, ix]
    rw [ex]
    exact finS_v rfl
  · rw [if_neg c]
    simp [f_law_due_2, e1, e2, stl_not, settle_tup, settle_tl, settle_int, settles_nil, settles_cons, settles_mapD, ← ho1, n1, n2, ma, e3, e4, ← ho2, i0, i1, wi, cm, ← ho3, inn, c]
    rw [ex]
    exact finS_v rfl
end
end DV
set_option linter.all false
set_option autoImplicit false
set_option maxRecDepth 100000
/-! K30: houses that part late, and great ones. -/
namespace DV
open PySem (Str PyData)
open Enc
section
variable {R : Env}
def orD : Option Nat → D
  | none => .non
  | some i => .int (i : Int)
theorem orD_noT (r : Option Nat) : (orD r).noT = true := by cases r <;> rfl
theorem orD_noL (r : Option Nat) : (orD r).noL = true := by cases r <;> rfl
theorem partedD_or (h : House) (s : Stand) (h' : House) (s' : Stand) (M : Nat) : ∃ r : Option Nat, partedD h s h' s' M = orD r ∧ ∀ i, r = some i → i < M := by
  unfold partedD
  cases q : (List.range M).find? (fun i => !decide (bareAt h s i = bareAt h' s' i)) with
  | none => exact ⟨none, rfl, fun i e => by cases e⟩
  | some i =>
    refine ⟨some i, rfl, fun j e => ?_⟩
    cases e
    exact List.mem_range.mp (List.mem_of_find?_eq_some q)
/-! what is compared by its text -/
def datO : Option Nat → PyData
  | none => .none
  | some i => .int (i : Int)
theorem tiny_or {r : Option Nat} (h : ∀ i, r = some i → i < 100000) : Tiny (datO r) 40 := by
  cases r with
  | none => exact ⟨rfl, by simp [datO, PyData.weight]⟩
  | some i => exact tiny_int (i := (i : Int)) (by have := h i rfl; have e : (10 : Nat) ^ 12 = 1000000000000 := by decide
                                                  omega)
theorem repr_or {r : Option Nat} (h : ∀ i, r = some i → i < 100000) (st : Sto) : bltRun .repr [orD r] st = .ok (.str (datO r).shown) st := by
  cases r with
  | none => rfl
  | some i =>
    have hi := h i rfl
    have z : (((i : Int)).natAbs.log2 < 1920) := by
      by_cases c : i = 0
      · subst c; decide
      · have h3 : i < 2 ^ 40 := Nat.lt_trans hi (by decide)
        have := (Nat.log2_lt c).mpr h3
        show i.log2 < 1920
        omega
    have q : (⟨st.objs, st.esc⟩ : Sto).seq (.int (i : Int)) = none := rfl
    show (if ((i : Int)).natAbs.log2 < 1920 then Res.ok (D.str (PyData.int (i : Int)).shown) st else .bad) = _
    rw [if_pos z]
    rfl
def S_law_same_v (g : Run) : Prop := ∀ (r : Option Nat) (o : List MO), (∀ i, r = some i → i < 100000) → g [orD r, orD r] ⟨o, none⟩ = .ok (.bl true) ⟨o, none⟩
theorem b_law_same_v : S_law_same_v (runFn R f_law_same) := by
  intro r o h
  rw [run_eq _ _ _ rfl]
  have rp := repr_or h
  have t := tiny_or h
  have q := fun st => eq_str (st := st) (ok_shown (datO r) t.1) (ok_shown (datO r) t.1)
  simp at q
  simp [f_law_same, rp, q]
  exact finS_objs (st := ⟨o, none⟩) rfl
/-! houses and stands by hand -/
theorem standOk_of {h : House} {s : Stand} (h1 : s.1.Perm (rangeI (-1) h.length)) (h2 : s.2.length = h.length) (h3 : (s.2.zip h).all (fun p => decide (p.1 < p.2.length)) = true) : StandOk h s := by
  refine ⟨h1, h2, fun i hi hj => ?_⟩
  rw [List.all_eq_true] at h3
  have m : (s.2[i], h[i]) ∈ s.2.zip h := by
    have hz : i < (s.2.zip h).length := by rw [List.length_zip]; omega
    have := List.getElem_mem hz
    rwa [List.getElem_zip] at this
  have := h3 _ m
  simpa using this
theorem houseOk_of {h : House} (h1 : (decide (2 ≤ h.length) && (decide (h.length ≤ 5) && h.all fun l => decide (1 ≤ l.length) && (decide (l.length ≤ 3) && l.all fun n => decide (0 ≤ n) && decide (n ≤ (h.length : Int) - 2)))) = true) : HouseOk h := by
  simp only [Bool.and_eq_true, decide_eq_true_eq, List.all_eq_true] at h1
  exact ⟨⟨h1.1, h1.2.1⟩, fun l hl => ⟨(h1.2.2 l hl).1, (h1.2.2 l hl).2.1⟩, fun l hl n hn => (h1.2.2 l hl).2.2 n hn⟩
theorem rho_of {h : House} {s : Stand} {p off : Nat} (h1 : off < p) (h2 : iter (beatF h) p s = iter (beatF h) off s) (h3 : (orb (beatF h) s p).Nodup) : Rho (beatF h) s p off := by
  refine ⟨h1, h2, fun i j hi hj e => ?_⟩
  have a := orb_get (f := beatF h) (s := s) hi
  have b := orb_get (f := beatF h) (s := s) hj
  have la : i < (orb (beatF h) s p).length := by simpa using hi
  have lb : j < (orb (beatF h) s p).length := by simpa using hj
  rw [List.getElem?_eq_getElem la] at a
  rw [List.getElem?_eq_getElem lb] at b
  exact (List.getElem_inj h3).mp (show (orb (beatF h) s p)[i]'la = (orb (beatF h) s p)[j]'lb by rw [Option.some.inj a, Option.some.inj b, e])
/-- two houses, their stands, and when they part -/
structure Part (h : House) (s : Stand) (h' : House) (s' : Stand) (r : Option Nat) : Prop where
  H : HouseOk h
  S : StandOk h s
  H' : HouseOk h'
  S' : StandOk h' s'
  ex : ∃ p off p' off', Rho (beatF h) s p off ∧ Rho (beatF h') s' p' off' ∧ p ≤ 759375 ∧ p' ≤ 759375 ∧ partedD h s h' s' (max off off' + p + p') = orD r
  sm : ∀ i, r = some i → i < 100000
theorem Part.run {h : House} {s : Stand} {h' : House} {s' : Stand} {r : Option Nat} (P : Part h s h' s' r) {g : Run} (G : S_parted g) (o : List MO) : g [toD h, toD s, toD h', toD s'] ⟨o, none⟩ = .ok (orD r) ⟨o, none⟩ := by
  obtain ⟨p, off, p', off', R1, R2, l1, l2, e⟩ := P.ex
  rw [← e]
  exact G h s h' s' o p off p' off' P.H P.S P.H' P.S' R1 R2 l1 l2
def plan30 : House := [[0, 1], [0], [1]]
def sits30 : List Int := [-1, 0, 1]
def zero30 : List Nat := [0, 0, 0]
def row30 (x : House × List Nat × Option Nat) : D := .tup [toD x.1, toD x.2.1, orD x.2.2]
def rows30 : List (House × List Nat × Option Nat) := [(plan30, [1, 0, 0], some 1), ([[0, 1, 0], [0], [1]], zero30, some 7), ([[0, 1, 1], [0], [1]], zero30, some 5), ([[1, 0], [0], [1]], [1, 0, 0], none), ([[0, 1], [0, 0, 0], [1, 1]], [0, 2, 1], none), ([[0], [0], [1]], zero30, some 3), ([[1], [0], [1]], zero30, some 1), (plan30, zero30, none)]
theorem part_of {h : House} {s : Stand} {h' : House} {s' : Stand} {r : Option Nat} (p p' : Nat) (a1 : (decide (2 ≤ h.length) && (decide (h.length ≤ 5) && h.all fun l => decide (1 ≤ l.length) && (decide (l.length ≤ 3) && l.all fun n => decide (0 ≤ n) && decide (n ≤ (h.length : Int) - 2)))) = true)
    (a2 : (decide (2 ≤ h'.length) && (decide (h'.length ≤ 5) && h'.all fun l => decide (1 ≤ l.length) && (decide (l.length ≤ 3) && l.all fun n => decide (0 ≤ n) && decide (n ≤ (h'.length : Int) - 2)))) = true)
    (b1 : s.1.Perm (rangeI (-1) h.length) ∧ s.2.length = h.length ∧ (s.2.zip h).all (fun p => decide (p.1 < p.2.length)) = true) (b2 : s'.1.Perm (rangeI (-1) h'.length) ∧ s'.2.length = h'.length ∧ (s'.2.zip h').all (fun p => decide (p.1 < p.2.length)) = true)
    (c1 : 0 < p ∧ iter (beatF h) p s = s ∧ (orb (beatF h) s p).Nodup) (c2 : 0 < p' ∧ iter (beatF h') p' s' = s' ∧ (orb (beatF h') s' p').Nodup) (l : p ≤ 1000 ∧ p' ≤ 1000)
    (d : partedD h s h' s' (max 0 0 + p + p') = orD r) (sm : ∀ i, r = some i → i < 100000) : Part h s h' s' r :=
  ⟨houseOk_of a1, standOk_of b1.1 b1.2.1 b1.2.2, houseOk_of a2, standOk_of b2.1 b2.2.1 b2.2.2, ⟨p, 0, p', 0, rho_of c1.1 c1.2.1 c1.2.2, rho_of c2.1 c2.2.1 c2.2.2, by omega, by omega, d⟩, sm⟩
theorem parts30 : ∀ x ∈ rows30, Part plan30 (sits30, zero30) x.1 (sits30, x.2.1) x.2.2 ∧ Part x.1 (sits30, x.2.1) plan30 (sits30, zero30) x.2.2 := by
  have one : ∀ (h' : House) (k : List Nat) (r : Option Nat) (p : Nat), (decide (2 ≤ h'.length) && (decide (h'.length ≤ 5) && h'.all fun l => decide (1 ≤ l.length) && (decide (l.length ≤ 3) && l.all fun n => decide (0 ≤ n) && decide (n ≤ (h'.length : Int) - 2)))) = true →
      (sits30.Perm (rangeI (-1) h'.length) ∧ k.length = h'.length ∧ (k.zip h').all (fun p => decide (p.1 < p.2.length)) = true) → (0 < p ∧ iter (beatF h') p (sits30, k) = (sits30, k) ∧ (orb (beatF h') (sits30, k) p).Nodup) → p ≤ 1000 → partedD plan30 (sits30, zero30) h' (sits30, k) (max 0 0 + 4 + p) = orD r → partedD h' (sits30, k) plan30 (sits30, zero30) (max 0 0 + p + 4) = orD r → (∀ i, r = some i → i < 100000) →
      Part plan30 (sits30, zero30) h' (sits30, k) r ∧ Part h' (sits30, k) plan30 (sits30, zero30) r := fun h' k r p a b c l d1 d2 sm => by
    have pl : (0 < 4 ∧ iter (beatF plan30) 4 (sits30, zero30) = (sits30, zero30) ∧ (orb (beatF plan30) (sits30, zero30) 4).Nodup) := by decide +kernel
    exact ⟨part_of 4 p (by decide +kernel) a (by decide +kernel) b pl c ⟨by omega, l⟩ d1 sm, part_of p 4 a (by decide +kernel) b (by decide +kernel) c pl ⟨l, by omega⟩ d2 sm⟩
  intro x hx
  simp only [rows30, List.mem_cons, List.not_mem_nil, or_false] at hx
  rcases hx with rfl | rfl | rfl | rfl | rfl | rfl | rfl | rfl
  · exact one _ _ _ 4 (by decide +kernel) (by decide +kernel) (by decide +kernel) (by omega) (by decide +kernel) (by decide +kernel) (by intro i e; cases e; omega)
  · exact one _ _ _ 6 (by decide +kernel) (by decide +kernel) (by decide +kernel) (by omega) (by decide +kernel) (by decide +kernel) (by intro i e; cases e; omega)
  · exact one _ _ _ 6 (by decide +kernel) (by decide +kernel) (by decide +kernel) (by omega) (by decide +kernel) (by decide +kernel) (by intro i e; cases e; omega)
  · exact one _ _ _ 4 (by decide +kernel) (by decide +kernel) (by decide +kernel) (by omega) (by decide +kernel) (by decide +kernel) (by intro i e; cases e)
  · exact one _ _ _ 24 (by decide +kernel) (by decide +kernel) (by decide +kernel) (by omega) (by decide +kernel) (by decide +kernel) (by intro i e; cases e)
  · exact one _ _ _ 2 (by decide +kernel) (by decide +kernel) (by decide +kernel) (by omega) (by decide +kernel) (by decide +kernel) (by intro i e; cases e; omega)
  · exact one _ _ _ 2 (by decide +kernel) (by decide +kernel) (by decide +kernel) (by omega) (by decide +kernel) (by decide +kernel) (by intro i e; cases e; omega)
  · exact one _ _ _ 4 (by decide +kernel) (by decide +kernel) (by decide +kernel) (by omega) (by decide +kernel) (by decide +kernel) (by intro i e; cases e)
theorem reprL {o : List MO} {d : D} {r : Option Nat} (h : ∀ i, r = some i → i < 100000) (hd : (⟨o, none⟩ : Sto).seq d = some [orD r, orD r]) (h2 : (⟨o, none⟩ : Sto).data d = some (.list [datO r, datO r])) : bltRun .repr [d] ⟨o, none⟩ = .ok (.str (PyData.list [datO r, datO r]).shown) ⟨o, none⟩ := by
  have t : Tiny (.list [datO r, datO r]) (2 * (40 + 1)) := tiny_lst (ps := [datO r, datO r]) fun p hp => by
    simp at hp
    subst hp
    exact tiny_or h
  exact repr_of hd h2 t (by decide)
theorem data_or {o : List MO} {r : Option Nat} (k : Nat) : toP o (k + 1) (orD r) = some (datO r) := by cases r <;> rfl
def S_law_hand_right (g : Run) : Prop := ∀ o, g [] ⟨o, none⟩ = .ok (.bl true) ⟨o, none⟩
theorem b_law_hand_right {i : Nat} (h1 : S_parted (R.call i)) : S_law_hand_right (runFn R (f_law_hand_right i)) := by
  intro o
  rw [run_eq _ _ _ rfl]
  obtain ⟨A3, hA3⟩ : ∃ A3, A3 = (rows30.take 3).map row30 := ⟨_, rfl⟩
  obtain ⟨A2, hA2⟩ : ∃ A2, A2 = ((rows30.drop 3).take 2).map row30 := ⟨_, rfl⟩
  obtain ⟨A8, hA8⟩ : ∃ A8, A8 = (rows30.drop 5).map row30 := ⟨_, rfl⟩
  have all : rows30.map row30 = A3 ++ A2 ++ A8 := by rw [hA3, hA2, hA8]; rfl
  obtain ⟨o3, ho3⟩ : ∃ o3, o3 = o ++ [MO.lst A3] ++ [.lst (A3 ++ A2)] ++ [.lst (A3 ++ A2 ++ A8)] := ⟨_, rfl⟩
  obtain ⟨sx, stx, ef, a3, a4, a5, a6, ys, rfl, rfl⟩ := for_inv (R := R) (k := .seq) (t := .tup [.nm 3, .nm 4, .nm 5]) (b := [.asg (.nm 6) (.lst [.call i [.var 1, .tup [.var 0, .tup [.int 0, .int 0, .int 0]], .var 3, .tup [.var 0, .var 4]]]), .ex (.mth .append (.var 6) [.call i [.var 3, .tup [.var 0, .var 4], .var 1, .tup [.var 0, .tup [.int 0, .int 0, .int 0]]]]), .ite (.cmp .ne (.blt .repr [.var 6]) (.blt .repr [.lst [.var 5, .var 5]])) [.ret (.bl false)] []])
    (ds := [.loc (o.length + 2)]) (ls := [o.length + 2]) (h := row30) (ys := rows30) (s := [some (toD sits30), some (toD plan30), some (.loc (o.length + 2)), none, none, none, none]) (st := ⟨o3, none⟩)
    (fun _ sl st => ∃ (a3 a4 a5 a6 : Option D) (ys : List MO), sl = [some (toD sits30), some (toD plan30), some (.loc (o.length + 2)), a3, a4, a5, a6] ∧ st = ⟨o3 ++ ys, none⟩) (src_loc (by rw [ho3, all, List.append_assoc, List.append_assoc, get_nk rfl]; rfl)) ⟨none, none, none, none, [], rfl, by rw [List.append_nil]⟩ (by
      rintro pre x post sl st hx ⟨a3, a4, a5, a6, ys, rfl, rfl⟩
      obtain ⟨P1, P2⟩ := parts30 x (by rw [hx]; simp)
      obtain ⟨o4, ho4⟩ : ∃ o4, o4 = o3 ++ ys := ⟨_, rfl⟩
      obtain ⟨oth, hds, r⟩ := x
      have e1 := fun o => P1.run h1 o
      have e2 := fun o => P2.run h1 o
      have z3 : D.tup [.int 0, .int 0, .int 0] = toD zero30 := rfl
      have e1' : ∀ o, R.call i [toD plan30, .tup [toD sits30, .tup [.int 0, .int 0, .int 0]], toD oth, .tup [toD sits30, toD hds]] ⟨o, none⟩ = .ok (orD r) ⟨o, none⟩ := e1
      have e2' : ∀ o, R.call i [toD oth, .tup [toD sits30, toD hds], toD plan30, .tup [toD sits30, .tup [.int 0, .int 0, .int 0]]] ⟨o, none⟩ = .ok (orD r) ⟨o, none⟩ := e2
      have nt := orD_noT r
      have nl := orD_noL r
      have s6 : stl (.tl [orD r]) ⟨o4, none⟩ = (.loc o4.length, ⟨o4 ++ [.lst [orD r]], none⟩) := stl_tl (by simp [nt])
      have L6 : lstOf (o4 ++ [MO.lst [orD r]])[o4.length]? = some [orD r] := by rw [get_n rfl]; rfl
      have ap := append_loc (e := none) (x := orD r) L6 (show 1 < 16777216 by omega) nt nl
      rw [set_n rfl] at ap
      have mo := mthOk_lst (e := none) (m := .append) L6 (by simp)
      have L7 : lstOf (o4 ++ [MO.lst [orD r, orD r]])[o4.length]? = some [orD r, orD r] := by rw [get_n rfl]; rfl
      have d1 : (⟨o4 ++ [MO.lst [orD r, orD r]], none⟩ : Sto).data (.loc o4.length) = some (.list [datO r, datO r]) := by
        show (match (o4 ++ [MO.lst [orD r, orD r]])[o4.length]? with | some (.lst xs) => (mapO (toP _ 15) xs).map PyData.list | _ => none) = _
        rw [lst_of L7]
        simp only [mapO, data_or, Option.map_some]
      have d2 : (⟨o4 ++ [MO.lst [orD r, orD r]], none⟩ : Sto).data (.tl [orD r, orD r]) = some (.list [datO r, datO r]) := by
        show (mapO (toP _ 15) [orD r, orD r]).map PyData.list = _
        simp only [mapO, data_or, Option.map_some]
      have r1 := reprL P1.sm (by rw [seq_loc]; exact L7) d1
      have r2 := reprL P1.sm (seq_tl _ _) d2
      have t : tinyP (.list [datO r, datO r]) = true := by simp [tinyP, tinyPs, (tiny_or P1.sm).1]
      have ne := fun st => ne_str (st := st) (ok_shown _ t) (ok_shown _ t)
      simp only [beq_self_eq_true, Bool.not_true] at ne
      refine ⟨[some (toD sits30), some (toD plan30), some (.loc (o.length + 2)), some (toD oth), some (toD hds), some (orD r), a6], [some (toD sits30), some (toD plan30), some (.loc (o.length + 2)), some (toD oth), some (toD hds), some (orD r), some (.loc o4.length)], ⟨o4 ++ [.lst [orD r, orD r]], none⟩, by simp [row30], ?_, ?_, _, _, _, _, ys ++ [.lst [orD r, orD r]], rfl, by rw [ho4, List.append_assoc]⟩
      · rw [← ho4]
        have nt1 : ∀ st, stl (.tup [toD sits30, .tup [.int 0, .int 0, .int 0]]) st = (.tup [toD sits30, .tup [.int 0, .int 0, .int 0]], st) := fun st => stl_tup (by simp)
        have nt2 : ∀ st, stl (.tup [toD sits30, toD hds]) st = (.tup [toD sits30, toD hds], st) := fun st => stl_tup (by simp)
        simp at ap
        simp [nt1, nt2, e1', s6, mo, e2', ap, r1, r2, ne]
      · rw [← ho4]
        simp only [stays, List.all_cons, List.all_nil, Bool.and_true, decide_eq_true_eq]
        have lo : o.length + 2 < o4.length := by rw [ho4, ho3]; simp <;> omega
        rw [List.getElem?_append_left lo])
  have hs : toD sits30 = D.tup [.int (-1), .int 0, .int 1] := rfl
  have hp : toD plan30 = D.tup [.tup [.int 0, .int 1], .tup [.int 0], .tup [.int 1]] := rfl
  rw [hs, hp] at ef
  have q3 : ∀ st, Res.ok (D.tl [.tup [.tup [.tup [.int 0, .int 1], .tup [.int 0], .tup [.int 1]], .tup [.int 1, .int 0, .int 0], .int 1], .tup [.tup [.tup [.int 0, .int 1, .int 0], .tup [.int 0], .tup [.int 1]], .tup [.int 0, .int 0, .int 0], .int 7], .tup [.tup [.tup [.int 0, .int 1, .int 1], .tup [.int 0], .tup [.int 1]], .tup [.int 0, .int 0, .int 0], .int 5]]) st = .ok (.tl A3) st := fun st => by rw [hA3]; rfl
  have q2 : ∀ st, Res.ok (D.tl [.tup [.tup [.tup [.int 1, .int 0], .tup [.int 0], .tup [.int 1]], .tup [.int 1, .int 0, .int 0], .non], .tup [.tup [.tup [.int 0, .int 1], .tup [.int 0, .int 0, .int 0], .tup [.int 1, .int 1]], .tup [.int 0, .int 2, .int 1], .non]]) st = .ok (.tl A2) st := fun st => by rw [hA2]; rfl
  have q8 : ∀ st, Res.ok (D.tl [.tup [.tup [.tup [.int 0], .tup [.int 0], .tup [.int 1]], .tup [.int 0, .int 0, .int 0], .int 3], .tup [.tup [.tup [.int 1], .tup [.int 0], .tup [.int 1]], .tup [.int 0, .int 0, .int 0], .int 1], .tup [.tup [.tup [.int 0, .int 1], .tup [.int 0], .tup [.int 1]], .tup [.int 0, .int 0, .int 0], .non]]) st = .ok (.tl A8) st := fun st => by rw [hA8]; rfl
  have n3 : D.noTs A3 = true := by rw [hA3]; decide
  have n2 : D.noTs (A3 ++ A2) = true := by rw [hA3, hA2]; decide
  have n8 : D.noTs (A3 ++ A2 ++ A8) = true := by rw [hA3, hA2, hA8]; decide
  have l3 : A3.length = 3 := by rw [hA3]; rfl
  have l2 : A2.length = 2 := by rw [hA2]; rfl
  have l8 : A8.length = 3 := by rw [hA8]; rfl
  have s1 : stl (.tl A3) ⟨o, none⟩ = (.loc o.length, ⟨o ++ [.lst A3], none⟩) := stl_tl n3
  have L1 : lstOf (o ++ [MO.lst A3])[o.length]? = some A3 := by rw [get_n rfl]; rfl
  have ad1 := add_loc_tl (e := none) (ys := A2) L1 (by rw [l3, l2]; show 5 ≤ 16777216; omega)
  have s2 : stl (.tl (A3 ++ A2)) ⟨o ++ [.lst A3], none⟩ = (.loc (o.length + 1), ⟨o ++ [.lst A3] ++ [.lst (A3 ++ A2)], none⟩) := by rw [stl_tl n2]; simp
  have L2 : lstOf (o ++ [MO.lst A3] ++ [.lst (A3 ++ A2)])[o.length + 1]? = some (A3 ++ A2) := by rw [get_n (by simp)]; rfl
  have ad2 := add_loc_tl (e := none) (ys := A8) L2 (by rw [List.length_append, l3, l2, l8]; show 8 ≤ 16777216; omega)
  have s3 : stl (.tl (A3 ++ A2 ++ A8)) ⟨o ++ [.lst A3] ++ [.lst (A3 ++ A2)], none⟩ = (.loc (o.length + 2), ⟨o3, none⟩) := by rw [stl_tl n8, ho3]; simp
  obtain ⟨B2, hB2⟩ : ∃ B2, B2 = A3 ++ A2 := ⟨_, rfl⟩
  obtain ⟨B8, hB8⟩ : ∃ B8, B8 = A3 ++ A2 ++ A8 := ⟨_, rfl⟩
  rw [← hB8] at ad2 s3
  rw [← hB2] at ad1 s2 ad2 s3
  obtain ⟨o1, ho1⟩ : ∃ o1, o1 = o ++ [MO.lst A3] := ⟨_, rfl⟩
  rw [← ho1] at s1 ad1 s2 ad2 s3
  obtain ⟨o2, ho2⟩ : ∃ o2, o2 = o1 ++ [MO.lst B2] := ⟨_, rfl⟩
  rw [← ho2] at s2 ad2 s3
  simp [f_law_hand_right, stl_tup, q3, s1, q2, ad1, s2, q8, ad2, s3, ef]
  rw [ho3, List.append_assoc, List.append_assoc, List.append_assoc]
  exact finS_v rfl
def two30 : House := [[0], [0]]
def cut30 : House := [[0, 0], [0], [0]]
def S_law_seats_right (g : Run) : Prop := ∀ o, g [] ⟨o, none⟩ = .ok (.bl true) ⟨o, none⟩
theorem b_law_seats_right {i : Nat} (h1 : S_parted (R.call i)) : S_law_seats_right (runFn R (f_law_seats_right i)) := by
  intro o
  rw [run_eq _ _ _ rfl]
  have k2 : (0 < 2 ∧ iter (beatF two30) 2 ([-1, 0], [0, 0]) = ([-1, 0], [0, 0]) ∧ (orb (beatF two30) ([-1, 0], [0, 0]) 2).Nodup) := by decide +kernel
  have P1 : Part two30 ([-1, 0], [0, 0]) cut30 (sits30, zero30) none := part_of 2 4 (by decide +kernel) (by decide +kernel) (by decide +kernel) (by decide +kernel) k2 (by decide +kernel) (by omega) (by decide +kernel) (by intro i e; cases e)
  have P2 : Part two30 ([-1, 0], [0, 0]) plan30 (sits30, zero30) (some 3) := part_of 2 4 (by decide +kernel) (by decide +kernel) (by decide +kernel) (by decide +kernel) k2 (by decide +kernel) (by omega) (by decide +kernel) (by intro i e; cases e; omega)
  have P3 : Part cut30 (sits30, [1, 0, 0]) two30 ([0, -1], [0, 0]) (some 0) := part_of 4 2 (by decide +kernel) (by decide +kernel) (by decide +kernel) (by decide +kernel) (by decide +kernel) (by decide +kernel) (by omega) (by decide +kernel) (by intro i e; cases e; omega)
  have P4 : Part two30 ([-1, 0], [0, 0]) two30 ([-1, 0], [0, 0]) none := part_of 2 2 (by decide +kernel) (by decide +kernel) (by decide +kernel) (by decide +kernel) k2 k2 (by omega) (by decide +kernel) (by intro i e; cases e)
  have e1 : ∀ o, R.call i [.tup [.tup [.int 0], .tup [.int 0]], .tup [.tup [.int (-1), .int 0], .tup [.int 0, .int 0]], .tup [.tup [.int 0, .int 0], .tup [.int 0], .tup [.int 0]], .tup [.tup [.int (-1), .int 0, .int 1], .tup [.int 0, .int 0, .int 0]]] ⟨o, none⟩ = .ok .non ⟨o, none⟩ := fun o => P1.run h1 o
  have e2 : ∀ o, R.call i [.tup [.tup [.int 0], .tup [.int 0]], .tup [.tup [.int (-1), .int 0], .tup [.int 0, .int 0]], .tup [.tup [.int 0, .int 1], .tup [.int 0], .tup [.int 1]], .tup [.tup [.int (-1), .int 0, .int 1], .tup [.int 0, .int 0, .int 0]]] ⟨o, none⟩ = .ok (.int 3) ⟨o, none⟩ := fun o => P2.run h1 o
  have e3 : ∀ o, R.call i [.tup [.tup [.int 0, .int 0], .tup [.int 0], .tup [.int 0]], .tup [.tup [.int (-1), .int 0, .int 1], .tup [.int 1, .int 0, .int 0]], .tup [.tup [.int 0], .tup [.int 0]], .tup [.tup [.int 0, .int (-1)], .tup [.int 0, .int 0]]] ⟨o, none⟩ = .ok (.int 0) ⟨o, none⟩ := fun o => P3.run h1 o
  have e4 : ∀ o, R.call i [.tup [.tup [.int 0], .tup [.int 0]], .tup [.tup [.int (-1), .int 0], .tup [.int 0, .int 0]], .tup [.tup [.int 0], .tup [.int 0]], .tup [.tup [.int (-1), .int 0], .tup [.int 0, .int 0]]] ⟨o, none⟩ = .ok .non ⟨o, none⟩ := fun o => P4.run h1 o
  have s5 : stl (.tl [.non, .int 3]) ⟨o, none⟩ = (.loc o.length, ⟨o ++ [.lst [.non, .int 3]], none⟩) := stl_tl rfl
  have L5 : lstOf (o ++ [MO.lst [.non, .int 3]])[o.length]? = some [.non, .int 3] := by rw [get_n rfl]; rfl
  have ap := append_loc (e := none) (x := .int 0) L5 (show 2 < 16777216 by omega) rfl rfl
  rw [set_n rfl] at ap
  have mo := mthOk_lst (e := none) (m := .append) L5 (by simp)
  have L6 : lstOf (o ++ [MO.lst [.non, .int 3, .int 0]])[o.length]? = some [.non, .int 3, .int 0] := by rw [get_n rfl]; rfl
  have d1 : (⟨o ++ [MO.lst [.non, .int 3, .int 0]], none⟩ : Sto).data (.loc o.length) = some (.list [.none, .int 3, .int 0]) := by
    show (match (o ++ [MO.lst [.non, .int 3, .int 0]])[o.length]? with | some (.lst xs) => (mapO (toP _ 15) xs).map PyData.list | _ => none) = _
    rw [lst_of L6]
    rfl
  have d2 : (⟨o ++ [MO.lst [.non, .int 3, .int 0]], none⟩ : Sto).data (.tl [.non, .int 3, .int 0]) = some (.list [.none, .int 3, .int 0]) := rfl
  have eq : cmpop .eq (.loc o.length) (.tl [.non, .int 3, .int 0]) ⟨o ++ [MO.lst [.non, .int 3, .int 0]], none⟩ = .ok (.bl true) ⟨o ++ [MO.lst [.non, .int 3, .int 0]], none⟩ := by
    simp only [cmpop, opEq, eqD, d1, d2, blO]
    congr 2
  have isn : ∀ st, cmpop .isv .non .non st = .ok (.bl true) st := fun st => rfl
  simp at ap
  simp [f_law_seats_right, stl_tup, e1, e2, s5, mo, e3, ap, eq, e4, isn]
  exact finS_v rfl
def great1 : House := [[0, 1, 2], [0, 3, 1], [2, 1, 0], [3, 3, 2], [1, 2]]
def great2 : House := [[0, 1, 2], [0, 3, 1], [2, 1, 0], [3, 3, 2], [1, 2, 1]]
def S_law_great_right (g : Run) : Prop := ∀ (c : Int) o, g [.int c] ⟨o, none⟩ = .ok (.bl true) ⟨o, none⟩
theorem b_law_great_right {i j k : Nat} (h1 : S_law_same_v (R.call i)) (h2 : S_parted (R.call j)) (h3 : S_law_due_2 (R.call k)) : S_law_great_right (runFn R (f_law_great_right i j k)) := by
  intro c o
  rw [run_eq _ _ _ rfl]
  have H1 : HouseOk great1 := houseOk_of (by decide +kernel)
  have H2 : HouseOk great2 := houseOk_of (by decide +kernel)
  have run : ∀ (t : List Int), StandOk great1 (t, [0, 1, 2, 0, 0]) → StandOk great2 (t, [0, 1, 2, 0, 0]) → ∃ r, (∀ i, r = some i → i < 100000) ∧ (∀ o, R.call j [toD great1, toD ((t, [0, 1, 2, 0, 0]) : Stand), toD great2, toD ((t, [0, 1, 2, 0, 0]) : Stand)] ⟨o, none⟩ = .ok (orD r) ⟨o, none⟩) ∧ (∀ o, R.call k [toD great1, toD ((t, [0, 1, 2, 0, 0]) : Stand), toD great2, toD ((t, [0, 1, 2, 0, 0]) : Stand)] ⟨o, none⟩ = .ok (orD r) ⟨o, none⟩) := fun t S1 S2 => by
    obtain ⟨p, off, Rh, hp⟩ := stand_rho' H1 S1
    obtain ⟨p', off', Rh', hp'⟩ := stand_rho' H2 S2
    obtain ⟨r, e, l⟩ := partedD_or great1 (t, [0, 1, 2, 0, 0]) great2 (t, [0, 1, 2, 0, 0]) (max off off' + p + p')
    have lt := Rh.lt
    have lt' := Rh'.lt
    refine ⟨r, fun i hi => by have := l i hi; omega, fun o => ?_, fun o => ?_⟩
    · rw [← e]; exact h2 _ _ _ _ o p off p' off' H1 S1 H2 S2 Rh Rh' (by omega) (by omega)
    · rw [← e]; exact h3 _ _ _ _ o p off p' off' H1 S1 H2 S2 Rh Rh' (by omega) (by omega)
  have md : ∀ st, binop .mod (.int c) (.int 3) st = .ok (.int (c % 3)) st := fun st => mod_int (by omega)
  have sl : ∀ st, opSlc (.tup [.tup [.int 0, .int 1, .int 2], .tup [.int 0, .int 3, .int 1], .tup [.int 2, .int 1, .int 0], .tup [.int 3, .int 3, .int 2], .tup [.int 1, .int 2]]) none (some 4) st = .ok (.tup [.tup [.int 0, .int 1, .int 2], .tup [.int 0, .int 3, .int 1], .tup [.int 2, .int 1, .int 0], .tup [.int 3, .int 3, .int 2]]) st := fun st => rfl
  have ad : ∀ st, binop .add (.tup [.tup [.int 0, .int 1, .int 2], .tup [.int 0, .int 3, .int 1], .tup [.int 2, .int 1, .int 0], .tup [.int 3, .int 3, .int 2]]) (.tup [.tup [.int 1, .int 2, .int 1]]) st = .ok (toD great2) st := fun st => add_tup (show 5 ≤ 16777216 by omega)
  have t5 : ∀ (a b c d e : D) (st : Sto), tupR [a, b, c, d, e] st = .ok (.tup [a, b, c, d, e]) st := fun _ _ _ _ _ _ => id rfl
  have g1 : toD great1 = D.tup [.tup [.int 0, .int 1, .int 2], .tup [.int 0, .int 3, .int 1], .tup [.int 2, .int 1, .int 0], .tup [.int 3, .int 3, .int 2], .tup [.int 1, .int 2]] := rfl
  have cs : c % 3 = 0 ∨ c % 3 = 1 ∨ c % 3 = 2 := by omega
  have fin : ∀ (t : List Int) (d : D), d = toD t → StandOk great1 (t, [0, 1, 2, 0, 0]) → StandOk great2 (t, [0, 1, 2, 0, 0]) → atIx [D.tup [.int (-1), .int 0, .int 1, .int 2, .int 3], .tup [.int 3, .int (-1), .int 0, .int 2, .int 1], .tup [.int 1, .int 2, .int 3, .int 0, .int (-1)]] (c % 3) = some d → endR ⟨o, none⟩ (evSs R (f_law_great_right i j k).body (([D.int c].map some) ++ List.replicate ((f_law_great_right i j k).slots - (f_law_great_right i j k).np) none) (Sto.bare ⟨o, none⟩)) = .ok (.bl true) ⟨o, none⟩ := fun t d hd S1 S2 ha => by
    obtain ⟨r, l, e2, e3⟩ := run t S1 S2
    have e1 := fun o => h1 r o l
    have mk : toD ((t, [0, 1, 2, 0, 0]) : Stand) = D.tup [d, .tup [.int 0, .int 1, .int 2, .int 0, .int 0]] := by rw [hd]; rfl
    have dn : d.noT = true := by rw [hd]; simp
    rw [mk, g1] at e2 e3
    have nr : ∀ st, stl (orD r) st = (orD r, st) := fun st => stlNoT st (orD_noT r)
    have nd : ∀ st, stl d st = (d, st) := fun st => stlNoT st dn
    simp [f_law_great_right, md, ha, nd, t5, stl_tup, sl, ad, dn, e2, e3, nr, e1]
    exact finS_objs (st := ⟨o, none⟩) rfl
  rcases cs with h | h | h
  · exact fin [-1, 0, 1, 2, 3] _ rfl (standOk_of (by decide +kernel) rfl (by decide +kernel)) (standOk_of (by decide +kernel) rfl (by decide +kernel)) (by rw [h]; rfl)
  · exact fin [3, -1, 0, 2, 1] _ rfl (standOk_of (by decide +kernel) rfl (by decide +kernel)) (standOk_of (by decide +kernel) rfl (by decide +kernel)) (by rw [h]; rfl)
  · exact fin [1, 2, 3, 0, -1] _ rfl (standOk_of (by decide +kernel) rfl (by decide +kernel)) (standOk_of (by decide +kernel) rfl (by decide +kernel)) (by rw [h]; rfl)
theorem b_law_k30 {j1 j2 j3 : Nat} (h1 : S_law_seats_right (R.call j1)) (h2 : S_law_hand_right (R.call j2)) (h3 : S_law_great_right (R.call j3)) : S_law_all (runFn R (f_law_k30 j1 j2 j3)) := by
  intro is his
  rw [run_eq _ _ _ rfl]
  have sl : ∀ st, opSlc (.fro (is.map D.int)) none (some 2) st = .ok (.tl (mapD (is.take 2))) st := fun st => by
    have n : D.noTs (is.map D.int) = true := noTs_mapD is
    simp only [opSlc, Sto.list, D.isTup, Bool.false_eq_true, if_false, seq_fro, n, if_true]
    have := cut_to (is.map D.int) 2
    rw [show ((2 : Nat) : Int) = 2 from rfl] at this
    rw [this, ← List.map_take]
    rfl
  have ad : binop .add (.tl [.int 0]) (.tl (mapD (is.take 2))) ⟨[], none⟩ = .ok (.tl (mapD ((0 : Int) :: is.take 2))) ⟨[], none⟩ := by
    rw [add_tl (by rw [mapD_length, List.length_take]; show 1 + _ ≤ 16777216; omega)]; rfl
  obtain ⟨sx, stx, ef, a1, rfl, rfl⟩ := for_inv (R := R) (k := .seq) (t := .nm 1) (b := [.ite (.not (.call j3 [.var 1])) [.ret (.bl false)] []]) (ds := [.tl (mapD ((0 : Int) :: is.take 2))]) (ls := []) (h := toD) (ys := (0 : Int) :: is.take 2) (s := [some (.fro (is.map D.int)), none]) (st := ⟨[], none⟩)
    (fun _ sl st => ∃ a1, sl = [some (.fro (is.map D.int)), a1] ∧ st = ⟨[], none⟩) (src_tlD _ _) ⟨none, rfl, rfl⟩ (by
      rintro pre x post sl st hx ⟨a1, rfl, rfl⟩
      have e3 := h3 x []
      exact ⟨_, [some (.fro (is.map D.int)), some (toD x)], ⟨[], none⟩, set_nm _ _ _, by simp [e3], by simp [stays], _, rfl, rfl⟩)
  refine ⟨⟨[], none⟩, ?_⟩
  have h1' := h1 []
  have h2' := h2 []
  simp [f_law_k30, h1', h2', sl, ad, ef]
  exact finS_v (o := []) (ext := []) rfl
end
end DV
set_option Elab.async false
set_option linter.all false
set_option autoImplicit false
set_option maxRecDepth 100000
set_option maxHeartbeats 0
namespace DW
open PySem PySem.Spec PyProof.Rows L2 DV
def top (i : Nat) : Stmt := PySem.Challenge.pw_callednames_k30_parted_late_and_great.main.body.getD i (.Pass ⟨0, 0, 0, 0⟩)
def d0 : DT1 := ⟨"is_whole", top 9, ["thing"], ["thing"]⟩
def d1 : DT1 := ⟨"is_within", top 10, ["thing", "least", "most"], ["thing", "least", "most"]⟩
def d2 : DT1 := ⟨"is_long", top 11, ["thing", "least", "most"], ["thing", "least", "most"]⟩
def d3 : DT1 := ⟨"is_list", top 12, ["many", "thing", "one"], ["many", "thing"]⟩
def d4 : DT1 := ⟨"is_house", top 13, ["thing", "one"], ["thing"]⟩
def d5 : DT1 := ⟨"need_house", top 14, ["thing"], ["thing"]⟩
def d6 : DT1 := ⟨"is_seating_of", top 15, ["many", "thing", "one"], ["many", "thing"]⟩
def d7 : DT1 := ⟨"is_hand", top 16, ["house", "seat", "thing"], ["house", "seat", "thing"]⟩
def d8 : DT1 := ⟨"is_stand_by", top 17, ["house", "thing", "many", "seat", "one"], ["house", "thing"]⟩
def d9 : DT1 := ⟨"is_stand", top 18, ["house", "thing"], ["house", "thing"]⟩
def d10 : DT1 := ⟨"need_stand", top 19, ["house", "thing"], ["house", "thing"]⟩
def d11 : DT1 := ⟨"bare_of", top 20, ["seating"], ["seating"]⟩
def d12 : DT1 := ⟨"with_at", top 22, ["row", "place", "thing"], ["row", "place", "thing"]⟩
def d13 : DT1 := ⟨"beat_by", top 23, ["house", "stand", "seating", "hands", "bare", "name", "later"], ["house", "stand"]⟩
def d14 : DT1 := ⟨"way_of", top 24, ["house", "stand", "line", "met", "later"], ["house", "stand"]⟩
def d15 : DT1 := ⟨"parted", top 26, ["house", "stand", "other", "its", "mine", "yours", "beats"], ["house", "stand", "other", "its"]⟩
def d16 : DT1 := ⟨"heard_at", top 27, ["way", "beats", "line", "off", "at"], ["way", "beats"]⟩
def d17 : DT1 := ⟨"_law_same", top 29, ["_law_found", "_law_due_here"], ["_law_found", "_law_due_here"]⟩
def d18 : DT1 := ⟨"_law_bare", top 30, ["_law_stand", "_law_seat", "_law_name"], ["_law_stand"]⟩
def d19 : DT1 := ⟨"_law_beat", top 31, ["_law_house", "_law_stand", "_law_names", "_law_hands", "_law_bare_here", "_law_called", "_law_left"], ["_law_house", "_law_stand"]⟩
def d20 : DT1 := ⟨"_law_line", top 32, ["_law_house", "_law_stand", "_law_line_here", "_law_met", "_law_later"], ["_law_house", "_law_stand"]⟩
def d21 : DT1 := ⟨"_law_heard_row", top 33, ["_law_house", "_law_stand", "_law_many", "_law_found", "_law_lap"], ["_law_house", "_law_stand", "_law_many"]⟩
def d22 : DT1 := ⟨"_law_due", top 34, ["_law_house", "_law_stand", "_law_other", "_law_its", "_law_line_here", "_law_off", "_law_more", "_law_far", "_law_many", "_law_rows", "_law_unlike", "_law_mine", "_law_yours"], ["_law_house", "_law_stand", "_law_other", "_law_its"]⟩
def d23 : DT1 := ⟨"_law_hand_right", top 35, ["_law_sits", "_law_plan", "_law_rows", "_law_other", "_law_hands", "_law_due_here", "_law_told"], []⟩
def d24 : DT1 := ⟨"_law_seats_right", top 36, ["_law_two", "_law_three", "_law_cut", "_law_mark", "_law_sits", "_law_told"], []⟩
def d25 : DT1 := ⟨"_law_great_right", top 37, ["_law_cell", "_law_sits", "_law_plan", "_law_other", "_law_mark"], ["_law_cell"]⟩
def d26 : DT1 := ⟨"law", top 38, ["_law_script", "_law_cell"], ["_law_script"]⟩
def T : Tab := ⟨[f_is_whole, f_is_within 0, f_is_long, f_is_list 1 2, f_is_house 3 2, f_need_house 4 1, f_is_seating_of 1 2, f_is_hand 1, f_is_stand_by 2 6 7, f_is_stand 5 8, f_need_stand 9 2, f_bare_of, f_with_at, f_beat_by 11 12, f_way_of 13, f_parted 10 14 16, f_heard_at 11, f_law_same, f_law_bare, f_law_beat 18, f_law_line 19, f_law_heard_row 18 19, f_law_due_2 20 21, f_law_hand_right 15, f_law_seats_right 15, f_law_great_right 17 15 22, f_law_k30 24 23 25], consts0⟩
def Ds : List DT1 := [d0, d1, d2, d3, d4, d5, d6, d7, d8, d9, d10, d11, d12, d13, d14, d15, d16, d17, d18, d19, d20, d21, d22, d23, d24, d25, d26]
def G : Glo := { fns := [("is_whole", 0), ("is_within", 1), ("is_long", 2), ("is_list", 3), ("is_house", 4), ("need_house", 5), ("is_seating_of", 6), ("is_hand", 7), ("is_stand_by", 8), ("is_stand", 9), ("need_stand", 10), ("bare_of", 11), ("with_at", 12), ("beat_by", 13), ("way_of", 14), ("parted", 15), ("heard_at", 16), ("_law_same", 17), ("_law_bare", 18), ("_law_beat", 19), ("_law_line", 20), ("_law_heard_row", 21), ("_law_due", 22), ("_law_hand_right", 23), ("_law_seats_right", 24), ("_law_great_right", 25), ("law", 26)], gc := [("FEWEST_SEATS", 0), ("MOST_SEATS", 1), ("MOST_LIST", 2), ("BARE", 3)], gx := [("CallError", 0), ("NoHouse", 1), ("NoStand", 2)], blt := ["len", "tuple", "list", "sorted", "all", "int", "repr", "max", "isinstance", "range", "enumerate", "zip", "bool"] }
theorem a0 : argsB d0 := fun _ _ _ _ _ _ us hl => match us, hl with | [_], _ => rfl
theorem a1 : argsB d1 := fun _ _ _ _ _ _ us hl => match us, hl with | [_, _, _], _ => rfl
theorem a2 : argsB d2 := fun _ _ _ _ _ _ us hl => match us, hl with | [_, _, _], _ => rfl
theorem a3 : argsB d3 := fun _ _ _ _ _ _ us hl => match us, hl with | [_, _], _ => rfl
theorem a4 : argsB d4 := fun _ _ _ _ _ _ us hl => match us, hl with | [_], _ => rfl
theorem a5 : argsB d5 := fun _ _ _ _ _ _ us hl => match us, hl with | [_], _ => rfl
theorem a6 : argsB d6 := fun _ _ _ _ _ _ us hl => match us, hl with | [_, _], _ => rfl
theorem a7 : argsB d7 := fun _ _ _ _ _ _ us hl => match us, hl with | [_, _, _], _ => rfl
theorem a8 : argsB d8 := fun _ _ _ _ _ _ us hl => match us, hl with | [_, _], _ => rfl
theorem a9 : argsB d9 := fun _ _ _ _ _ _ us hl => match us, hl with | [_, _], _ => rfl
theorem a10 : argsB d10 := fun _ _ _ _ _ _ us hl => match us, hl with | [_, _], _ => rfl
theorem a11 : argsB d11 := fun _ _ _ _ _ _ us hl => match us, hl with | [_], _ => rfl
theorem a12 : argsB d12 := fun _ _ _ _ _ _ us hl => match us, hl with | [_, _, _], _ => rfl
theorem a13 : argsB d13 := fun _ _ _ _ _ _ us hl => match us, hl with | [_, _], _ => rfl
theorem a14 : argsB d14 := fun _ _ _ _ _ _ us hl => match us, hl with | [_, _], _ => rfl
theorem a15 : argsB d15 := fun _ _ _ _ _ _ us hl => match us, hl with | [_, _, _, _], _ => rfl
theorem a16 : argsB d16 := fun _ _ _ _ _ _ us hl => match us, hl with | [_, _], _ => rfl
theorem a17 : argsB d17 := fun _ _ _ _ _ _ us hl => match us, hl with | [_, _], _ => rfl
theorem a18 : argsB d18 := fun _ _ _ _ _ _ us hl => match us, hl with | [_], _ => rfl
theorem a19 : argsB d19 := fun _ _ _ _ _ _ us hl => match us, hl with | [_, _], _ => rfl
theorem a20 : argsB d20 := fun _ _ _ _ _ _ us hl => match us, hl with | [_, _], _ => rfl
theorem a21 : argsB d21 := fun _ _ _ _ _ _ us hl => match us, hl with | [_, _, _], _ => rfl
theorem a22 : argsB d22 := fun _ _ _ _ _ _ us hl => match us, hl with | [_, _, _, _], _ => rfl
theorem a23 : argsB d23 := fun _ _ _ _ _ _ us hl => match us, hl with | [], _ => rfl
theorem a24 : argsB d24 := fun _ _ _ _ _ _ us hl => match us, hl with | [], _ => rfl
theorem a25 : argsB d25 := fun _ _ _ _ _ _ us hl => match us, hl with | [_], _ => rfl
theorem a26 : argsB d26 := fun _ _ _ _ _ _ us hl => match us, hl with | [_], _ => rfl
theorem args : ∀ D ∈ Ds, argsB D := by
  unfold Ds
  refine List.forall_mem_cons.mpr ⟨a0, ?_⟩
  refine List.forall_mem_cons.mpr ⟨a1, ?_⟩
  refine List.forall_mem_cons.mpr ⟨a2, ?_⟩
  refine List.forall_mem_cons.mpr ⟨a3, ?_⟩
  refine List.forall_mem_cons.mpr ⟨a4, ?_⟩
  refine List.forall_mem_cons.mpr ⟨a5, ?_⟩
  refine List.forall_mem_cons.mpr ⟨a6, ?_⟩
  refine List.forall_mem_cons.mpr ⟨a7, ?_⟩
  refine List.forall_mem_cons.mpr ⟨a8, ?_⟩
  refine List.forall_mem_cons.mpr ⟨a9, ?_⟩
  refine List.forall_mem_cons.mpr ⟨a10, ?_⟩
  refine List.forall_mem_cons.mpr ⟨a11, ?_⟩
  refine List.forall_mem_cons.mpr ⟨a12, ?_⟩
  refine List.forall_mem_cons.mpr ⟨a13, ?_⟩
  refine List.forall_mem_cons.mpr ⟨a14, ?_⟩
  refine List.forall_mem_cons.mpr ⟨a15, ?_⟩
  refine List.forall_mem_cons.mpr ⟨a16, ?_⟩
  refine List.forall_mem_cons.mpr ⟨a17, ?_⟩
  refine List.forall_mem_cons.mpr ⟨a18, ?_⟩
  refine List.forall_mem_cons.mpr ⟨a19, ?_⟩
  refine List.forall_mem_cons.mpr ⟨a20, ?_⟩
  refine List.forall_mem_cons.mpr ⟨a21, ?_⟩
  refine List.forall_mem_cons.mpr ⟨a22, ?_⟩
  refine List.forall_mem_cons.mpr ⟨a23, ?_⟩
  refine List.forall_mem_cons.mpr ⟨a24, ?_⟩
  refine List.forall_mem_cons.mpr ⟨a25, ?_⟩
  refine List.forall_mem_cons.mpr ⟨a26, ?_⟩
  exact fun _ h => nomatch h
theorem checked : chkAll G T.fns Ds = true := by decide +kernel
theorem globs : gloB G T.consts Ds = true := by decide +kernel
theorem roomy : Room 60 callerA := ⟨rfl, by decide, by decide⟩
abbrev RR : PySem.W.OpenRow := PySem.W.OpenLaw.row PySem.Challenge.rw_callednames_k30_parted_late_and_great
def facts : List He.Fa := faOf G T.consts Ds
def defs : List He.DefD := Ds.map DT1.defD
def hk : PySem.W.Hook := He.hookD 4 facts defs
def obs (s : PySem.W.SharedT) : He.AlD := He.obsDG 4 facts defs (HandSHeadRun.getT s)
theorem obs_eq (s : PySem.W.SharedT) : obs s = hk.obs s.abs := He.obsDG_eq (HandSHeadRun.getT_eq s)
def loose : List Str := (["CallError", "NoHouse", "NoStand", "FEWEST_SEATS", "MOST_SEATS", "MOST_LIST", "BARE", "is_whole", "is_within", "is_long", "is_list", "is_house", "need_house", "is_seating_of", "is_hand", "is_stand_by", "is_stand", "need_stand", "bare_of", "with_at", "beat_by", "way_of", "parted", "heard_at", "_law_same", "_law_bare", "_law_beat", "_law_line", "_law_heard_row", "_law_due"] : List Str) ++ (["_law_hand_right", "_law_seats_right", "_law_great_right"] : List Str)
theorem run (w : World) : HandSHeadRun.RunEq RR (PySem.W.view RR.prog [38]) hk obs 3000 loose w := by
  intro os
  kernel_rfl
theorem s0 (n : Nat) (h : 1 ≤ n) : S_is_whole (callN T n 0) := by
  cases n with
  | zero => omega
  | succ m => rw [callN_succ (T := T) (i := 0) (F := _) rfl]; exact b_is_whole 
theorem s2 (n : Nat) (h : 1 ≤ n) : S_is_long (callN T n 2) := by
  cases n with
  | zero => omega
  | succ m => rw [callN_succ (T := T) (i := 2) (F := _) rfl]; exact b_is_long 
theorem s11 (n : Nat) (h : 1 ≤ n) : S_bare_of (callN T n 11) := by
  cases n with
  | zero => omega
  | succ m => rw [callN_succ (T := T) (i := 11) (F := _) rfl]; exact b_bare_of ⟨rfl⟩ 
theorem s12 (n : Nat) (h : 1 ≤ n) : S_with_at (callN T n 12) := by
  cases n with
  | zero => omega
  | succ m => rw [callN_succ (T := T) (i := 12) (F := _) rfl]; exact b_with_at 
theorem s17 (n : Nat) (h : 1 ≤ n) : S_law_same_v (callN T n 17) := by
  cases n with
  | zero => omega
  | succ m => rw [callN_succ (T := T) (i := 17) (F := _) rfl]; exact b_law_same_v 
theorem s18 (n : Nat) (h : 1 ≤ n) : S_law_bare (callN T n 18) := by
  cases n with
  | zero => omega
  | succ m => rw [callN_succ (T := T) (i := 18) (F := _) rfl]; exact b_law_bare 
theorem s1 (n : Nat) (h : 2 ≤ n) : S_is_within (callN T n 1) := by
  cases n with
  | zero => omega
  | succ m => rw [callN_succ (T := T) (i := 1) (F := _) rfl]; exact b_is_within (s0 m (by omega))
theorem s13 (n : Nat) (h : 2 ≤ n) : S_beat_by (callN T n 13) := by
  cases n with
  | zero => omega
  | succ m => rw [callN_succ (T := T) (i := 13) (F := _) rfl]; exact b_beat_by ⟨rfl⟩ (s11 m (by omega)) (s12 m (by omega))
theorem s16 (n : Nat) (h : 2 ≤ n) : S_heard_at (callN T n 16) := by
  cases n with
  | zero => omega
  | succ m => rw [callN_succ (T := T) (i := 16) (F := _) rfl]; exact b_heard_at (s11 m (by omega))
theorem s19 (n : Nat) (h : 2 ≤ n) : S_law_beat (callN T n 19) := by
  cases n with
  | zero => omega
  | succ m => rw [callN_succ (T := T) (i := 19) (F := _) rfl]; exact b_law_beat (s18 m (by omega))
theorem s3 (n : Nat) (h : 3 ≤ n) : S_is_list (callN T n 3) := by
  cases n with
  | zero => omega
  | succ m => rw [callN_succ (T := T) (i := 3) (F := _) rfl]; exact b_is_list ⟨rfl⟩ (s1 m (by omega)) (s2 m (by omega))
theorem s6 (n : Nat) (h : 3 ≤ n) : S_is_seating_of (callN T n 6) := by
  cases n with
  | zero => omega
  | succ m => rw [callN_succ (T := T) (i := 6) (F := _) rfl]; exact b_is_seating_of ⟨rfl⟩ (s1 m (by omega)) (s2 m (by omega))
theorem s7 (n : Nat) (h : 3 ≤ n) : S_is_hand (callN T n 7) := by
  cases n with
  | zero => omega
  | succ m => rw [callN_succ (T := T) (i := 7) (F := _) rfl]; exact b_is_hand (s1 m (by omega))
theorem s14 (n : Nat) (h : 3 ≤ n) : S_way_of (callN T n 14) := by
  cases n with
  | zero => omega
  | succ m => rw [callN_succ (T := T) (i := 14) (F := _) rfl]; exact b_way_of (s13 m (by omega))
theorem s20 (n : Nat) (h : 3 ≤ n) : S_law_line (callN T n 20) := by
  cases n with
  | zero => omega
  | succ m => rw [callN_succ (T := T) (i := 20) (F := _) rfl]; exact b_law_line (s19 m (by omega))
theorem s21 (n : Nat) (h : 3 ≤ n) : S_law_heard_row (callN T n 21) := by
  cases n with
  | zero => omega
  | succ m => rw [callN_succ (T := T) (i := 21) (F := _) rfl]; exact b_law_heard_row (s18 m (by omega)) (s19 m (by omega))
theorem s4 (n : Nat) (h : 4 ≤ n) : S_is_house (callN T n 4) := by
  cases n with
  | zero => omega
  | succ m => rw [callN_succ (T := T) (i := 4) (F := _) rfl]; exact b_is_house ⟨rfl⟩ (s3 m (by omega)) (s2 m (by omega))
theorem s8 (n : Nat) (h : 4 ≤ n) : S_is_stand_by (callN T n 8) := by
  cases n with
  | zero => omega
  | succ m => rw [callN_succ (T := T) (i := 8) (F := _) rfl]; exact b_is_stand_by (s2 m (by omega)) (s6 m (by omega)) (s7 m (by omega))
theorem s22 (n : Nat) (h : 4 ≤ n) : S_law_due_2 (callN T n 22) := by
  cases n with
  | zero => omega
  | succ m => rw [callN_succ (T := T) (i := 22) (F := _) rfl]; exact b_law_due_2 (s20 m (by omega)) (s21 m (by omega))
theorem s5 (n : Nat) (h : 5 ≤ n) : S_need_house 1 (callN T n 5) := by
  cases n with
  | zero => omega
  | succ m => rw [callN_succ (T := T) (i := 5) (F := _) rfl]; exact b_need_house (s4 m (by omega))
theorem s9 (n : Nat) (h : 6 ≤ n) : S_is_stand (callN T n 9) := by
  cases n with
  | zero => omega
  | succ m => rw [callN_succ (T := T) (i := 9) (F := _) rfl]; exact b_is_stand (s5 m (by omega)) (s8 m (by omega))
theorem s10 (n : Nat) (h : 7 ≤ n) : S_need_stand 2 (callN T n 10) := by
  cases n with
  | zero => omega
  | succ m => rw [callN_succ (T := T) (i := 10) (F := _) rfl]; exact b_need_stand (s9 m (by omega))
theorem s15 (n : Nat) (h : 8 ≤ n) : S_parted (callN T n 15) := by
  cases n with
  | zero => omega
  | succ m => rw [callN_succ (T := T) (i := 15) (F := _) rfl]; exact b_parted (s10 m (by omega)) (s14 m (by omega)) (s16 m (by omega))
theorem s23 (n : Nat) (h : 9 ≤ n) : S_law_hand_right (callN T n 23) := by
  cases n with
  | zero => omega
  | succ m => rw [callN_succ (T := T) (i := 23) (F := _) rfl]; exact b_law_hand_right (s15 m (by omega))
theorem s24 (n : Nat) (h : 9 ≤ n) : S_law_seats_right (callN T n 24) := by
  cases n with
  | zero => omega
  | succ m => rw [callN_succ (T := T) (i := 24) (F := _) rfl]; exact b_law_seats_right (s15 m (by omega))
theorem s25 (n : Nat) (h : 9 ≤ n) : S_law_great_right (callN T n 25) := by
  cases n with
  | zero => omega
  | succ m => rw [callN_succ (T := T) (i := 25) (F := _) rfl]; exact b_law_great_right (s17 m (by omega)) (s15 m (by omega)) (s22 m (by omega))
theorem s26 (n : Nat) (h : 10 ≤ n) : S_law_all (callN T n 26) := by
  cases n with
  | zero => omega
  | succ m => rw [callN_succ (T := T) (i := 26) (F := _) rfl]; exact b_law_k30 (s24 m (by omega)) (s23 m (by omega)) (s25 m (by omega))
end DW
open PySem PySem.W PySem.Calls PyProof.Rows
theorem PySem.Challenge.cw_callednames_k30_parted_late_and_great_holds : PySem.Challenge.rw_callednames_k30_parted_late_and_great.Holds := by
  w_on; o_law
  refine HandSHeadRun.head_any (r := OpenLaw.row PySem.Challenge.rw_callednames_k30_parted_late_and_great) (q := view (OpenLaw.row PySem.Challenge.rw_callednames_k30_parted_late_and_great).prog [38]) (H := DW.hk) (ob := DW.obs) (M := 3000) (loose := DW.loose) (d := HandSHeadRun.topDef (OpenLaw.row PySem.Challenge.rw_callednames_k30_parted_late_and_great).prog 38) (kwd := []) DW.obs_eq
    (by kernel_rfl) (fun s => by kernel_rfl) DW.run (by kernel_rfl) (by kernel_rfl) (by kernel_rfl) (by rfl) (by first | assumption | decide +kernel) (by decide +kernel) ⟨rfl, rfl, rfl, rfl, rfl, by decide +kernel⟩ ?hw ?hc
  case hw => w_witness2
  case hc =>
    exact DV.walk_D (l := PySem.Challenge.rw_callednames_k30_parted_late_and_great) (G := DW.G) (T := DW.T) (Ds := DW.Ds) (n := 60) (i := 26) (DL := DW.d26) (x := "_law_script") rfl (by kernel_rfl) DW.roomy rfl rfl (by kernel_rfl) DW.globs DW.args DW.checked (DW.s26 60 (by decide))
