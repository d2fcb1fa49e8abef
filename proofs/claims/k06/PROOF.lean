import PyProof.Rows.All
import HandS.ForMost
import HandS.ForExc
import HandS.Wide
import HandS.Deep
import HandS.TupAny
import HandS.TupMul
import HandS.Conv
import HandS.Zip
import HandS.Style
import HandS.More
import HandS.IsInst
import PyProof.WalkInts
import PyProof.WalksMore
import HandS.List
import HandS.Text
import HandS.ExcIs
import KE.KExcIs
import HandS.WordsExc
import HandS.ExcValue
import HandS.TupLen
import HandS.WordsDict
import KE.GoesZip
import KE.GoesMore
import HandS.ExcInit
import HandS.ExcField
import KE.KDictDisplayH
import PyProof.CompFree
import PySem.Challenge.RW_tonguerank_k06_what_is_no_ranking
set_option Elab.async false
set_option linter.all false
set_option maxRecDepth 100000
set_option maxHeartbeats 4000000
/-! Tg, part 1: a pure semantics of the Python that the laws use. Data, results, environments, combinators. -/
namespace Tg
open PySem

/-- pure data; scr: the law's script -/
inductive D where
  | non | bl (b : Bool) | int (i : Int) | str (s : List Nat) | tup (ds : List D) | lst (ds : List D) | scr (ns : List Int) | exc (c : String) (fs : List D) | jnk
  deriving Inhabited

mutual
/-- no list within -/
def D.flat : D → Bool
  | .tup ds => D.flatL ds
  | .lst _ => false
  | .exc _ fs => D.flatL fs
  | .jnk => false
  | _ => true
def D.flatL : List D → Bool
  | [] => true
  | d :: r => D.flat d && D.flatL r
end
mutual
/-- as the library's data -/
def D.py : D → PyData
  | .non => .none
  | .bl b => .bool b
  | .int i => .int i
  | .str s => .str ⟨s.toArray⟩
  | .tup ds => .tuple (D.pyL ds)
  | .lst ds => .list (D.pyL ds)
  | .scr _ => .none
  | .exc _ _ => .none
  | .jnk => .none
def D.pyL : List D → List PyData
  | [] => []
  | d :: r => D.py d :: D.pyL r
end
mutual
/-- no exception within, texts of signs, at most n deep -/
def D.shp : Nat → D → Bool
  | _, .non => true
  | _, .bl _ => true
  | _, .int _ => true
  | _, .str s => s.all (· < 0x110000)
  | 0, .tup _ => false
  | n + 1, .tup ds => D.shpL n ds
  | 0, .lst _ => false
  | n + 1, .lst ds => D.shpL n ds
  | _, .scr _ => false
  | _, .exc _ _ => false
  | _, .jnk => false
def D.shpL : Nat → List D → Bool
  | _, [] => true
  | n, d :: r => D.shp n d && D.shpL n r
end

/-- what a run comes to -/
inductive R (α : Type) where
  | ok (a : α) | ex (e : D) | bad
  deriving Inhabited
def R.bind {α β : Type} : R α → (α → R β) → R β
  | .ok a, f => f a
  | .ex e, _ => .ex e
  | .bad, _ => .bad
@[simp] theorem R.bind_ok {α β : Type} (a : α) (f : α → R β) : (R.ok a).bind f = f a := rfl
@[simp] theorem R.bind_ex {α β : Type} (e : D) (f : α → R β) : (R.ex e : R α).bind f = .ex e := rfl
@[simp] theorem R.bind_bad {α β : Type} (f : α → R β) : (R.bad : R α).bind f = .bad := rfl

/-- what a slot holds: data that no one changes any more, or a list that only this slot may change -/
inductive S where
  | val (d : D) | own (ds : List D) | dct (t : Nat) (kvs : List (List Int × D))
  deriving Inhabited
def S.d : S → D
  | .val d => d
  | .own ds => .lst ds
  | .dct _ _ => .jnk
/-- read by its name -/
def S.rd : S → R S
  | .val d => .ok (.val d)
  | .own ds => .ok (.val (.lst ds))
  | .dct _ _ => .bad
@[simp] theorem S.rd_val (d : D) : (S.val d).rd = .ok (.val d) := rfl
@[simp] theorem S.rd_own (ds : List D) : (S.own ds).rd = .ok (.val (.lst ds)) := rfl
@[simp] theorem S.d_val (d : D) : (S.val d).d = d := rfl
@[simp] theorem S.d_own (ds : List D) : (S.own ds).d = .lst ds := rfl
def S.flat : S → Bool
  | .val d => d.flat
  | .own ds => D.flatL ds
  | .dct _ _ => false
@[simp] theorem S.flat_val (d : D) : (S.val d).flat = d.flat := rfl
@[simp] theorem S.flat_own (ds : List D) : (S.own ds).flat = D.flatL ds := rfl

abbrev En := List (Option S)
abbrev Ex := En → R S
abbrev Tx := En → R Bool
abbrev Ax := En → R (List D)
inductive Fl where
  | nx (e : En) | rt (s : S)
abbrev Sx := En → R Fl

def freeze1 (i : Nat) (e : En) : En := match e[i]? with
  | some (some (.own ds)) => e.set i (some (.val (.lst ds)))
  | _ => e
def freeze (al : List Nat) (e : En) : En := al.foldl (fun e i => freeze1 i e) e
@[simp] theorem freeze_nil (e : En) : freeze [] e = e := rfl
@[simp] theorem freeze_cons (i : Nat) (al : List Nat) (e : En) : freeze (i :: al) e = freeze al (freeze1 i e) := rfl
mutual
/-- lists whose content is no longer known -/
def D.kill : D → D
  | .tup ds => .tup (D.killL ds)
  | .lst _ => .jnk
  | .exc c fs => .exc c (D.killL fs)
  | .non => .non
  | .bl b => .bl b
  | .int i => .int i
  | .str s => .str s
  | .scr ns => .scr ns
  | .jnk => .jnk
def D.killL : List D → List D
  | [] => []
  | d :: r => D.kill d :: D.killL r
end
def S.kill : S → S
  | .val d => .val d.kill
  | .own ds => .own (D.killL ds)
  | .dct t kvs => .dct t kvs
/-- the slots of is, their lists no longer known -/
def killE : List Nat → En → En
  | [], e => e
  | i :: r, e => match e[i]? with
    | some (some s) => (killE r e).set i (some s.kill)
    | _ => killE r e
def keep (al : List Nat) (fl : Bool) (e : En) : En := if fl then e else freeze al e
@[simp] theorem keep_true (al : List Nat) (e : En) : keep al true e = e := rfl
@[simp] theorem keep_false (al : List Nat) (e : En) : keep al false e = freeze al e := rfl
@[simp] theorem keep_nil (fl : Bool) (e : En) : keep [] fl e = e := by cases fl <;> rfl

/-! ### expressions -/
def eVar (i : Nat) : Ex := fun e => match e[i]? with
  | some (some s) => s.rd
  | _ => .bad
def eC (d : D) : Ex := fun _ => .ok (.val d)
abbrev eInt (n : Int) : Ex := eC (.int n)
abbrev eStr (s : List Nat) : Ex := eC (.str s)
abbrev eBl (b : Bool) : Ex := eC (.bl b)
abbrev eNon : Ex := eC .non
def eOp1 (f : D → R S) (a : Ex) : Ex := fun e => (a e).bind fun x => f x.d
def eOp2 (f : D → D → R S) (a b : Ex) : Ex := fun e => (a e).bind fun x => (b e).bind fun y => f x.d y.d
def eOp3 (f : D → D → D → R S) (a b c : Ex) : Ex := fun e => (a e).bind fun x => (b e).bind fun y => (c e).bind fun z => f x.d y.d z.d
def aNil : Ax := fun _ => .ok []
def aCons (a : Ex) (r : Ax) : Ax := fun e => (a e).bind fun x => (r e).bind fun xs => .ok (x.d :: xs)
def eTup (a : Ax) : Ex := fun e => (a e).bind fun ds => .ok (.val (.tup ds))
def eLst (a : Ax) : Ex := fun e => (a e).bind fun ds => .ok (.own ds)
def eCall (f : List D → R S) (a : Ax) : Ex := fun e => (a e).bind f
/-- and, or, not of truths, as values -/
def eAnd (a b : Ex) : Ex := fun e => (a e).bind fun x => match x.d with
  | .bl true => b e
  | .bl false => .ok (.val (.bl false))
  | _ => .bad
def eOr (a b : Ex) : Ex := fun e => (a e).bind fun x => match x.d with
  | .bl true => .ok (.val (.bl true))
  | .bl false => b e
  | _ => .bad
/-! ### tests -/
def tVal (a : Ex) : Tx := fun e => (a e).bind fun x => match x.d with
  | .bl b => .ok b
  | _ => .bad
def tAnd (a b : Tx) : Tx := fun e => (a e).bind fun c => if c = true then b e else .ok false
def tOr (a b : Tx) : Tx := fun e => (a e).bind fun c => if c = true then .ok true else b e
def tNot (a : Tx) : Tx := fun e => (a e).bind fun c => .ok (!c)
def tTrue : Tx := fun _ => .ok true

/-! ### targets, iterators, comprehensions -/
abbrev Tt := D → En → R En
abbrev Tts := List D → En → R En
def gName (i : Nat) : Tt := fun d e => .ok (e.set i (some (.val d)))
def gNil : Tts := fun ds e => match ds with
  | [] => .ok e
  | _ => .bad
def gCons (t : Tt) (u : Tts) : Tts := fun ds e => match ds with
  | d :: r => (t d e).bind fun e' => u r e'
  | [] => .bad
def gTup (n : Nat) (u : Tts) : Tt := fun d e => match d with
  | .tup ds => if ds.length = n then u ds e else .bad
  | _ => .bad
def wipeE (e : En) : List Nat → En
  | [] => e
  | i :: r => (wipeE e r).set i none
@[simp] theorem wipeE_nil (e : En) : wipeE e [] = e := rfl
@[simp] theorem wipeE_cons (e : En) (i : Nat) (r : List Nat) : wipeE e (i :: r) = (wipeE e r).set i none := rfl

def compL (t : Tt) (c : Tx) (m : Ex) (e : En) : List D → R (List D)
  | [] => .ok []
  | d :: r => (t d e).bind fun e' => (c e').bind fun b => match b with
    | true => (m e').bind fun x => (compL t c m e r).bind fun ys => .ok (x.d :: ys)
    | false => compL t c m e r
/-- [m for t in it if c]; vs: the comprehension's own names, al: the slots that the walked thing may share lists with -/
def eComp (al vs : List Nat) (it : Ax) (t : Tt) (c : Tx) (m : Ex) : Ex := fun e => (it e).bind fun ds =>
  match compL t c m (wipeE (freeze al e) vs) ds with
  | .ok ys => if ys.length ≤ 65536 then .ok (.own ys) else .bad
  | _ => .bad

/-! ### statements -/
def sNop : Sx := fun e => .ok (.nx e)
def sSeq (a b : Sx) : Sx := fun e => (a e).bind fun f => match f with
  | .nx e' => b e'
  | .rt s => .ok (.rt s)
def sSet (al : List Nat) (i : Nat) (a : Ex) : Sx := fun e => (a e).bind fun s => .ok (.nx ((keep al s.flat e).set i (some s)))
/-- x = y of two names: what y owns moves to x -/
def sMove (i j : Nat) : Sx := fun e => match e[j]? with
  | some (some (.own ds)) => .ok (.nx ((e.set j none).set i (some (.own ds))))
  | some (some (.val d)) => .ok (.nx (e.set i (some (.val d))))
  | _ => .bad
def sAsg (al : List Nat) (t : Tt) (a : Ex) : Sx := fun e => (a e).bind fun s => (t s.d (keep al s.flat e)).bind fun e' => .ok (.nx e')
def sDrop (a : Ex) : Sx := fun e => (a e).bind fun _ => .ok (.nx e)
def sRet (a : Ex) : Sx := fun e => (a e).bind fun s => .ok (.rt s)
def sRetN : Sx := fun _ => .ok (.rt (.val .non))
/-- return x of a name: what it owns is handed on -/
def S.rt : S → R Fl
  | .val d => .ok (.rt (.val d))
  | .own ds => .ok (.rt (.own ds))
  | .dct _ _ => .bad
@[simp] theorem S.rt_val (d : D) : (S.val d).rt = .ok (.rt (.val d)) := rfl
@[simp] theorem S.rt_own (ds : List D) : (S.own ds).rt = .ok (.rt (.own ds)) := rfl
def sRetV (i : Nat) : Sx := fun e => match e[i]? with
  | some (some s) => s.rt
  | _ => .bad
def sIf (c : Tx) (a b : Sx) : Sx := fun e => (c e).bind fun k => if k = true then a e else b e
def forL (t : Tt) (b : Sx) : List D → Sx
  | [] => fun e => .ok (.nx e)
  | d :: r => fun e => (t d e).bind fun e' => (b e').bind fun f => match f with
    | .nx e2 => forL t b r e2
    | .rt s => .ok (.rt s)
def sFor (al : List Nat) (it : Ax) (t : Tt) (b : Sx) : Sx := fun e => (it e).bind fun ds => forL t b ds (freeze al e)
def whileL (c : Tx) (b : Sx) : Nat → Sx
  | 0 => fun _ => .bad
  | n + 1 => fun e => (c e).bind fun k => match k with
    | true => (b e).bind fun f => match f with
      | .nx e2 => whileL c b n e2
      | .rt s => .ok (.rt s)
    | false => .ok (.nx e)
def sWhile (n : Nat) (c : Tx) (b : Sx) : Sx := whileL c b n
/-- x[k] = v of an owned list -/
def sItem (al : List Nat) (i : Nat) (a k : Ex) : Sx := fun e => (a e).bind fun v => match k e, (keep al v.flat e)[i]? with
  | .ok (.val (.int j)), some (some (.own ds)) => (match L2.ixN ds.length j with
    | some n => .ok (.nx ((keep al v.flat e).set i (some (.own (ds.set n v.d)))))
    | none => .bad)
  | _, _ => .bad
/-- x[k] += v of an owned list of ints -/
def sAug (i : Nat) (a k : Ex) : Sx := fun e => match k e, e[i]? with
  | .ok (.val (.int j)), some (some (.own ds)) => (match L2.ixN ds.length j with
    | some n => (match ds[n]?, a e with
      | some (.int u), .ok (.val (.int v)) => if 0 ≤ j then .ok (.nx (e.set i (some (.own (ds.set n (.int (u + v))))))) else .bad
      | _, _ => .bad)
    | none => .bad)
  | _, _ => .bad
/-- a statement that is not run -/
def sBad : Sx := fun _ => .bad
/-- a list that slot i owns is changed by f -/
def sOwn (al : List Nat) (i : Nat) (f : List D → D → R (List D)) (a : Ex) : Sx := fun e => match e[i]? with
  | some (some (.own _)) => (a e).bind fun x => match (keep al x.flat e)[i]? with
    | some (some (.own ds)) => (f ds x.d).bind fun ds' => .ok (.nx ((keep al x.flat e).set i (some (.own ds'))))
    | _ => .bad
  | _ => .bad
/-- x.append(y.pop(k)), both lists owned -/
def sAppPop (i j : Nat) (k : Ex) : Sx := fun e => match k e, e[i]?, e[j]? with
  | .ok (.val (.int n)), some (some (.own ds)), some (some (.own es)) => (match L2.ixN es.length n with
    | some p => (match es[p]? with
      | some d => if i ≠ j ∧ ds.length ≤ 65536 ∧ es.length ≤ 65536 then .ok (.nx ((e.set j (some (.own (es.eraseIdx p)))).set i (some (.own (ds ++ [d]))))) else .bad
      | none => .bad)
    | none => .bad)
  | _, _, _ => .bad
/-- x.clear(), x owned -/
def sClear (i : Nat) : Sx := fun e => match e[i]? with
  | some (some (.own _)) => .ok (.nx (e.set i (some (.own []))))
  | _ => .bad
/-- x.insert(k, v), x owned -/
def sInsert (al : List Nat) (i : Nat) (k a : Ex) : Sx := fun e => match k e, e[i]? with
  | .ok (.val (.int n)), some (some (.own _)) => (a e).bind fun v => match (keep al v.flat e)[i]? with
    | some (some (.own ds)) => if 0 ≤ n ∧ n ≤ 65536 ∧ ds.length ≤ 65536 then .ok (.nx ((keep al v.flat e).set i (some (.own (ds.take n.toNat ++ [v.d] ++ ds.drop n.toNat))))) else .bad
    | _ => .bad
  | _, _ => .bad

/-- a def: its slots, its body -/
def runB (n : Nat) (b : Sx) (ds : List D) : R S := match b (ds.map (fun d => some (.val d)) ++ List.replicate (n - ds.length) none) with
  | .ok (.rt s) => .ok s
  | .ok (.nx _) => .ok (.val .non)
  | .ex e => .ex e
  | .bad => .bad
end Tg

/-! Tg, part 4: operators over pure data. -/
namespace Tg
open PySem L2

abbrev LIM : Nat := 65536
def vI (i : Int) : R S := .ok (.val (.int i))
def vB (b : Bool) : R S := .ok (.val (.bl b))
def oAdd : D → D → R S
  | .int i, .int j => .ok (.val (.int (i + j)))
  | .str a, .str b => if a.length + b.length ≤ LIM then .ok (.val (.str (a ++ b))) else .bad
  | .tup a, .tup b => if a.length + b.length ≤ LIM then .ok (.val (.tup (a ++ b))) else .bad
  | .lst a, .lst b => if a.length + b.length ≤ LIM then .ok (.own (a ++ b)) else .bad
  | _, _ => .bad
def oSub : D → D → R S
  | .int i, .int j => .ok (.val (.int (i - j)))
  | _, _ => .bad
def oMul : D → D → R S
  | .int i, .int j => if i.natAbs < 2 ^ 200 ∧ j.natAbs < 2 ^ 200 then .ok (.val (.int (i * j))) else .bad
  | .lst a, .int k => if k ≤ 1000 ∧ -1000 ≤ k ∧ a.length ≤ 1000 then .ok (.own (List.replicate k.toNat a).flatten) else .bad
  | .str a, .int k => if k ≤ 1000 ∧ -1000 ≤ k ∧ a.length ≤ 1000 then .ok (.val (.str (List.replicate k.toNat a).flatten)) else .bad
  | .tup a, .int k => if a ≠ [] ∧ (k = 1 ∨ k = 0) then .ok (.val (.tup (if k = 1 then a else []))) else .bad
  | _, _ => .bad
def oFdiv : D → D → R S
  | .int i, .int j => if 0 < j ∧ j.natAbs < 2 ^ 200 then .ok (.val (.int (i / j))) else .bad
  | _, _ => .bad
def oMod : D → D → R S
  | .int i, .int j => if 0 < j then .ok (.val (.int (i % j))) else .bad
  | _, _ => .bad
def oPow : D → D → R S
  | .int i, .int j => if 0 ≤ j ∧ j ≤ 1000 ∧ i.natAbs < 2 ^ 64 then .ok (.val (.int (i ^ j.toNat))) else .bad
  | _, _ => .bad
def oShl : D → D → R S
  | .int i, .int j => if 0 ≤ j ∧ j ≤ 1000 ∧ i.natAbs < 2 ^ 64 then .ok (.val (.int (i * 2 ^ j.toNat))) else .bad
  | _, _ => .bad
def oShr : D → D → R S
  | .int i, .int j => if 0 ≤ j then .ok (.val (.int (i / 2 ^ j.toNat))) else .bad
  | _, _ => .bad
def oAnd : D → D → R S
  | .int i, .int j => .ok (.val (.int (Builtin.bitAnd i j)))
  | _, _ => .bad
def oOr : D → D → R S
  | .int i, .int j => .ok (.val (.int (Builtin.bitOr i j)))
  | _, _ => .bad
def oNeg : D → R S
  | .int i => .ok (.val (.int (-i)))
  | _ => .bad
def oNot : D → R S
  | .bl b => .ok (.val (.bl (!b)))
  | _ => .bad
/-- all ints -/
def D.ints : List D → Option (List Int)
  | [] => some []
  | .int i :: r => (D.ints r).map (i :: ·)
  | _ => none
@[simp] theorem ints_map : ∀ ns : List Int, D.ints (ns.map D.int) = some ns
  | [] => rfl
  | n :: r => by
    show (D.ints (r.map D.int)).map (n :: ·) = _
    rw [ints_map r]
    rfl
theorem ints_some : ∀ {ds : List D} {ns : List Int}, D.ints ds = some ns → ds = ns.map D.int
  | [], ns, h => by cases h; rfl
  | .int i :: r, ns, h => by
    have h' : (D.ints r).map (i :: ·) = some ns := h
    cases q : D.ints r with
    | none => rw [q] at h'; cases h'
    | some m =>
      rw [q] at h'
      cases h'
      rw [ints_some q]
      rfl
  | .non :: r, ns, h => by cases h
  | .bl _ :: r, ns, h => by cases h
  | .str _ :: r, ns, h => by cases h
  | .tup _ :: r, ns, h => by cases h
  | .lst _ :: r, ns, h => by cases h
  | .scr _ :: r, ns, h => by cases h
  | .exc _ _ :: r, ns, h => by cases h
def D.bls : List D → Option (List Bool)
  | [] => some []
  | .bl i :: r => (D.bls r).map (i :: ·)
  | _ => none
@[simp] theorem bls_map : ∀ ns : List Bool, D.bls (ns.map D.bl) = some ns
  | [] => rfl
  | n :: r => by
    show (D.bls (r.map D.bl)).map (n :: ·) = _
    rw [bls_map r]
    rfl
theorem bls_some : ∀ {ds : List D} {ns : List Bool}, D.bls ds = some ns → ds = ns.map D.bl
  | [], ns, h => by cases h; rfl
  | .bl i :: r, ns, h => by
    have h' : (D.bls r).map (i :: ·) = some ns := h
    cases q : D.bls r with
    | none => rw [q] at h'; cases h'
    | some m =>
      rw [q] at h'
      cases h'
      rw [bls_some q]
      rfl
  | .non :: r, ns, h => by cases h
  | .int _ :: r, ns, h => by cases h
  | .str _ :: r, ns, h => by cases h
  | .tup _ :: r, ns, h => by cases h
  | .lst _ :: r, ns, h => by cases h
  | .scr _ :: r, ns, h => by cases h
  | .exc _ _ :: r, ns, h => by cases h
def D.strs : List D → Option (List (List Nat))
  | [] => some []
  | .str i :: r => (D.strs r).map (i :: ·)
  | _ => none
@[simp] theorem strs_map : ∀ ns : List (List Nat), D.strs (ns.map D.str) = some ns
  | [] => rfl
  | n :: r => by
    show (D.strs (r.map D.str)).map (n :: ·) = _
    rw [strs_map r]
    rfl
theorem strs_some : ∀ {ds : List D} {ns : List (List Nat)}, D.strs ds = some ns → ds = ns.map D.str
  | [], ns, h => by cases h; rfl
  | .str i :: r, ns, h => by
    have h' : (D.strs r).map (i :: ·) = some ns := h
    cases q : D.strs r with
    | none => rw [q] at h'; cases h'
    | some m =>
      rw [q] at h'
      cases h'
      rw [strs_some q]
      rfl
  | .non :: r, ns, h => by cases h
  | .int _ :: r, ns, h => by cases h
  | .bl _ :: r, ns, h => by cases h
  | .tup _ :: r, ns, h => by cases h
  | .lst _ :: r, ns, h => by cases h
  | .scr _ :: r, ns, h => by cases h
  | .exc _ _ :: r, ns, h => by cases h

/-- one order: ints, texts; < also of tuples of ints -/
def oLt : D → D → R S
  | .int i, .int j => .ok (.val (.bl (decide (i < j))))
  | .str a, .str b => .ok (.val (.bl (decide (a < b))))
  | .tup a, .tup b => match D.ints a, D.ints b with
    | some ns, some ms => .ok (.val (.bl (HT.lexLt ns ms)))
    | _, _ => .bad
  | _, _ => .bad
def oGt : D → D → R S
  | .int i, .int j => .ok (.val (.bl (decide (j < i))))
  | .str a, .str b => .ok (.val (.bl (decide (b < a))))
  | _, _ => .bad
def oLe : D → D → R S
  | .int i, .int j => .ok (.val (.bl (decide (i ≤ j))))
  | _, _ => .bad
def oGe : D → D → R S
  | .int i, .int j => .ok (.val (.bl (decide (j ≤ i))))
  | _, _ => .bad
def DEP : Nat := 60
/-- == of data -/
def oEq (d c : D) : R S := if d.shp DEP && c.shp DEP then .ok (.val (.bl (PyData.eqv d.py c.py))) else .bad
def oNe (d c : D) : R S := if d.shp DEP && c.shp DEP then .ok (.val (.bl (!PyData.eqv d.py c.py))) else .bad
def isNon : D → Bool
  | .non => true
  | _ => false
def oIsN (d : D) : R S := .ok (.val (.bl (isNon d)))
def oNotN (d : D) : R S := .ok (.val (.bl (!isNon d)))
/-- x in c -/
def oIn : D → D → R S
  | .str [s], .str b => .ok (.val (.bl (decide (s ∈ b))))
  | d, .lst ds => if d.shp DEP && D.shpL DEP ds then .ok (.val (.bl (ds.any fun z => PyData.eqv z.py d.py))) else .bad
  | d, .tup ds => if d.shp DEP && D.shpL DEP ds then .ok (.val (.bl (ds.any fun z => PyData.eqv z.py d.py))) else .bad
  | _, _ => .bad
def oNotIn : D → D → R S
  | .str [s], .str b => .ok (.val (.bl (!decide (s ∈ b))))
  | d, .lst ds => if d.shp DEP && D.shpL DEP ds then .ok (.val (.bl (!ds.any fun z => PyData.eqv z.py d.py))) else .bad
  | d, .tup ds => if d.shp DEP && D.shpL DEP ds then .ok (.val (.bl (!ds.any fun z => PyData.eqv z.py d.py))) else .bad
  | _, _ => .bad
def oItem : D → D → R S
  | .lst ds, .int i => match atI ds i with
    | some d => .ok (.val d)
    | none => .bad
  | .tup ds, .int i => match atI ds i with
    | some d => .ok (.val d)
    | none => .bad
  | .scr ns, .int i => match atI ns i with
    | some n => .ok (.val (.int n))
    | none => .bad
  | .str s, .int i => if s.length ≤ LIM then (match atI s i with
    | some c => .ok (.val (.str [c]))
    | none => .bad) else .bad
  | _, _ => .bad
def cutL {α : Type} (xs : List α) (lo hi : Option Int) : List α := (xs.drop (HT.sIx xs.length 0 lo)).take (HT.sIx xs.length xs.length hi - HT.sIx xs.length 0 lo)
def oSl (lo hi : Option Int) : D → R S
  | .lst ds => .ok (.own (cutL ds lo hi))
  | .tup ds => .ok (.val (.tup (cutL ds lo hi)))
  | .scr ns => .ok (.own ((cutL ns lo hi).map D.int))
  | .str s => if s.length ≤ LIM then .ok (.val (.str (cutL s lo hi))) else .bad
  | _ => .bad
/-- xs[::-1] -/
def oRev : D → R S
  | .lst ds => .ok (.own ds.reverse)
  | _ => .bad
abbrev Ox := En → R (Option Int)
def pNone : Ox := fun _ => .ok none
def pSome (a : Ex) : Ox := fun e => (a e).bind fun s => match s.d with
  | .int i => .ok (some i)
  | _ => .bad
def eSl (a : Ex) (lo hi : Ox) : Ex := fun e => (a e).bind fun s => (lo e).bind fun i => (hi e).bind fun j => oSl i j s.d

/-! built-in functions -/
def oLen : D → R S
  | .lst ds => .ok (.val (.int ds.length))
  | .tup ds => .ok (.val (.int ds.length))
  | .scr ns => .ok (.val (.int ns.length))
  | .str s => if s.length ≤ LIM then .ok (.val (.int s.length)) else .bad
  | _ => .bad
def oList : D → R S
  | .lst ds => .ok (.own ds)
  | .tup ds => .ok (.own ds)
  | _ => .bad
def oTuple : D → R S
  | .lst ds => .ok (.val (.tup ds))
  | .tup ds => .ok (.val (.tup ds))
  | _ => .bad
/-- int of an int or a truth -/
def oInt : D → R S
  | .int i => .ok (.val (.int i))
  | .bl b => .ok (.val (.int (if b then 1 else 0)))
  | _ => .bad
def minI : Int → List Int → Int
  | m, [] => m
  | m, x :: r => minI (if x < m then x else m) r
def maxI : Int → List Int → Int
  | m, [] => m
  | m, x :: r => maxI (if m < x then x else m) r
theorem minI_le : ∀ (r : List Int) (m : Int), minI m r ≤ m ∧ ∀ x ∈ r, minI m r ≤ x
  | [], m => ⟨Int.le_refl _, fun x h => nomatch h⟩
  | y :: r, m => by
    have ih := minI_le r (if y < m then y else m)
    refine ⟨Int.le_trans ih.1 (by split <;> omega), fun x hx => ?_⟩
    rcases List.mem_cons.mp hx with e | hx
    · rw [e]; exact Int.le_trans ih.1 (by split <;> omega)
    · exact ih.2 x hx
theorem minI_mem : ∀ (r : List Int) (m : Int), minI m r ∈ m :: r
  | [], m => List.mem_cons_self
  | y :: r, m => by
    have ih := minI_mem r (if y < m then y else m)
    show minI (if y < m then y else m) r ∈ _
    rcases List.mem_cons.mp ih with e | h
    · rw [e]
      split
      · exact List.mem_cons_of_mem _ List.mem_cons_self
      · exact List.mem_cons_self
    · exact List.mem_cons_of_mem _ (List.mem_cons_of_mem _ h)
theorem maxI_le : ∀ (r : List Int) (m : Int), m ≤ maxI m r ∧ ∀ x ∈ r, x ≤ maxI m r
  | [], m => ⟨Int.le_refl _, fun x h => nomatch h⟩
  | y :: r, m => by
    have ih := maxI_le r (if m < y then y else m)
    refine ⟨Int.le_trans (by split <;> omega) ih.1, fun x hx => ?_⟩
    rcases List.mem_cons.mp hx with e | hx
    · rw [e]; exact Int.le_trans (by split <;> omega) ih.1
    · exact ih.2 x hx
theorem maxI_mem : ∀ (r : List Int) (m : Int), maxI m r ∈ m :: r
  | [], m => List.mem_cons_self
  | y :: r, m => by
    have ih := maxI_mem r (if m < y then y else m)
    show maxI (if m < y then y else m) r ∈ _
    rcases List.mem_cons.mp ih with e | h
    · rw [e]
      split
      · exact List.mem_cons_of_mem _ List.mem_cons_self
      · exact List.mem_cons_self
    · exact List.mem_cons_of_mem _ (List.mem_cons_of_mem _ h)
/-- min, max, sum, any, all of a list -/
def oMin : D → R S
  | .lst ds => match D.ints ds with
    | some (x :: r) => .ok (.val (.int (minI x r)))
    | _ => .bad
  | .tup ds => match D.ints ds with
    | some (x :: r) => .ok (.val (.int (minI x r)))
    | _ => .bad
  | _ => .bad
def oMax : D → R S
  | .lst ds => match D.ints ds with
    | some (x :: r) => .ok (.val (.int (maxI x r)))
    | _ => .bad
  | .tup ds => match D.ints ds with
    | some (x :: r) => .ok (.val (.int (maxI x r)))
    | _ => .bad
  | _ => .bad
def oMax2 : D → D → R S
  | .int i, .int j => .ok (.val (.int (if j > i then j else i)))
  | _, _ => .bad
def oSum : D → R S
  | .lst ds => match D.ints ds with
    | some ns => .ok (.val (.int ns.sum))
    | _ => .bad
  | _ => .bad
def oAny : D → R S
  | .lst ds => match D.bls ds with
    | some bs => .ok (.val (.bl (bs.any id)))
    | _ => .bad
  | _ => .bad
def oAll : D → R S
  | .lst ds => match D.bls ds with
    | some bs => .ok (.val (.bl (bs.all id)))
    | _ => .bad
  | _ => .bad
def insI (x : Int) : List Int → List Int
  | [] => [x]
  | y :: r => if x ≤ y then x :: y :: r else y :: insI x r
def sortI : List Int → List Int
  | [] => []
  | x :: r => insI x (sortI r)
/-- sorted of fewer than 64 ints -/
def oSorted : D → R S
  | .lst ds => match D.ints ds with
    | some ns => if ns.length < 64 then .ok (.own ((sortI ns).map D.int)) else .bad
    | _ => .bad
  | .tup ds => match D.ints ds with
    | some ns => if ns.length < 64 then .ok (.own ((sortI ns).map D.int)) else .bad
    | _ => .bad
  | _ => .bad
/-- isinstance of a built-in class -/
def oIs (c : String) (d : D) : R S := match d with
  | .non => if c = "bool" ∨ c = "int" ∨ c = "str" ∨ c = "tuple" ∨ c = "list" then vB false else .bad
  | .bl _ => if c = "bool" ∨ c = "int" then vB true else if c = "str" ∨ c = "tuple" ∨ c = "list" then vB false else .bad
  | .int _ => if c = "int" then vB true else if c = "bool" ∨ c = "str" ∨ c = "tuple" ∨ c = "list" then vB false else .bad
  | .str _ => if c = "str" then vB true else if c = "bool" ∨ c = "int" ∨ c = "tuple" ∨ c = "list" then vB false else .bad
  | .tup _ => if c = "tuple" then vB true else if c = "bool" ∨ c = "int" ∨ c = "str" ∨ c = "list" then vB false else .bad
  | .lst _ => if c = "list" then vB true else if c = "bool" ∨ c = "int" ∨ c = "str" ∨ c = "tuple" then vB false else .bad
  | _ => .bad
/-- ''.join -/
def joinL (sep : List Nat) : List (List Nat) → List Nat
  | [] => []
  | [x] => x
  | x :: r => x ++ sep ++ joinL sep r
def oJoin : D → D → R S
  | .str sep, .lst ds => match D.strs ds with
    | some xs => if xs.length ≤ 1000 ∧ (∀ x ∈ xs, x.length ≤ 1000) ∧ sep.length ≤ 1000 then .ok (.val (.str (joinL sep xs))) else .bad
    | none => .bad
  | _, _ => .bad
/-- s.find(c), c one sign -/
def findN (c : Nat) : Nat → List Nat → Int
  | _, [] => -1
  | k, x :: r => if x = c then (k : Int) else findN c (k + 1) r
def oFind : D → D → R S
  | .str a, .str [c] => if a.length ≤ LIM then .ok (.val (.int (findN c 0 a))) else .bad
  | _, _ => .bad
/-- the first place of an equal thing -/
def idxN (d : D) : Nat → List D → Option Nat
  | _, [] => none
  | k, x :: r => if PyData.eqv x.py d.py then some k else idxN d (k + 1) r
def oIndex : D → D → R S
  | .lst ds, d => if d.shp DEP && D.shpL DEP ds then (match idxN d 0 ds with
    | some k => .ok (.val (.int k))
    | none => .bad) else .bad
  | _, _ => .bad

/-! what is walked -/
def rangeL (a b : Int) : List D := (List.range (b - a).toNat).map fun (i : Nat) => D.int (a + i)
def aList (a : Ex) : Ax := fun e => (a e).bind fun s => match s.d with
  | .lst ds => .ok ds
  | _ => .bad
def aTup (a : Ex) : Ax := fun e => (a e).bind fun s => match s.d with
  | .tup ds => .ok ds
  | _ => .bad
def aSeq (a : Ex) : Ax := fun e => (a e).bind fun s => match s.d with
  | .lst ds => .ok ds
  | .tup ds => .ok ds
  | _ => .bad
def aStr (a : Ex) : Ax := fun e => (a e).bind fun s => match s.d with
  | .str cs => .ok (cs.map fun c => D.str [c])
  | _ => .bad
def aRange (a b : Ex) : Ax := fun e => (a e).bind fun x => (b e).bind fun y => match x.d, y.d with
  | .int i, .int j => if -1000000 ≤ i ∧ i ≤ 1000000 ∧ -1000000 ≤ j ∧ j ≤ 1000000 then .ok (rangeL i j) else .bad
  | _, _ => .bad
def aRange1 (b : Ex) : Ax := fun e => (b e).bind fun y => match y.d with
  | .int j => if -1000000 ≤ j ∧ j ≤ 1000000 then .ok (rangeL 0 j) else .bad
  | _ => .bad
def zipD : List D → List D → List D
  | a :: r, b :: s => .tup [a, b] :: zipD r s
  | _, _ => []
def enumD : Nat → List D → List D
  | _, [] => []
  | k, d :: r => .tup [.int k, d] :: enumD (k + 1) r
/-- list(range(..)), tuple(range(..)) -/
def mkO (ds : List D) : S := .own ds
def mkT (ds : List D) : S := .val (.tup ds)
def eRg1 (mk : List D → S) (m : Ex) : Ex := fun e => (m e).bind fun y => match y.d with
  | .int j => if -1000000 ≤ j ∧ j ≤ 1000000 then .ok (mk (rangeL 0 j)) else .bad
  | _ => .bad
def eRg2 (mk : List D → S) (m n : Ex) : Ex := fun e => (m e).bind fun x => (n e).bind fun y => match x.d, y.d with
  | .int i, .int j => if -1000000 ≤ i ∧ i ≤ 1000000 ∧ -1000000 ≤ j ∧ j ≤ 1000000 then .ok (mk (rangeL i j)) else .bad
  | _, _ => .bad
def aZip (a b : Ex) : Ax := fun e => (a e).bind fun x => (b e).bind fun y => match x.d, y.d with
  | .lst ds, .lst es => .ok (zipD ds es)
  | .tup ds, .tup es => .ok (zipD ds es)
  | _, _ => .bad
def aEnum (a : Ex) : Ax := fun e => (a e).bind fun x => match x.d with
  | .lst ds => .ok (enumD 0 ds)
  | _ => .bad

/-! changes of an owned list -/
def fAppend (ds : List D) (d : D) : R (List D) := if ds.length ≤ LIM then .ok (ds ++ [d]) else .bad
def fExtend (ds : List D) : D → R (List D)
  | .lst es => if ds.length + es.length ≤ LIM then .ok (ds ++ es) else .bad
  | _ => .bad
end Tg

/-! Tg, part 2: what stands in the abstract heap for pure data; the relation of environments and slots. -/
namespace Tg
open PySem PySem.Spec PyProof.Rows L2

/-- the script's list: it is never written -/
def Scr (K : PySem.W.Frag) (H : Hp) (a : Addr) (xs : List V) : Prop :=
  (∃ o, H a = some (.frz o (.lst xs))) ∨
    ∃ (o : Obj) (its : Array Value) (n : Nat), K.lookup a = some o ∧ o.cls = .type "list" ∧ o.dict = none ∧ o.data = .seq its n ∧ its.size ≤ sizeLine ∧ Vals xs its.toList
theorem Scr.seq {K : PySem.W.Frag} {H : Hp} {a : Addr} {xs : List V} (h : Scr K H a xs) : SqL K H a xs := by
  rcases h with ⟨o, h⟩ | h
  · exact .inl (.inr ⟨o, h⟩)
  · exact .inr h

/-- an exception's object, of the class cls, its dict at d -/
def ExT (cls : Value) (d : Option Addr) (a : Addr) : HO := .ext fun h => ∃ (oe : Obj) (vs : Array Value), h.get? a = some oe ∧ Zc cls d oe ∧ oe.data = .fields vs
/-- the fields of the exceptions that have some -/
def fnames (c : String) : List Str := if c = "Clash" then [Str.ofString "places"] else if c = "TooMany" then [Str.ofString "texts"] else []
/-- at a: an exception of the class at C, its dict, if any, an exception's dict -/
def XO (H : Hp) (a C : Addr) : Prop := H a = some (ExT (.ref C) none a) ∨ ∃ dd gs, H a = some (ExT (.ref C) (some dd) a) ∧ H dd = some (.xd gs)
mutual
def Rep (K : PySem.W.Frag) (N : Addr → Prop) (H : Hp) : D → V → Prop
  | .non, x => x = .non
  | .bl b, x => x = .bl b
  | .int i, x => x = .int i
  | .str s, x => x = .str ⟨s.toArray⟩
  | .tup ds, x => ∃ a xs, x = .ref a ∧ H a = some (.tup xs) ∧ RepL K N H ds xs
  | .lst ds, x => ∃ a xs, x = .ref a ∧ (N a ∧ H a = some (.lst xs)) ∧ RepL K N H ds xs
  | .scr ns, x => ∃ a, x = .ref a ∧ Scr K H a (ns.map V.int)
  | .exc c fs, x => ∃ a C, x = .ref a ∧ PySem.W.nsIn K mainGlobals (Str.ofString c) = some (some (.ref C)) ∧ ((fs = [] ∧ XO H a C) ∨ ∃ dd xs, fs ≠ [] ∧ H a = some (ExT (.ref C) (some dd) a) ∧ H dd = some (.xd ((fnames c).zip xs)) ∧ RepL K N H fs xs)
  | .jnk, x => ∃ a xs, x = .ref a ∧ N a ∧ H a = some (.lst xs)
def RepL (K : PySem.W.Frag) (N : Addr → Prop) (H : Hp) : List D → List V → Prop
  | [], xs => xs = []
  | d :: r, xs => ∃ y ys, xs = y :: ys ∧ Rep K N H d y ∧ RepL K N H r ys
end

section
variable {K : PySem.W.Frag} {N N' : Addr → Prop} {H H' : Hp}
/-- what no one ever writes: the script, exceptions -/
def Fx (u : HO) : Prop := (∃ o xs, u = .frz o (.lst xs)) ∨ (∃ φ, u = .ext φ) ∨ ∃ fs, u = .xd fs
theorem Fx.nl {xs : List V} : ¬ Fx (.lst xs) := fun h => by
  rcases h with ⟨_, _, h⟩ | ⟨_, h⟩ | ⟨_, h⟩ <;> cases h
/-- tuples, the script and exceptions stand still -/
def Still (H H' : Hp) : Prop := (∀ a xs, H a = some (.tup xs) → H' a = some (.tup xs)) ∧ ∀ a u, Fx u → H a = some u → H' a = some u
theorem Still.rd (h : Still H H') {a : Addr} {xs : List V} (q : H a = some (.tup xs)) : H' a = some (.tup xs) := h.1 _ _ q
theorem sqt {a : Addr} {xs : List V} (q : H a = some (.tup xs)) : SqT K H a xs := .inl (.inl q)
theorem Still.scr (h : Still H H') {a : Addr} {xs : List V} (q : Scr K H a xs) : Scr K H' a xs := by
  rcases q with ⟨o, q⟩ | q
  · exact .inl ⟨o, h.2 _ _ (.inl ⟨_, _, rfl⟩) q⟩
  · exact .inr q
theorem XO.still {a C : Addr} (ht : Still H H') (h : XO H a C) : XO H' a C := h.imp (fun h => ht.2 _ _ (.inr (.inl ⟨_, rfl⟩)) h) fun ⟨dd, gs, h1, h2⟩ => ⟨dd, gs, ht.2 _ _ (.inr (.inl ⟨_, rfl⟩)) h1, ht.2 _ _ (.inr (.inr ⟨_, rfl⟩)) h2⟩
theorem Still.refl (H : Hp) : Still H H := ⟨fun _ _ h => h, fun _ _ _ h => h⟩
theorem Still.trans {H1 : Hp} (a : Still H H1) (b : Still H1 H') : Still H H' := ⟨fun _ _ h => b.1 _ _ (a.1 _ _ h), fun _ _ f h => b.2 _ _ f (a.2 _ _ f h)⟩
theorem Same.still (s : Same H H') : Still H H' := ⟨fun a xs h => s _ _ h, fun a u _ h => s _ _ h⟩
/-- one list is written -/
theorem still_lst {a : Addr} {xs ys : List V} (ha : H a = some (.lst xs)) : Still H (upd H a (.lst ys)) := ⟨fun b zs h => by
  rw [upd_ne (fun o => by subst o; rw [ha] at h; cases h)]
  exact h, fun b u f h => by
    rw [upd_ne (fun o => by subst o; rw [ha] at h; cases h; exact Fx.nl f)]
    exact h⟩
mutual
theorem Rep.imp (hl : ∀ a xs, N a → H a = some (.lst xs) → N' a ∧ H' a = some (.lst xs)) (ht : Still H H') : ∀ (d : D) (x : V), Rep K N H d x → Rep K N' H' d x
  | .non, _, h => h
  | .bl _, _, h => h
  | .int _, _, h => h
  | .str _, _, h => h
  | .tup ds, x, ⟨a, xs, e, hs, hr⟩ => ⟨a, xs, e, ht.rd hs, RepL.imp hl ht ds xs hr⟩
  | .lst ds, x, ⟨a, xs, e, hs, hr⟩ => ⟨a, xs, e, hl _ _ hs.1 hs.2, RepL.imp hl ht ds xs hr⟩
  | .scr ns, x, ⟨a, e, h⟩ => ⟨a, e, ht.scr h⟩
  | .exc c fs, x, ⟨a, C, e, hc, h⟩ => ⟨a, C, e, hc, h.elim (fun ⟨h1, h2⟩ => .inl ⟨h1, h2.still ht⟩) fun ⟨dd, xs, h0, h1, h2, h3⟩ => .inr ⟨dd, xs, h0, ht.2 _ _ (.inr (.inl ⟨_, rfl⟩)) h1, ht.2 _ _ (.inr (.inr ⟨_, rfl⟩)) h2, RepL.imp hl ht fs xs h3⟩⟩
  | .jnk, x, ⟨a, xs, e, n, h⟩ => ⟨a, xs, e, hl _ _ n h⟩
theorem RepL.imp (hl : ∀ a xs, N a → H a = some (.lst xs) → N' a ∧ H' a = some (.lst xs)) (ht : Still H H') : ∀ (ds : List D) (xs : List V), RepL K N H ds xs → RepL K N' H' ds xs
  | [], _, h => h
  | d :: r, xs, ⟨y, ys, e, h1, h2⟩ => ⟨y, ys, e, Rep.imp hl ht d y h1, RepL.imp hl ht r ys h2⟩
end
mutual
/-- data without a list hangs on tuples alone -/
theorem Rep.flat (ht : Still H H') : ∀ (d : D) (x : V), d.flat = true → Rep K N H d x → Rep K N' H' d x
  | .non, _, _, h => h
  | .bl _, _, _, h => h
  | .int _, _, _, h => h
  | .str _, _, _, h => h
  | .tup ds, x, f, ⟨a, xs, e, hs, hr⟩ => ⟨a, xs, e, ht.rd hs, RepL.flat ht ds xs (by simpa [D.flat] using f) hr⟩
  | .lst ds, x, f, _ => by simp [D.flat] at f
  | .scr ns, x, _, ⟨a, e, h⟩ => ⟨a, e, ht.scr h⟩
  | .exc c fs, x, f, ⟨a, C, e, hc, h⟩ => ⟨a, C, e, hc, h.elim (fun ⟨h1, h2⟩ => .inl ⟨h1, h2.still ht⟩) fun ⟨dd, xs, h0, h1, h2, h3⟩ => .inr ⟨dd, xs, h0, ht.2 _ _ (.inr (.inl ⟨_, rfl⟩)) h1, ht.2 _ _ (.inr (.inr ⟨_, rfl⟩)) h2, RepL.flat ht fs xs (by simpa [D.flat] using f) h3⟩⟩
  | .jnk, x, f, _ => by simp [D.flat] at f
theorem RepL.flat (ht : Still H H') : ∀ (ds : List D) (xs : List V), D.flatL ds = true → RepL K N H ds xs → RepL K N' H' ds xs
  | [], _, _, h => h
  | d :: r, xs, f, ⟨y, ys, e, h1, h2⟩ => by
    have f' : D.flat d = true ∧ D.flatL r = true := by simpa [D.flatL] using f
    exact ⟨y, ys, e, Rep.flat ht d y f'.1 h1, RepL.flat ht r ys f'.2 h2⟩
end
mutual
/-- lists of N may have been written -/
theorem Rep.kill (hl : ∀ a xs, N a → H a = some (.lst xs) → N' a ∧ ∃ ys, H' a = some (.lst ys)) (ht : Still H H') : ∀ (d : D) (x : V), Rep K N H d x → Rep K N' H' d.kill x
  | .non, _, h => h
  | .bl _, _, h => h
  | .int _, _, h => h
  | .str _, _, h => h
  | .tup ds, x, ⟨a, xs, e, hs, hr⟩ => ⟨a, xs, e, ht.rd hs, RepL.kill hl ht ds xs hr⟩
  | .lst ds, x, ⟨a, xs, e, hs, hr⟩ => let ⟨n, ys, h⟩ := hl _ _ hs.1 hs.2; ⟨a, ys, e, n, h⟩
  | .scr ns, x, ⟨a, e, h⟩ => ⟨a, e, ht.scr h⟩
  | .exc c fs, x, ⟨a, C, e, hc, h⟩ => ⟨a, C, e, hc, h.elim (fun ⟨h1, h2⟩ => .inl ⟨by rw [h1]; rfl, h2.still ht⟩) fun ⟨dd, xs, h0, h1, h2, h3⟩ => .inr ⟨dd, xs, (by cases fs with | nil => exact absurd rfl h0 | cons d r => exact List.cons_ne_nil _ _), ht.2 _ _ (.inr (.inl ⟨_, rfl⟩)) h1, ht.2 _ _ (.inr (.inr ⟨_, rfl⟩)) h2, RepL.kill hl ht fs xs h3⟩⟩
  | .jnk, x, ⟨a, xs, e, n, h⟩ => let ⟨n', ys, h'⟩ := hl _ _ n h; ⟨a, ys, e, n', h'⟩
theorem RepL.kill (hl : ∀ a xs, N a → H a = some (.lst xs) → N' a ∧ ∃ ys, H' a = some (.lst ys)) (ht : Still H H') : ∀ (ds : List D) (xs : List V), RepL K N H ds xs → RepL K N' H' (D.killL ds) xs
  | [], _, h => h
  | d :: r, xs, ⟨y, ys, e, h1, h2⟩ => ⟨y, ys, e, Rep.kill hl ht d y h1, RepL.kill hl ht r ys h2⟩
end
theorem Rep.same (s : Same H H') {d : D} {x : V} (h : Rep K N H d x) : Rep K N H' d x :=
  Rep.imp (fun _ _ n r => ⟨n, s _ _ r⟩) (Same.still s) d x h
theorem RepL.same (s : Same H H') {ds : List D} {xs : List V} (h : RepL K N H ds xs) : RepL K N H' ds xs :=
  RepL.imp (fun _ _ n r => ⟨n, s _ _ r⟩) (Same.still s) ds xs h
theorem Rep.mono (f : ∀ a, N a → N' a) {d : D} {x : V} (h : Rep K N H d x) : Rep K N' H d x := Rep.imp (fun _ _ n r => ⟨f _ n, r⟩) (Still.refl H) d x h
theorem RepL.mono (f : ∀ a, N a → N' a) {ds : List D} {xs : List V} (h : RepL K N H ds xs) : RepL K N' H ds xs := RepL.imp (fun _ _ n r => ⟨f _ n, r⟩) (Still.refl H) ds xs h
theorem RepL.length : ∀ {ds : List D} {xs : List V}, RepL K N H ds xs → xs.length = ds.length
  | [], _, h => by
    have h' : _ = [] := h
    rw [h']
    rfl
  | d :: r, _, ⟨y, ys, e, _, h2⟩ => by
    rw [e, List.length_cons, List.length_cons, RepL.length h2]
theorem RepL.get : ∀ {ds : List D} {xs : List V} {i : Nat} {d : D}, RepL K N H ds xs → ds[i]? = some d → ∃ x, xs[i]? = some x ∧ Rep K N H d x
  | [], _, _, _, _, e => by simp at e
  | d :: r, _, 0, c, ⟨y, ys, e, h1, _⟩, q => by
    have q' : d = c := by simpa using q
    subst q'
    exact ⟨y, by rw [e]; rfl, h1⟩
  | d :: r, _, i + 1, _, ⟨y, ys, e, _, h2⟩, q => by
    obtain ⟨x, e1, h⟩ := RepL.get (i := i) h2 (by simpa using q)
    exact ⟨x, by rw [e]; simpa using e1, h⟩
theorem RepL.getV : ∀ {ds : List D} {xs : List V} {i : Nat} {x : V}, RepL K N H ds xs → xs[i]? = some x → ∃ d, ds[i]? = some d ∧ Rep K N H d x
  | [], xs, _, _, h, e => by
    have h' : xs = [] := h
    rw [h'] at e
    simp at e
  | d :: r, _, 0, c, ⟨y, ys, e, h1, _⟩, q => by
    rw [e] at q
    have q' : y = c := by simpa using q
    subst q'
    exact ⟨d, rfl, h1⟩
  | d :: r, _, i + 1, _, ⟨y, ys, e, _, h2⟩, q => by
    rw [e] at q
    obtain ⟨x, e1, h⟩ := RepL.getV (i := i) h2 (by simpa using q)
    exact ⟨x, by simpa using e1, h⟩
theorem RepL.append : ∀ {ds es : List D} {xs ys : List V}, RepL K N H ds xs → RepL K N H es ys → RepL K N H (ds ++ es) (xs ++ ys)
  | [], _, xs, _, h, g => by
    have h' : xs = [] := h
    rw [h']
    exact g
  | d :: r, es, _, zs, ⟨y, ys, e, h1, h2⟩, g => ⟨y, ys ++ zs, by rw [e]; rfl, h1, RepL.append h2 g⟩
theorem RepL.one {d : D} {x : V} (h : Rep K N H d x) : RepL K N H [d] [x] := ⟨x, [], rfl, h, rfl⟩
theorem RepL.nil : RepL K N H [] [] := rfl
theorem RepL.set : ∀ {ds : List D} {xs : List V} {d : D} {x : V} (i : Nat), RepL K N H ds xs → Rep K N H d x → RepL K N H (ds.set i d) (xs.set i x)
  | [], xs, _, _, _, h, _ => by
    have h' : xs = [] := h
    rw [h']
    rfl
  | c :: r, _, d, x, 0, ⟨y, ys, e, _, h2⟩, g => by
    rw [e]
    exact ⟨x, ys, rfl, g, h2⟩
  | c :: r, _, d, x, i + 1, ⟨y, ys, e, h1, h2⟩, g => by
    rw [e]
    exact ⟨y, ys.set i x, rfl, h1, RepL.set i h2 g⟩
theorem RepL.take : ∀ {ds : List D} {xs : List V} (n : Nat), RepL K N H ds xs → RepL K N H (ds.take n) (xs.take n)
  | _, xs, 0, h => rfl
  | [], xs, n + 1, h => by
    have h' : xs = [] := h
    rw [h']
    rfl
  | d :: r, _, n + 1, ⟨y, ys, e, h1, h2⟩ => by
    rw [e]
    exact ⟨y, ys.take n, rfl, h1, RepL.take n h2⟩
theorem RepL.drop : ∀ {ds : List D} {xs : List V} (n : Nat), RepL K N H ds xs → RepL K N H (ds.drop n) (xs.drop n)
  | _, xs, 0, h => h
  | [], xs, n + 1, h => by
    have h' : xs = [] := h
    rw [h']
    rfl
  | d :: r, _, n + 1, ⟨y, ys, e, h1, h2⟩ => by
    rw [e]
    exact RepL.drop n h2
theorem RepL.eraseIdx : ∀ {ds : List D} {xs : List V} (i : Nat), RepL K N H ds xs → RepL K N H (ds.eraseIdx i) (xs.eraseIdx i)
  | [], xs, _, h => by
    have h' : xs = [] := h
    rw [h']
    rfl
  | c :: r, _, 0, ⟨y, ys, e, _, h2⟩ => by
    rw [e]
    exact h2
  | c :: r, _, i + 1, ⟨y, ys, e, h1, h2⟩ => by
    rw [e]
    exact ⟨y, ys.eraseIdx i, rfl, h1, RepL.eraseIdx i h2⟩
theorem RepL.reverse : ∀ {ds : List D} {xs : List V}, RepL K N H ds xs → RepL K N H ds.reverse xs.reverse
  | [], xs, h => by
    have h' : xs = [] := h
    rw [h']
    rfl
  | d :: r, _, ⟨y, ys, e, h1, h2⟩ => by
    rw [e, List.reverse_cons, List.reverse_cons]
    exact RepL.append (RepL.reverse h2) (RepL.one h1)
/-- ints, texts, truths -/
theorem RepL.ints : ∀ {ns : List Int} {xs : List V}, RepL K N H (ns.map D.int) xs → xs = ns.map V.int
  | [], xs, h => h
  | n :: r, _, ⟨y, ys, e, h1, h2⟩ => by
    have h1' : y = V.int n := h1
    rw [e, h1', RepL.ints h2]
    rfl
theorem RepL.strs : ∀ {ns : List (List Nat)} {xs : List V}, RepL K N H (ns.map D.str) xs → xs = ns.map fun s => V.str ⟨s.toArray⟩
  | [], xs, h => h
  | n :: r, _, ⟨y, ys, e, h1, h2⟩ => by
    have h1' : y = V.str ⟨n.toArray⟩ := h1
    rw [e, h1', RepL.strs h2]
    rfl
theorem RepL.bls : ∀ {ns : List Bool} {xs : List V}, RepL K N H (ns.map D.bl) xs → xs = ns.map V.bl
  | [], xs, h => h
  | n :: r, _, ⟨y, ys, e, h1, h2⟩ => by
    have h1' : y = V.bl n := h1
    rw [e, h1', RepL.bls h2]
    rfl
theorem RepL.of_ints : ∀ (ns : List Int), RepL K N H (ns.map D.int) (ns.map V.int)
  | [] => rfl
  | n :: r => ⟨_, _, rfl, rfl, RepL.of_ints r⟩
mutual
theorem Rep.dp : ∀ (n : Nat) (d : D) (x : V), d.shp n = true → Rep K N H d x → Dp K H x d.py
  | _, .non, _, _, h => by
    have h' : _ = V.non := h
    rw [h']
    exact .non
  | _, .bl b, _, _, h => by
    have h' : _ = V.bl b := h
    rw [h']
    exact .bl b
  | _, .int b, _, _, h => by
    have h' : _ = V.int b := h
    rw [h']
    exact .int b
  | _, .str b, _, _, h => by
    have h' : _ = V.str ⟨b.toArray⟩ := h
    rw [h']
    exact .str _
  | n + 1, .tup ds, _, f, ⟨a, xs, e, hs, hr⟩ => by
    rw [e]
    exact .tup (sqt hs) (RepL.dp n ds xs (by simpa [D.shp] using f) hr)
  | n + 1, .lst ds, _, f, ⟨a, xs, e, hs, hr⟩ => by
    rw [e]
    exact .lst (.inl (.inl hs.2)) (RepL.dp n ds xs (by simpa [D.shp] using f) hr)
  | 0, .tup ds, _, f, _ => by simp [D.shp] at f
  | 0, .lst ds, _, f, _ => by simp [D.shp] at f
  | _, .scr _, _, f, _ => by simp [D.shp] at f
  | _, .exc _ _, _, f, _ => by simp [D.shp] at f
  | _, .jnk, _, f, _ => by simp [D.shp] at f
theorem RepL.dp : ∀ (n : Nat) (ds : List D) (xs : List V), D.shpL n ds = true → RepL K N H ds xs → DpAll K H xs (D.pyL ds)
  | _, [], xs, _, h => by
    have h' : xs = [] := h
    rw [h']
    exact .nil
  | n, d :: r, _, f, ⟨y, ys, e, h1, h2⟩ => by
    have f' : D.shp n d = true ∧ D.shpL n r = true := by simpa [D.shpL] using f
    rw [e]
    exact .cons (Rep.dp n d y f'.1 h1) (RepL.dp n r ys f'.2 h2)
end
end
mutual
theorem shp_can : ∀ (n : Nat) (d : D), d.shp n = true → d.py.canLay0 = true ∧ d.py.depth ≤ n
  | _, .non, _ => ⟨by simp [D.py, PyData.canLay0], by simp [D.py, PyData.depth]⟩
  | _, .bl _, _ => ⟨by simp [D.py, PyData.canLay0], by simp [D.py, PyData.depth]⟩
  | _, .int _, _ => ⟨by simp [D.py, PyData.canLay0], by simp [D.py, PyData.depth]⟩
  | _, .str s, f => ⟨by simpa [D.py, PyData.canLay0, D.shp, PyData.strOk] using f, by simp [D.py, PyData.depth]⟩
  | n + 1, .tup ds, f => by
    obtain ⟨h1, h2⟩ := shpL_can n ds (by simpa [D.shp] using f)
    exact ⟨by simpa [D.py, PyData.canLay0] using h1, by simp [D.py, PyData.depth]; omega⟩
  | n + 1, .lst ds, f => by
    obtain ⟨h1, h2⟩ := shpL_can n ds (by simpa [D.shp] using f)
    exact ⟨by simpa [D.py, PyData.canLay0] using h1, by simp [D.py, PyData.depth]; omega⟩
  | 0, .tup ds, f => by simp [D.shp] at f
  | 0, .lst ds, f => by simp [D.shp] at f
  | _, .scr _, f => by simp [D.shp] at f
  | _, .exc _ _, f => by simp [D.shp] at f
  | _, .jnk, f => by simp [D.shp] at f
theorem shpL_can : ∀ (n : Nat) (ds : List D), D.shpL n ds = true → PyData.canLayAll0 (D.pyL ds) = true ∧ PyData.depthAll (D.pyL ds) ≤ n
  | _, [], _ => ⟨by simp [D.pyL, PyData.canLayAll0], by simp [D.pyL, PyData.depthAll]⟩
  | n, d :: r, f => by
    have f' : D.shp n d = true ∧ D.shpL n r = true := by simpa [D.shpL] using f
    obtain ⟨h1, h2⟩ := shp_can n d f'.1
    obtain ⟨h3, h4⟩ := shpL_can n r f'.2
    refine ⟨by simp [D.pyL, PyData.canLayAll0, h1, h3], ?_⟩
    simp [D.pyL, PyData.depthAll]
    omega
end
theorem shp_shaped {n : Nat} {d : D} (hn : n ≤ 64) (f : d.shp n = true) : SeqAt.shaped d.py = true := by
  obtain ⟨h1, h2⟩ := shp_can n d f
  unfold SeqAt.shaped
  rw [h1, Bool.true_and]
  exact decide_eq_true (Nat.le_trans h2 hn)
end Tg

/-! Tg, part 3: environments over slots; the readings of expressions, tests, argument lists. -/
namespace Tg
open PySem PySem.Spec PyProof.Rows L2

/-- the pairs of a dict: ints, or tuples of ints, and flat data -/
inductive DR {κ : Type} (f : List Int → κ) (K : PySem.W.Frag) (H : Hp) : List (List Int × D) → List (κ × V) → Prop
  | nil : DR f K H [] []
  | cons {k : List Int} {d : D} {y : V} {r : List (List Int × D)} {s : List (κ × V)} : Rep K (fun _ => False) H d y → d.flat = true → DR f K H r s → DR f K H ((k, d) :: r) ((f k, y) :: s)
def fK (k : List Int) : Key := .inl (k.headD 0)
def fT (k : List Int) : List Key := k.map .inl
def fS (k : List Int) : Key := .inr ⟨(k.map Int.toNat).toArray⟩
/-- the kinds of keys: 0 ints, 1 tuples of ints, else texts -/
def okK : Nat → List Int → Bool
  | 0, k => k.length == 1
  | 1, _ => true
  | _ + 2, k => k.all fun i => decide (0 ≤ i)
def DOb (K : PySem.W.Frag) (H : Hp) (t : Nat) (kvs : List (List Int × D)) (o : HO) : Prop := (∀ p ∈ kvs, okK t p.1 = true) ∧ match t with
  | 0 => ∃ ks, o = .dK ks ∧ DR fK K H kvs ks
  | 1 => ∃ ks, o = .dT ks ∧ DR fT K H kvs ks
  | _ + 2 => ∃ ks, o = .dK ks ∧ DR fS K H kvs ks
theorem DR.still {κ : Type} {f : List Int → κ} {K : PySem.W.Frag} {H H' : Hp} (s : Still H H') {kvs : List (List Int × D)} {ks : List (κ × V)} (h : DR f K H kvs ks) : DR f K H' kvs ks := by
  induction h with
  | nil => exact .nil
  | cons h1 h2 _ ih => exact .cons (Rep.flat s _ _ h2 h1) h2 ih
theorem DOb.still {K : PySem.W.Frag} {H H' : Hp} (s : Still H H') {t : Nat} {kvs : List (List Int × D)} {o : HO} (h : DOb K H t kvs o) : DOb K H' t kvs o := by
  refine ⟨h.1, ?_⟩
  match t, h.2 with
  | 0, ⟨ks, e, q⟩ => exact ⟨ks, e, q.still s⟩
  | 1, ⟨ks, e, q⟩ => exact ⟨ks, e, q.still s⟩
  | _ + 2, ⟨ks, e, q⟩ => exact ⟨ks, e, q.still s⟩
/-- a slot that bears a root of its own -/
def S.rooted : S → Prop
  | .val _ => False
  | _ => True
/-- Z: the lists' nodes that no one changes, by groups of slots; rt: the slots' own roots; B: what is younger than the entry -/
structure Rel (K : PySem.W.Frag) (B : Addr → Prop) (G : Nat → Nat) (Z : Nat → Addr → Prop) (rt : Nat → Addr) (e : En) (σ : L2.St) (H : Hp) : Prop where
  len : e.length = σ.length
  val : ∀ (i : Nat) (d : D), e[i]? = some (some (.val d)) → ∃ x, σ[i]? = some (some x) ∧ Rep K (Z (G i)) H d x
  own : ∀ (i : Nat) (ds : List D), e[i]? = some (some (.own ds)) → σ[i]? = some (some (V.ref (rt i))) ∧ B (rt i) ∧ (∀ p, ¬ Z p (rt i)) ∧ ∃ xs, H (rt i) = some (.lst xs) ∧ RepL K (Z (G i)) H ds xs
  dct : ∀ (i : Nat) (t : Nat) (kvs : List (List Int × D)), e[i]? = some (some (.dct t kvs)) → σ[i]? = some (some (V.ref (rt i))) ∧ B (rt i) ∧ (∀ p, ¬ Z p (rt i)) ∧ ∃ o, H (rt i) = some o ∧ DOb K H t kvs o
  injs : ∀ (i j : Nat) (s u : S), e[i]? = some (some s) → e[j]? = some (some u) → s.rooted → u.rooted → rt i = rt j → i = j
  al : ∀ p a, Z p a → H a ≠ none
  dj : ∀ p q a, Z p a → Z q a → p = q
  nw : ∀ p a, p ≠ 0 → Z p a → B a
  yg : ∀ a, H a = none → B a
theorem Rel.inj {K : PySem.W.Frag} {B : Addr → Prop} {G : Nat → Nat} {Z : Nat → Addr → Prop} {rt : Nat → Addr} {e : En} {σ : L2.St} {H : Hp} (r : Rel K B G Z rt e σ H) (i j : Nat) (ds es : List D) (h1 : e[i]? = some (some (.own ds))) (h2 : e[j]? = some (some (.own es))) (h : rt i = rt j) : i = j := r.injs i j _ _ h1 h2 trivial trivial h

/-- the roots of the slots in l -/
def Root (e : En) (rt : Nat → Addr) (l : List Nat) (a : Addr) : Prop := ∃ i ∈ l, (∃ ds, e[i]? = some (some (S.own ds))) ∧ a = rt i
/-- the nodes of a value that has just been reckoned from H on -/
def NZ (G : Nat → Nat) (Z : Nat → Addr → Prop) (e : En) (rt : Nat → Addr) (l : List Nat) (H : Hp) : Addr → Prop := fun a => (∃ i ∈ l, Z (G i) a) ∨ H a = none ∨ Root e rt l a
/-- all slots of l are of the group p -/
def allg (G : Nat → Nat) (p : Nat) (l : List Nat) : Bool := l.all fun j => G j == p
theorem allg_of {G : Nat → Nat} {p : Nat} {l : List Nat} (h : allg G p l = true) : ∀ j ∈ l, G j = p := fun j hj => by
  have := List.all_eq_true.mp h j hj
  simpa using this

def RepS (K : PySem.W.Frag) (N : Addr → Prop) (H H' : Hp) : S → V → Prop
  | .val d, x => Rep K N H' d x
  | .own ds, x => ∃ r xs, x = .ref r ∧ H r = none ∧ H' r = some (.lst xs) ∧ RepL K (fun a => N a ∧ a ≠ r) H' ds xs
  | .dct _ _, _ => False

section
variable {K : PySem.W.Frag} {B : Addr → Prop} {G : Nat → Nat} {Z : Nat → Addr → Prop} {rt : Nat → Addr} {e : En} {σ : L2.St} {H H1 H2 : Hp}
theorem Rel.ext (r : Rel K B G Z rt e σ H) (s : Same H H1) : Rel K B G Z rt e σ H1 :=
  ⟨r.len, fun i d q => let ⟨x, h1, h2⟩ := r.val i d q; ⟨x, h1, h2.same s⟩, fun i ds q => let ⟨h1, h2, h3, xs, h4, h5⟩ := r.own i ds q; ⟨h1, h2, h3, xs, s _ _ h4, h5.same s⟩,
    fun i t kvs q => let ⟨h1, h2, h3, o, h4, h5⟩ := r.dct i t kvs q; ⟨h1, h2, h3, o, s _ _ h4, h5.still (Same.still s)⟩, r.injs,
    fun p a z q => r.al p a z (s.free q), r.dj, r.nw, fun a h => r.yg a (s.free h)⟩
theorem NZ.mono {l l' : List Nat} (h : ∀ i ∈ l, i ∈ l') {a : Addr} (n : NZ G Z e rt l H a) : NZ G Z e rt l' H a := by
  rcases n with ⟨i, hi, n⟩ | n | ⟨i, hi, n⟩
  · exact .inl ⟨i, h i hi, n⟩
  · exact .inr (.inl n)
  · exact .inr (.inr ⟨i, h i hi, n⟩)
theorem NZ.back {l : List Nat} (s : Same H H1) {a : Addr} (n : NZ G Z e rt l H1 a) : NZ G Z e rt l H a := by
  rcases n with n | n | n
  · exact .inl n
  · exact .inr (.inl (s.free n))
  · exact .inr (.inr n)
theorem RepS.d {N : Addr → Prop} {s : S} {x : V} (h : RepS K N H H1 s x) (hn : ∀ a, H a = none → N a) : Rep K N H1 s.d x := by
  cases s with
  | val d => exact h
  | own ds =>
    obtain ⟨r, xs, e, h1, h2, h3⟩ := h
    exact ⟨r, xs, e, ⟨hn r h1, h2⟩, h3.mono fun a z => z.1⟩
  | dct t kvs => exact h.elim
theorem RepS.mono {N N' : Addr → Prop} {s : S} {x : V} (h : RepS K N H H1 s x) (f : ∀ a, N a → N' a) : RepS K N' H H1 s x := by
  cases s with
  | val d => exact Rep.mono f h
  | own ds =>
    obtain ⟨r, xs, e, h1, h2, h3⟩ := h
    exact ⟨r, xs, e, h1, h2, h3.mono fun a z => ⟨f a z.1, z.2⟩⟩
  | dct t kvs => exact h.elim
/-- reckoned from a later heap on -/
theorem RepS.back {N : Addr → Prop} {s : S} {x : V} {H0 : Hp} (h : RepS K N H H1 s x) (sm : Same H0 H) : RepS K N H0 H1 s x := by
  cases s with
  | val d => exact h
  | own ds =>
    obtain ⟨r, xs, e, h1, h2, h3⟩ := h
    exact ⟨r, xs, e, sm.free h1, h2, h3⟩
  | dct t kvs => exact h.elim
theorem RepS.same {N : Addr → Prop} {s : S} {x : V} (h : RepS K N H H1 s x) (sm : Same H1 H2) : RepS K N H H2 s x := by
  cases s with
  | val d => exact Rep.same sm h
  | own ds =>
    obtain ⟨r, xs, e, h1, h2, h3⟩ := h
    exact ⟨r, xs, e, h1, sm _ _ h2, h3.same sm⟩
  | dct t kvs => exact h.elim
end

/-! ### readings -/
/-- xr, from an earlier heap on -/
def XC (xr : Hp → D → Value → Option Addr → Hp → Prop) (H : Hp) (d : D) (c : Value) (o : Option Addr) (H' : Hp) : Prop := ∃ H1, Same H H1 ∧ xr H1 d c o H'
theorem XC.mo {xr : Hp → D → Value → Option Addr → Hp → Prop} {H H1 H' : Hp} {d : D} {c : Value} {o : Option Addr} (h : XC xr H1 d c o H') (s : Same H H1) : XC xr H d c o H' := let ⟨H2, s2, x⟩ := h; ⟨H2, s.trans s2, x⟩
theorem XC.imp {xr xr' : Hp → D → Value → Option Addr → Hp → Prop} {H H' : Hp} {d : D} {c : Value} {o : Option Addr} (h : XC xr H d c o H') (f : ∀ H0 d c o H, xr H0 d c o H → xr' H0 d c o H) : XC xr' H d c o H' := let ⟨H2, s2, x⟩ := h; ⟨H2, s2, f _ _ _ _ _ x⟩
/-- how an exception of the pure run lies in the heap (its class, its dict), and what is wished of it -/
structure Wi where
  xr : Hp → D → Value → Option Addr → Hp → Prop
  w : WX
  g : Nat → Nat
  fr : Bool

/-- an expression's: m, sharing with the slots in l -/
def tE (K : PySem.W.Frag) (W : Wi) (m : Ex) (l : List Nat) : TE := fun σ H Q => ∃ (B : Addr → Prop) (Z : Nat → Addr → Prop) (rt : Nat → Addr) (e : En), Rel K B W.g Z rt e σ H ∧
  match m e with
  | .ok s => ∀ x H', Same H H' → RepS K (NZ W.g Z e rt l H) H H' s x → Q x H'
  | .ex d => ∀ c o H', Same H H' → (XC W.xr H d c o H' → W.w c o σ H')
  | .bad => False
def tA (K : PySem.W.Frag) (W : Wi) (m : Ax) (l : List Nat) : TA := fun σ H Q => ∃ (B : Addr → Prop) (Z : Nat → Addr → Prop) (rt : Nat → Addr) (e : En), Rel K B W.g Z rt e σ H ∧
  match m e with
  | .ok ds => ∀ xs H', Same H H' → RepL K (NZ W.g Z e rt l H) H' ds xs → Q xs H'
  | .ex d => ∀ c o H', Same H H' → (XC W.xr H d c o H' → W.w c o σ H')
  | .bad => False
def tT (K : PySem.W.Frag) (W : Wi) (m : Tx) : TT := fun σ H Q => ∃ (B : Addr → Prop) (Z : Nat → Addr → Prop) (rt : Nat → Addr) (e : En), Rel K B W.g Z rt e σ H ∧
  match m e with
  | .ok b => ∀ H', Same H H' → Q b H'
  | .ex d => ∀ c o H', Same H H' → (XC W.xr H d c o H' → W.w c o σ H')
  | .bad => False

abbrev SE (X : Cx) (W : Wi) (x : Expr) (m : Ex) (l : List Nat) : Prop := PE X x (tE X.K W m l)
abbrev SA (X : Cx) (W : Wi) (x : List Expr) (m : Ax) (l : List Nat) : Prop := PA X x (tA X.K W m l)
abbrev ST (X : Cx) (W : Wi) (x : Expr) (m : Tx) : Prop := PT X x (tT X.K W m)

section
variable {X : Cx} {W : Wi}
theorem PE.imp {x : Expr} {t t' : TE} (h : PE X x t) (f : ∀ σ H Q, t' σ H Q → t σ H Q) : PE X x t' := ⟨fun pins s σ H Q I q => h.run pins s σ H Q I (f σ H Q q)⟩
theorem PA.imp {x : List Expr} {t t' : TA} (h : PA X x t) (f : ∀ σ H Q, t' σ H Q → t σ H Q) : PA X x t' := ⟨fun pos pins s σ H Q I q => h.run pos pins s σ H Q I (f σ H Q q)⟩
theorem PT.imp {x : Expr} {t t' : TT} (h : PT X x t) (f : ∀ σ H Q, t' σ H Q → t σ H Q) : PT X x t' := ⟨fun pins s σ H Q I q => h.run pins s σ H Q I (f σ H Q q)⟩
theorem PS.imp {x : Stmt} {t t' : TS} (h : PS X x t) (f : ∀ D σ H, t' D σ H → t D σ H) : PS X x t' := ⟨fun pins s σ H D I q => h.run pins s σ H D I (f D σ H q)⟩
theorem PSs.imp {x : List Stmt} {t t' : TS} (h : PSs X x t) (f : ∀ D σ H, t' D σ H → t D σ H) : PSs X x t' := ⟨fun pins s σ H D I q => h.run pins s σ H D I (f D σ H q)⟩

/-- one expression, then the rest -/
theorem tE_go {K : PySem.W.Frag} {m : Ex} {l : List Nat} {σ : L2.St} {H : Hp} {Q : VK} {B : Addr → Prop} {Z : Nat → Addr → Prop} {rt : Nat → Addr} {e : En} (r : Rel K B W.g Z rt e σ H)
    (hx : ∀ d, m e = .ex d → ∀ c o H', Same H H' → (XC W.xr H d c o H' → W.w c o σ H')) (hb : m e ≠ .bad)
    (h : ∀ s x H', m e = .ok s → Same H H' → Rel K B W.g Z rt e σ H' → RepS K (NZ W.g Z e rt l H) H H' s x → Q x H') : tE K W m l σ H Q := by
  refine ⟨B, Z, rt, e, r, ?_⟩
  cases q : m e with
  | ok s => exact fun x H' sm rs => h s x H' q sm (r.ext sm) rs
  | ex d => exact hx d q
  | bad => exact hb q
theorem tA_go {K : PySem.W.Frag} {m : Ax} {l : List Nat} {σ : L2.St} {H : Hp} {Q : List V → Hp → Prop} {B : Addr → Prop} {Z : Nat → Addr → Prop} {rt : Nat → Addr} {e : En} (r : Rel K B W.g Z rt e σ H)
    (hx : ∀ d, m e = .ex d → ∀ c o H', Same H H' → (XC W.xr H d c o H' → W.w c o σ H')) (hb : m e ≠ .bad)
    (h : ∀ ds xs H', m e = .ok ds → Same H H' → Rel K B W.g Z rt e σ H' → RepL K (NZ W.g Z e rt l H) H' ds xs → Q xs H') : tA K W m l σ H Q := by
  refine ⟨B, Z, rt, e, r, ?_⟩
  cases q : m e with
  | ok s => exact fun x H' sm rs => h s x H' q sm (r.ext sm) rs
  | ex d => exact hx d q
  | bad => exact hb q
theorem tT_go {K : PySem.W.Frag} {m : Tx} {σ : L2.St} {H : Hp} {Q : Bool → Hp → Prop} {B : Addr → Prop} {Z : Nat → Addr → Prop} {rt : Nat → Addr} {e : En} (r : Rel K B W.g Z rt e σ H)
    (hx : ∀ d, m e = .ex d → ∀ c o H', Same H H' → (XC W.xr H d c o H' → W.w c o σ H')) (hb : m e ≠ .bad)
    (h : ∀ b H', m e = .ok b → Same H H' → Rel K B W.g Z rt e σ H' → Q b H') : tT K W m σ H Q := by
  refine ⟨B, Z, rt, e, r, ?_⟩
  cases q : m e with
  | ok s => exact fun H' sm => h s H' q sm (r.ext sm)
  | ex d => exact hx d q
  | bad => exact hb q

/-- sharing with more -/
theorem x_al {x : Expr} {m : Ex} {l l' : List Nat} (h : SE X W x m l) (s : ∀ i ∈ l, i ∈ l') : SE X W x m l' := PE.imp h fun σ H Q ⟨B, Z, rt, e, r, q⟩ => ⟨B, Z, rt, e, r, by
  cases k : m e with
  | ok v => rw [k] at q; exact fun x H' sm rs => q x H' sm (rs.mono fun a n => NZ.mono s n)
  | ex d => rw [k] at q; exact q
  | bad => rw [k] at q; exact q⟩

/-! names and constants -/
theorem x_var (i : Nat) {n : Str} {pos : Pos} (hN : X.N[i]? = some n := by rfl) (hv : Vis X.env.scope n := by first | exact Or.inl rfl | exact Or.inr (Or.inl rfl) | exact Or.inr (Or.inr rfl))
    (hd : (n == ("__debug__" : Str)) = false := by decide) (hcd : (n == ("__classdict__" : Str)) = false := by decide) : SE X W (.Name n pos) (eVar i) [i] := by
  refine PE.imp (pe_var hN hv hd hcd) fun σ H Q ⟨B, Z, rt, e, r, q⟩ => ?_
  unfold eVar at q
  cases k : e[i]? with
  | none => rw [k] at q; exact q.elim
  | some o =>
    cases o with
    | none => rw [k] at q; exact q.elim
    | some s =>
      rw [k] at q
      cases s with
      | val d =>
        obtain ⟨x, h1, h2⟩ := r.val i d k
        exact ⟨x, h1, q x H (Same.refl H) (h2.mono fun a z => .inl ⟨i, List.mem_singleton.mpr rfl, z⟩)⟩
      | own ds =>
        obtain ⟨h1, h2, h3, xs, h4, h5⟩ := r.own i ds k
        exact ⟨_, h1, q _ H (Same.refl H) ⟨_, _, rfl, ⟨.inr (.inr ⟨i, List.mem_singleton.mpr rfl, ⟨ds, k⟩, rfl⟩), h4⟩, h5.mono fun a z => .inl ⟨i, List.mem_singleton.mpr rfl, z⟩⟩⟩
      | dct t kvs => exact q.elim
/-- a constant reading -/
theorem x_const {x : Expr} {v : V} {d : D} (h : PE X x (tC v)) (hd : ∀ (N : Addr → Prop) (H : Hp), Rep X.K N H d v) : SE X W x (eC d) [] :=
  PE.imp h fun σ H Q ⟨B, Z, rt, e, r, q⟩ => q v H (Same.refl H) (hd _ H)
theorem x_int {i : Int} {j pos} : SE X W (.Constant (.int i) j pos) (eInt i) [] := x_const pe_int fun _ _ => rfl
theorem x_bl {i : Bool} {j pos} : SE X W (.Constant (.bool i) j pos) (eBl i) [] := x_const pe_bl fun _ _ => rfl
theorem x_str {i : Str} (s : List Nat) {j pos} (h : i = ⟨s.toArray⟩ := by decide +kernel) : SE X W (.Constant (.str i) j pos) (eStr s) [] := x_const pe_str fun _ _ => by rw [h]; rfl
theorem x_non {j pos} : SE X W (.Constant .none j pos) eNon [] := x_const pe_non fun _ _ => rfl
/-- a constant of the module: an int, a text -/
theorem x_gint {n : Str} {i : Int} {t : Tok} {pos : Pos} (hm : X.mg n = some (.int i t)) (hg : Gl X n := by rfl) (hd : (n == ("__debug__" : Str)) = false := by decide) : SE X W (.Name n pos) (eInt i) [] := x_const (pe_glob hg hm (show RelV (.int i) (.int i t) from ⟨t, rfl⟩) hd) fun _ _ => rfl
theorem x_gstr {n : Str} {i : Str} (s : List Nat) {t : Tok} {pos : Pos} (hm : X.mg n = some (.str i t)) (hi : i = ⟨s.toArray⟩) (hg : Gl X n := by rfl) (hd : (n == ("__debug__" : Str)) = false := by decide) : SE X W (.Name n pos) (eStr s) [] := x_const (pe_glob hg hm (show RelV (.str i) (.str i t) from ⟨t, rfl⟩) hd) fun _ _ => by rw [hi]; rfl

/-! operators by values: f over data, r over values -/
/-- what a result must be for: new nodes and those of N -/
def OkR (K : PySem.W.Frag) (N : Addr → Prop) (H : Hp) (Q : VK) : R S → Prop
  | .ok s => ∀ x H', Same H H' → RepS K (fun a => N a ∨ H a = none) H H' s x → Q x H'
  | _ => False
def Op1 (K : PySem.W.Frag) (r : V → Hp → VK → Prop) (f : D → R S) : Prop := ∀ (N : Addr → Prop) (H : Hp) (d : D) (x : V) (Q : VK), Rep K N H d x → OkR K N H Q (f d) → r x H Q
def Op2 (K : PySem.W.Frag) (r : R2) (f : D → D → R S) : Prop := ∀ (N : Addr → Prop) (H : Hp) (d c : D) (x y : V) (Q : VK), Rep K N H d x → Rep K N H c y → OkR K N H Q (f d c) → r x y H Q
theorem okR_of {K : PySem.W.Frag} {N N' : Addr → Prop} {H : Hp} {Q : VK} {m : R S} (hb : m ≠ .bad) (hx : ∀ d, m ≠ .ex d) (hn : ∀ a, N a ∨ H a = none → N' a) (h : ∀ s, m = .ok s → ∀ x H', Same H H' → RepS K N' H H' s x → Q x H') : OkR K N H Q m := by
  cases m with
  | ok s => exact fun x H' sm rs => h s rfl x H' sm (rs.mono hn)
  | ex d => exact hx d rfl
  | bad => exact hb rfl
/-- f raises nothing -/
def NoEx2 (f : D → D → R S) : Prop := ∀ d c e, f d c ≠ .ex e
def NoEx1 (f : D → R S) : Prop := ∀ d e, f d ≠ .ex e
theorem sim2 {r : R2} {f : D → D → R S} {m n : Ex} {l k : List Nat} (o : Op2 X.K r f) (hx : NoEx2 f) (σ : L2.St) (H : Hp) (Q : VK) (q : tE X.K W (eOp2 f m n) (l ++ k) σ H Q) : tOp r (tE X.K W m l) (tE X.K W n k) σ H Q := by
  obtain ⟨B, Z, rt, e, r0, q⟩ := q
  unfold eOp2 at q
  refine tE_go r0 (fun d hd => by rw [hd] at q; exact q) (fun hd => by rw [hd] at q; exact q) fun s x H1 hs sm1 r1 rs => ?_
  rw [hs] at q
  refine tE_go r1 (fun d hd c o H' sm => by
    rw [R.bind_ok, hd] at q
    exact (fun z9 => q c o H' (sm1.trans sm) (z9.mo sm1))) (fun hd => by rw [R.bind_ok, hd] at q; exact q) fun s2 y H2 hs2 sm2 r2 rs2 => ?_
  rw [R.bind_ok, hs2, R.bind_ok] at q
  have e1 : Rep X.K (NZ W.g Z e rt (l ++ k) H) H2 s.d x := ((rs.mono fun a z => NZ.mono (fun i hi => List.mem_append_left _ hi) z).d fun a z => .inr (.inl z)).same sm2
  have e2 : Rep X.K (NZ W.g Z e rt (l ++ k) H) H2 s2.d y := (rs2.mono fun a z => (NZ.mono (fun i hi => List.mem_append_right _ hi) z).back sm1).d fun a z => .inr (.inl (sm1.free z))
  refine o _ H2 _ _ x y Q e1 e2 (okR_of (N' := NZ W.g Z e rt (l ++ k) H) (fun h => by rw [h] at q; exact q) (hx _ _) (fun a z => ?_) fun s3 h3 x3 H3 sm3 rs3 => ?_)
  · rcases z with z | z
    · exact z
    · exact .inr (.inl ((sm1.trans sm2).free z))
  · rw [h3] at q
    exact q x3 H3 ((sm1.trans sm2).trans sm3) (rs3.back (sm1.trans sm2))
theorem sim1 {r : V → Hp → VK → Prop} {f : D → R S} {m : Ex} {l : List Nat} (o : Op1 X.K r f) (hx : NoEx1 f) (σ : L2.St) (H : Hp) (Q : VK) (q : tE X.K W (eOp1 f m) l σ H Q) : tUn r (tE X.K W m l) σ H Q := by
  obtain ⟨B, Z, rt, e, r0, q⟩ := q
  unfold eOp1 at q
  refine tE_go r0 (fun d hd => by rw [hd] at q; exact q) (fun hd => by rw [hd] at q; exact q) fun s x H1 hs sm1 r1 rs => ?_
  rw [hs, R.bind_ok] at q
  refine o _ H1 _ x Q (rs.d fun a z => .inr (.inl z)) (okR_of (N' := NZ W.g Z e rt l H) (fun h => by rw [h] at q; exact q) (hx _) (fun a z => ?_) fun s3 h3 x3 H3 sm3 rs3 => ?_)
  · rcases z with z | z
    · exact z
    · exact .inr (.inl (sm1.free z))
  · rw [h3] at q
    exact q x3 H3 (sm1.trans sm3) (rs3.back sm1)
/-- a result that bears no list shares with nothing -/
theorem x_flat {x : Expr} {m : Ex} {l : List Nat} (h : SE X W x m l) (f : ∀ e s, m e = .ok s → ∃ d, s = .val d ∧ d.flat = true) : SE X W x m [] := PE.imp h fun σ H Q ⟨B, Z, rt, e, r, q⟩ => ⟨B, Z, rt, e, r, by
  cases k : m e with
  | ok v =>
    rw [k] at q
    obtain ⟨d, rfl, fd⟩ := f e v k
    exact fun x H' sm rs => q x H' sm (Rep.flat (Still.refl _) d x fd rs)
  | ex d => rw [k] at q; exact q
  | bad => rw [k] at q; exact q⟩

/-! argument lists, displays -/
theorem a_nil : SA X W [] aNil [] := PA.imp pa_nil fun σ H Q ⟨B, Z, rt, e, r, q⟩ => q [] H (Same.refl H) rfl
theorem a_cons {x : Expr} {xs : List Expr} {m : Ex} {n : Ax} {l k : List Nat} (h : SE X W x m l) (g : SA X W xs n k) (hs : starEach (x :: xs) X.env = (false, eval x X.env) :: starEach xs X.env := by rfl) : SA X W (x :: xs) (aCons m n) (l ++ k) := by
  refine PA.imp (pa_cons h g hs) fun σ H Q ⟨B, Z, rt, e, r0, q⟩ => ?_
  unfold aCons at q
  refine tE_go r0 (fun d hd => by rw [hd] at q; exact q) (fun hd => by rw [hd] at q; exact q) fun s x H1 hs sm1 r1 rs => ?_
  rw [hs] at q
  refine tA_go r1 (fun d hd c o H' sm => by
    rw [R.bind_ok, hd] at q
    exact (fun z9 => q c o H' (sm1.trans sm) (z9.mo sm1))) (fun hd => by rw [R.bind_ok, hd] at q; exact q) fun ds ys H2 hs2 sm2 r2 rs2 => ?_
  rw [R.bind_ok, hs2, R.bind_ok] at q
  refine q _ H2 (sm1.trans sm2) ⟨x, ys, rfl, ((rs.mono fun a z => NZ.mono (fun i hi => List.mem_append_left _ hi) z).d fun a z => .inr (.inl z)).same sm2, rs2.mono fun a z => (NZ.mono (fun i hi => List.mem_append_right _ hi) z).back sm1⟩
theorem small_line {n : Nat} (h : n ≤ 100) : n ≤ sizeLine := Nat.le_trans h (by decide)
theorem aLen_nil : ∀ e ds, aNil e = R.ok ds → ds.length = 0 := fun e ds h => by cases h; rfl
theorem aLen_cons {m : Ex} {n : Ax} {k : Nat} (g : ∀ e ds, n e = R.ok ds → ds.length = k) : ∀ e ds, aCons m n e = R.ok ds → ds.length = k + 1 := fun e ds h => by
  unfold aCons at h
  cases h1 : m e with
  | ok s =>
    rw [h1, R.bind_ok] at h
    cases h2 : n e with
    | ok es =>
      rw [h2, R.bind_ok] at h
      cases h
      rw [List.length_cons, g e es h2]
    | ex d => rw [h2] at h; cases h
    | bad => rw [h2] at h; cases h
  | ex d => rw [h1] at h; cases h
  | bad => rw [h1] at h; cases h
theorem x_tup {xs : List Expr} {m : Ax} {l : List Nat} {k : Nat} {j pos} (h : SA X W xs m l) (hl : ∀ e ds, m e = .ok ds → ds.length = k) (hk : k ≤ 100 := by decide) : SE X W (.Tuple xs j pos) (eTup m) l := by
  refine PE.imp (pe_tup h) fun σ H Q ⟨B, Z, rt, e, r0, q⟩ => ?_
  unfold eTup at q
  refine tA_go r0 (fun d hd => by rw [hd] at q; exact q) (fun hd => by rw [hd] at q; exact q) fun ds ys H1 hs sm1 r1 rs => ?_
  rw [hs, R.bind_ok] at q
  refine ⟨by rw [rs.length, hl e ds hs]; exact small_line hk, fun p hp => ?_⟩
  have sm2 : Same H1 (upd H1 p (.tup ys)) := fun b o z => by rw [upd_ne (ne_of_none z hp)]; exact z
  exact q _ _ (sm1.trans sm2) ⟨p, ys, rfl, upd_same, rs.same sm2⟩
theorem x_lst {xs : List Expr} {m : Ax} {l : List Nat} {k : Nat} {pos} (h : SA X W xs m l) (hl : ∀ e ds, m e = .ok ds → ds.length = k) (hk : k ≤ 100 := by decide) : SE X W (.List xs pos) (eLst m) l := by
  refine PE.imp (pe_lst h) fun σ H Q ⟨B, Z, rt, e, r0, q⟩ => ?_
  unfold eLst at q
  refine tA_go r0 (fun d hd => by rw [hd] at q; exact q) (fun hd => by rw [hd] at q; exact q) fun ds ys H1 hs sm1 r1 rs => ?_
  rw [hs, R.bind_ok] at q
  refine ⟨by rw [rs.length, hl e ds hs]; exact small_line hk, fun p hp => ?_⟩
  have sm2 : Same H1 (upd H1 p (.lst ys)) := fun b o z => by rw [upd_ne (ne_of_none z hp)]; exact z
  refine q _ _ (sm1.trans sm2) ⟨p, ys, rfl, sm1.free hp, upd_same, ?_⟩
  -- the items' nodes stand in H1 already
  exact RepL.imp (fun a zs n r => ⟨⟨n, ne_of_none r hp⟩, sm2 _ _ r⟩) (Same.still sm2) ds ys rs
end
end Tg

/-! Tg, part 5: the operators' rules. -/
namespace Tg
open PySem PySem.Spec PyProof.Rows L2

theorem lim_line {n : Nat} (h : n ≤ LIM) : n ≤ sizeLine := Nat.le_trans h (by decide)
theorem str_len (a : List Nat) : (⟨a.toArray⟩ : Str).length = a.length := by
  show a.toArray.size = a.length
  simp
theorem str_app (a b : List Nat) : (⟨a.toArray⟩ : Str) ++ ⟨b.toArray⟩ = ⟨(a ++ b).toArray⟩ := by
  show Str.append _ _ = _
  unfold Str.append
  simp
theorem same_new {H : Hp} {p : Addr} {o : HO} (hp : H p = none) : Same H (upd H p o) := fun b u z => by
  rw [upd_ne (ne_of_none z hp)]
  exact z
section
variable {K : PySem.W.Frag} {N : Addr → Prop} {H : Hp} {Q : VK}
theorem ok_if {c : Prop} [Decidable c] {a : R S} (h : OkR K N H Q (if c then a else .bad)) : c ∧ OkR K N H Q a := by
  by_cases hc : c
  · rw [if_pos hc] at h
    exact ⟨hc, h⟩
  · rw [if_neg hc] at h
    exact False.elim h
theorem ok_int {i : Int} (h : OkR K N H Q (.ok (.val (.int i)))) : Q (.int i) H := h _ H (Same.refl H) rfl
theorem ok_bl {i : Bool} (h : OkR K N H Q (.ok (.val (.bl i)))) : Q (.bl i) H := h _ H (Same.refl H) rfl
theorem ok_str {i : List Nat} (h : OkR K N H Q (.ok (.val (.str i)))) : Q (.str ⟨i.toArray⟩) H := h _ H (Same.refl H) rfl
/-- a new list -/
theorem ok_own {ds : List D} {xs : List V} (h : OkR K N H Q (.ok (.own ds))) (r : RepL K N H ds xs) {p : Addr} (hp : H p = none) : Q (.ref p) (upd H p (.lst xs)) := by
  refine h _ _ (same_new hp) ⟨p, xs, rfl, hp, upd_same, ?_⟩
  exact RepL.imp (fun a zs n r => ⟨⟨.inl n, ne_of_none r hp⟩, same_new hp _ _ r⟩) (Same.still (same_new hp)) ds xs r
theorem ok_tup {ds : List D} {xs : List V} (h : OkR K N H Q (.ok (.val (.tup ds)))) (r : RepL K N H ds xs) {p : Addr} (hp : H p = none) : Q (.ref p) (upd H p (.tup xs)) :=
  h _ _ (same_new hp) ⟨p, xs, rfl, upd_same, (r.same (same_new hp)).mono fun a z => .inl z⟩
theorem ok_val {d : D} {x : V} (h : OkR K N H Q (.ok (.val d))) (r : Rep K N H d x) : Q x H := h _ H (Same.refl H) (r.mono fun a z => .inl z)
theorem RepL.nil_iff {ds : List D} {xs : List V} (r : RepL K N H ds xs) : xs = [] ↔ ds = [] := by
  have e := RepL.length r
  constructor
  · intro h
    rw [h] at e
    exact List.eq_nil_of_length_eq_zero e.symm
  · intro h
    rw [h] at e
    exact List.eq_nil_of_length_eq_zero e
end

def rAdd4 (K : PySem.W.Frag) : R2 := fun x y H Q => rI0 (fun i j => .int (i + j)) x y H Q ∨ (∃ i j, x = .str i ∧ y = .str j ∧ i.length + j.length ≤ sizeLine ∧ Q (.str (i ++ j)) H) ∨ rCatA K x y H Q ∨ rCat x y H Q
theorem op_add4 {X : Cx} : OpR X (binaryOp .Add) (rAdd4 X.K) := op_add.or (op_add_str.or (op_catA.or op_cat))
theorem o_add {K : PySem.W.Frag} : Op2 K (rAdd4 K) oAdd := by
  intro N H d c x y Q rd rc h
  cases d <;> cases c <;> first | exact False.elim h | skip
  · rename_i i j
    obtain rfl : x = .int i := rd
    obtain rfl : y = .int j := rc
    exact .inl ⟨_, _, rfl, rfl, ok_int h⟩
  · rename_i i j
    obtain rfl : x = .str ⟨i.toArray⟩ := rd
    obtain rfl : y = .str ⟨j.toArray⟩ := rc
    obtain ⟨hl, h⟩ := ok_if h
    refine .inr (.inl ⟨_, _, rfl, rfl, by rw [str_len, str_len]; exact lim_line hl, ?_⟩)
    rw [str_app]
    exact ok_str h
  · rename_i ds es
    obtain ⟨a, xs, rfl, s1, r1⟩ := rd
    obtain ⟨b, ys, rfl, s2, r2⟩ := rc
    obtain ⟨hl, h⟩ := ok_if h
    refine .inr (.inr (.inl ⟨a, b, xs, ys, rfl, rfl, sqt s1, sqt s2, by rw [r1.length, r2.length]; exact lim_line hl, fun e => ?_, fun _ e => ?_, fun _ _ p hp => ok_tup h (r1.append r2) hp⟩))
    · have e' := r1.nil_iff.mp e
      subst e'
      exact ok_val h ⟨b, ys, rfl, s2, r2⟩
    · have e' := r2.nil_iff.mp e
      subst e'
      rw [List.append_nil] at h
      exact ok_val h ⟨a, xs, rfl, s1, r1⟩
  · rename_i ds es
    obtain ⟨a, xs, rfl, s1, r1⟩ := rd
    obtain ⟨b, ys, rfl, s2, r2⟩ := rc
    obtain ⟨hl, h⟩ := ok_if h
    exact .inr (.inr (.inr ⟨a, b, xs, ys, rfl, rfl, s1.2, s2.2, by rw [r1.length, r2.length]; exact lim_line hl, fun p hp => ok_own h (r1.append r2) hp⟩))
/-- str * int -/
def rMulS : R2 := fun x y H Q => ∃ (a : List Nat) (k : Int), x = .str ⟨a.toArray⟩ ∧ y = .int k ∧ k ≤ 1000 ∧ -1000 ≤ k ∧ a.length ≤ 1000 ∧ Q (.str ⟨(List.replicate k.toNat a).flatten.toArray⟩) H
theorem rep_foldl (a : List Nat) : ∀ n : Nat, ∀ acc : Array Nat, (List.replicate n a.toArray).foldl (· ++ ·) acc = acc ++ (List.replicate n a).flatten.toArray
  | 0, acc => by simp
  | n + 1, acc => by
    rw [List.replicate_succ, List.foldl_cons, rep_foldl a n, List.replicate_succ, List.flatten_cons]
    simp
theorem op_mulS {X : Cx} : OpR X (binaryOp .Mult) rMulS := by
  intro pins s σ H x y v u Q I rx ry h
  obtain ⟨a, k, rfl, rfl, h1, h2, h3, q⟩ := h
  obtain ⟨t, rfl⟩ := rx
  obtain ⟨t', rfl⟩ := ry
  have big : (a.length * k.toNat : Nat) ≤ 1000000 := by
    have : k.toNat ≤ 1000 := by omega
    exact Nat.mul_le_mul h3 this
  have sl : sizeLine = 16777216 := by decide
  refine PySem.P.mul_str (by rw [decide_eq_false (by omega), decide_eq_false (by omega)]; rfl) (fun hk hne => ?_) (fun hk hne => ?_) ?_
  · rw [str_len]
    have hk' : 0 < k := by omega
    intro hgt
    have e1 : (2 ^ 63 - 1) / k ≥ (2 ^ 63 - 1) / 1000 := by
      refine (Int.le_ediv_iff_mul_le hk').mpr ?_
      have : (2 ^ 63 - 1 : Int) / 1000 * k ≤ (2 ^ 63 - 1 : Int) / 1000 * 1000 := Int.mul_le_mul_of_nonneg_left h1 (by decide)
      have e2 : (2 ^ 63 - 1 : Int) / 1000 * 1000 ≤ 2 ^ 63 - 1 := by decide
      omega
    have e3 : (1000 : Int) ≤ (2 ^ 63 - 1) / 1000 := by decide
    omega
  · rw [str_len]
    have : ¬ a.length * k.toNat > sizeLine := by omega
    show Builtin.Str.tooLong _ = false
    unfold Builtin.Str.tooLong
    simp [this]
  · split
    · rename_i hk
      have e0 : k.toNat = 0 := by omega
      rw [e0] at q
      exact ⟨by decide, ⟨.str _, H, I.tok _, ⟨_, rfl⟩, q⟩⟩
    · rename_i hk
      split
      · rename_i hq
        rw [Bool.or_eq_true] at hq
        rcases hq with hq | hq
        · have e1 : k = 1 := by simpa using hq
          subst e1
          have e2 : (List.replicate (1 : Int).toNat a).flatten = a := by simp
          rw [e2] at q
          exact ⟨.str _, H, I, ⟨_, rfl⟩, q⟩
        · have e1 : a.length = 0 := by
            rw [str_len] at hq
            simpa using hq
          have e2 : a = [] := List.eq_nil_of_length_eq_zero e1
          subst e2
          have e3 : (List.replicate k.toNat ([] : List Nat)).flatten = [] := by simp
          rw [e3] at q
          exact ⟨.str _, H, I, ⟨_, rfl⟩, q⟩
      · have e4 : (List.replicate k.toNat (⟨a.toArray⟩ : Str).cps).foldl (· ++ ·) #[] = (List.replicate k.toNat a).flatten.toArray := by
          have := rep_foldl a k.toNat #[]
          simpa using this
        show Made.post (Made.str ⟨(List.replicate k.toNat (⟨a.toArray⟩ : Str).cps).foldl (· ++ ·) #[]⟩) _ _
        rw [e4]
        refine ⟨?_, ⟨.str _, H, I.tok _, ⟨_, rfl⟩, q⟩⟩
        show (List.replicate k.toNat a).flatten.toArray.size ≤ _
        simp
        have : (List.replicate k.toNat a).flatten.length = k.toNat * a.length := by simp
        first | omega | (rw [Nat.mul_comm] at big; omega)
end Tg

/-! Tg: a tuple times 0 or 1. -/
namespace Tg
open PySem PySem.Spec PyProof.Rows L2
theorem mul_one (l : Addr) (items : Array Value) (n : Nat) (dd : Option Addr) (sl : Array (Option Value)) (x : Int) (u : Tok) (c0 : (decide (x < -(2 ^ 63)) || decide (x ≥ 2 ^ 63)) = false) (c1 : (items.isEmpty || x == 1) = true) :
    Meets (Builtin.«tuple.__mul__» ⟨[.ref l, .int x u], []⟩) (fun _ R s => s.heap.get? l = some { cls := .type "tuple", dict := dd, data := .seq items n, slots := sl } ∧ R (.ok (.ret (Value.ref l))) s) :=
  .of_wp fun prog w A R s h => by
    obtain ⟨hp, g, d, tk, os⟩ := s
    obtain ⟨hl, h⟩ := h
    have f1 := AutoSeq1.idx_int
    wp_walk using wpAny_loadPart' hl
    repeat (first
      | (refine wpAny_ite_false (decide_eq_false (by rw [c0]; exact Bool.false_ne_true)) ?_; wp_walk using wpAny_loadPart' hl)
      | (refine wpAny_ite_true (decide_eq_true c1) ?_; wp_walk using wpAny_loadPart' hl))
    exact ⟨_, rfl, h⟩
theorem mul_zero' (l : Addr) (items : Array Value) (n : Nat) (dd : Option Addr) (sl : Array (Option Value)) (x : Int) (u : Tok) (c0 : (decide (x < -(2 ^ 63)) || decide (x ≥ 2 ^ 63)) = false) (c1 : (items.isEmpty || x == 1) = false) (c2 : (decide (x ≤ 0) || items.isEmpty) = true) :
    Meets (Builtin.«tuple.__mul__» ⟨[.ref l, .int x u], []⟩) (fun _ R s => s.heap.get? l = some { cls := .type "tuple", dict := dd, data := .seq items n, slots := sl } ∧
      R (.ok (.ret (Value.ref s.heap.objs.size))) { s with heap := s.heap.push { cls := Value.type "tuple", data := Data.seq #[] }, toks := s.toks }) :=
  .of_wp fun prog w A R s h => by
    obtain ⟨hp, g, d, tk, os⟩ := s
    obtain ⟨hl, h⟩ := h
    have f1 := AutoSeq1.idx_int
    wp_walk using wpAny_loadPart' hl
    repeat (first
      | (refine wpAny_ite_false (decide_eq_false (by rw [c0]; exact Bool.false_ne_true)) ?_; wp_walk using wpAny_loadPart' hl)
      | (refine wpAny_ite_false (decide_eq_false (by rw [c1]; exact Bool.false_ne_true)) ?_; wp_walk using wpAny_loadPart' hl)
      | (refine wpAny_ite_true (decide_eq_true c2) ?_; wp_walk using wpAny_loadPart' hl))
    exact ⟨_, rfl, h⟩
/-- t * k, k 0 or 1 -/
def rMulT (K : PySem.W.Frag) : R2 := fun x y H Q => ∃ l k xs, x = .ref l ∧ y = .int k ∧ SqT K H l xs ∧ xs ≠ [] ∧ ((k = 1 ∧ Q (.ref l) H) ∨ (k = 0 ∧ ∀ p, H p = none → Q (.ref p) (upd H p (.tup []))))
theorem op_mulT {X : Cx} : OpR X (binaryOp .Mult) (rMulT X.K) := by
  intro pins s σ H x y v u Q I rx ry h
  obtain ⟨l, k, xs, rfl, rfl, hT, hne, h01⟩ := h
  cases rx
  obtain ⟨t, rfl⟩ := ry
  obtain ⟨its, r, ⟨⟨cls, dd, data, sl⟩, ho, hc, n, hd⟩, hs⟩ := I.tuple hT
  simp only at hc hd
  subst hc hd
  have hle : its.length = xs.length := r.length.symm
  have hn : its ≠ [] := fun e => hne (by
    rw [e] at hle
    exact List.eq_nil_of_length_eq_zero hle.symm)
  have hi : its.toArray.isEmpty = false := by
    cases its with
    | nil => exact absurd rfl hn
    | cons a b => rfl
  rcases h01 with ⟨rfl, q⟩ | ⟨rfl, q⟩
  · refine wpAny_binaryOp_repeat_ref (T := "tuple") (U := "int") (by decide) ⟨_, ho, rfl⟩ (fun s' => typeIs_int s' 1 t) noFill_tuple_mul F.fills_int_mul F.slot_int_rmul repeat_tuple F.slot_int_index.lookup
      (call_meets F.slot_int_rmul (typeIs_int s 1 t) F.entry_int_rmul (F.args_int_rmul_2 _ _) (int_rmul_tuple 1 t l its.toArray n dd sl)
        ⟨ho, rfl, ⟨_, ho, rfl⟩, call_meets F.slot_tuple_mul ⟨_, ho, rfl⟩ F.entry_tuple_mul (F.args_tuple_mul_2 _ _) (mul_one l its.toArray n dd sl 1 t (by decide) (by simp)) ⟨ho, ?_⟩⟩)
    exact ⟨.ref l, H, I, rfl, q⟩
  · refine wpAny_binaryOp_repeat_ref (T := "tuple") (U := "int") (by decide) ⟨_, ho, rfl⟩ (fun s' => typeIs_int s' 0 t) noFill_tuple_mul F.fills_int_mul F.slot_int_rmul repeat_tuple F.slot_int_index.lookup
      (call_meets F.slot_int_rmul (typeIs_int s 0 t) F.entry_int_rmul (F.args_int_rmul_2 _ _) (int_rmul_tuple 0 t l its.toArray n dd sl)
        ⟨ho, rfl, ⟨_, ho, rfl⟩, call_meets F.slot_tuple_mul ⟨_, ho, rfl⟩ F.entry_tuple_mul (F.args_tuple_mul_2 _ _) (mul_zero' l its.toArray n dd sl 0 t (by decide) (by rw [hi]; rfl) (by simp)) ⟨ho, ?_⟩⟩)
    refine ⟨.ref s.heap.objs.size, _, I.laid (t' := s.toks) (o := .tup []) (fun b ob q => Heap.get?_push_of_some _ q) (Nat.le_refl _) ?_, rfl, q _ (I.hok.fresh (Nat.le_refl _))⟩
    exact ⟨Nat.zero_le _, [], .nil, IsTup.new _ _⟩
end Tg

/-! Tg, part 6: the operators' rules, further. -/
namespace Tg
open PySem PySem.Spec PyProof.Rows L2
section
variable {K : PySem.W.Frag}
theorem o_sub : Op2 K (rI0 fun i j => .int (i - j)) oSub := by
  intro N H d c x y Q rd rc h
  cases d <;> cases c <;> first | exact False.elim h | skip
  rename_i i j
  obtain rfl : x = .int i := rd
  obtain rfl : y = .int j := rc
  exact ⟨_, _, rfl, rfl, ok_int h⟩
theorem log_lt {i : Int} {n : Nat} (h0 : 0 < n) (h : i.natAbs < 2 ^ n) : i.natAbs.log2 < n := PySem.Flt.log2_lt_of h0 h
def rMul4 (K : PySem.W.Frag) : R2 := fun x y H Q => rI CMulW (fun i j => .int (i * j)) x y H Q ∨ rRep x y H Q ∨ rMulS x y H Q ∨ rMulT K x y H Q
theorem op_mul4 {X : Cx} : OpR X (binaryOp .Mult) (rMul4 X.K) := op_mulW.or (op_rep.or (op_mulS.or op_mulT))
theorem RepL.rep {N : Addr → Prop} {H : Hp} {ds : List D} {xs : List V} (h : RepL K N H ds xs) : ∀ k : Nat, RepL K N H (List.replicate k ds).flatten (List.replicate k xs).flatten
  | 0 => rfl
  | k + 1 => by
    rw [List.replicate_succ, List.replicate_succ, List.flatten_cons, List.flatten_cons]
    exact h.append (RepL.rep h k)
theorem o_mul : Op2 K (rMul4 K) oMul := by
  intro N H d c x y Q rd rc h
  cases d <;> cases c <;> first | exact False.elim h | skip
  · rename_i i j
    obtain rfl : x = .int i := rd
    obtain rfl : y = .int j := rc
    obtain ⟨hl, h⟩ := ok_if h
    have h1 := log_lt (by decide) hl.1
    have h2 := log_lt (by decide) hl.2
    exact .inl ⟨_, _, rfl, rfl, (by show _ + _ < 1000000; omega), ok_int h⟩
  · rename_i a k
    obtain rfl : x = .str ⟨a.toArray⟩ := rd
    obtain rfl : y = .int k := rc
    obtain ⟨hl, h⟩ := ok_if h
    exact .inr (.inr (.inl ⟨a, k, rfl, rfl, hl.1, hl.2.1, hl.2.2, ok_str h⟩))
  · rename_i ds k
    obtain ⟨a, xs, rfl, s1, r1⟩ := rd
    obtain rfl : y = .int k := rc
    obtain ⟨hl, h⟩ := ok_if h
    refine .inr (.inr (.inr ⟨a, k, xs, rfl, rfl, sqt s1, fun e => hl.1 (r1.nil_iff.mp e), ?_⟩))
    rcases hl.2 with rfl | rfl
    · exact .inl ⟨rfl, ok_val h ⟨a, xs, rfl, s1, r1⟩⟩
    · exact .inr ⟨rfl, fun p hp => ok_tup h rfl hp⟩
  · rename_i ds k
    obtain ⟨a, xs, rfl, s1, r1⟩ := rd
    obtain rfl : y = .int k := rc
    obtain ⟨hl, h⟩ := ok_if h
    have hb : xs.length * k.toNat ≤ sizeLine := by
      rw [r1.length]
      have e1 : k.toNat ≤ 1000 := by omega
      exact Nat.le_trans (Nat.mul_le_mul hl.2.2 e1) (by decide)
    exact .inr (.inl ⟨a, k, xs, rfl, rfl, s1.2, by omega, by omega, hb, fun p hp => ok_own h (r1.rep k.toNat) hp⟩)
theorem o_fdiv : Op2 K (rI CDivW fun i j => .int (i / j)) oFdiv := by
  intro N H d c x y Q rd rc h
  cases d <;> cases c <;> first | exact False.elim h | skip
  rename_i i j
  obtain rfl : x = .int i := rd
  obtain rfl : y = .int j := rc
  obtain ⟨hl, h⟩ := ok_if h
  have h2 := log_lt (by decide) hl.2
  exact ⟨_, _, rfl, rfl, ⟨hl.1, by omega⟩, ok_int h⟩
theorem o_mod : Op2 K (rI (fun _ j => 0 < j) fun i j => .int (i % j)) oMod := by
  intro N H d c x y Q rd rc h
  cases d <;> cases c <;> first | exact False.elim h | skip
  rename_i i j
  obtain rfl : x = .int i := rd
  obtain rfl : y = .int j := rc
  obtain ⟨hl, h⟩ := ok_if h
  exact ⟨_, _, rfl, rfl, hl, ok_int h⟩
theorem o_pow : Op2 K (rI CPow fun i j => .int (i ^ j.toNat)) oPow := by
  intro N H d c x y Q rd rc h
  cases d <;> cases c <;> first | exact False.elim h | skip
  rename_i i j
  obtain rfl : x = .int i := rd
  obtain rfl : y = .int j := rc
  obtain ⟨hl, h⟩ := ok_if h
  exact ⟨_, _, rfl, rfl, ⟨hl.1, by omega, hl.2.2⟩, ok_int h⟩
theorem o_shl : Op2 K (rI CPow fun i j => .int (i * 2 ^ j.toNat)) oShl := by
  intro N H d c x y Q rd rc h
  cases d <;> cases c <;> first | exact False.elim h | skip
  rename_i i j
  obtain rfl : x = .int i := rd
  obtain rfl : y = .int j := rc
  obtain ⟨hl, h⟩ := ok_if h
  exact ⟨_, _, rfl, rfl, ⟨hl.1, by omega, hl.2.2⟩, ok_int h⟩
theorem o_shr : Op2 K (rI (fun _ j => 0 ≤ j) fun i j => .int (i / 2 ^ j.toNat)) oShr := by
  intro N H d c x y Q rd rc h
  cases d <;> cases c <;> first | exact False.elim h | skip
  rename_i i j
  obtain rfl : x = .int i := rd
  obtain rfl : y = .int j := rc
  obtain ⟨hl, h⟩ := ok_if h
  exact ⟨_, _, rfl, rfl, hl, ok_int h⟩
theorem o_and : Op2 K (rI0 fun i j => .int (Builtin.bitAnd i j)) oAnd := by
  intro N H d c x y Q rd rc h
  cases d <;> cases c <;> first | exact False.elim h | skip
  rename_i i j
  obtain rfl : x = .int i := rd
  obtain rfl : y = .int j := rc
  exact ⟨_, _, rfl, rfl, ok_int h⟩
theorem o_or : Op2 K (rI0 fun i j => .int (Builtin.bitOr i j)) oOr := by
  intro N H d c x y Q rd rc h
  cases d <;> cases c <;> first | exact False.elim h | skip
  rename_i i j
  obtain rfl : x = .int i := rd
  obtain rfl : y = .int j := rc
  exact ⟨_, _, rfl, rfl, ok_int h⟩
theorem o_neg : Op1 K (rU fun i => .int (-i)) oNeg := by
  intro N H d x Q rd h
  cases d <;> first | exact False.elim h | skip
  rename_i i
  obtain rfl : x = .int i := rd
  exact ⟨_, rfl, ok_int h⟩
theorem toList_str (a : List Nat) : (⟨a.toArray⟩ : Str).cps.toList = a := by
  show a.toArray.toList = a
  simp
def rLt4 (K : PySem.W.Frag) : R2 := fun x y H Q => rI0 (fun i j => .bl (decide (i < j))) x y H Q ∨ (∃ i j, x = .str i ∧ y = .str j ∧ Q (.bl (decide (i.cps.toList < j.cps.toList))) H) ∨ rLtT K x y H Q
theorem op_lt4 {X : Cx} (hu : X.A.units < cLine) : OpR X (compareOp .Lt) (rLt4 X.K) := op_lt.or (op_lt_str.or (op_ltT hu))
theorem o_lt : Op2 K (rLt4 K) oLt := by
  intro N H d c x y Q rd rc h
  cases d <;> cases c <;> first | exact False.elim h | skip
  · rename_i i j
    obtain rfl : x = .int i := rd
    obtain rfl : y = .int j := rc
    exact .inl ⟨_, _, rfl, rfl, ok_bl h⟩
  · rename_i i j
    obtain rfl : x = .str ⟨i.toArray⟩ := rd
    obtain rfl : y = .str ⟨j.toArray⟩ := rc
    refine .inr (.inl ⟨_, _, rfl, rfl, ?_⟩)
    rw [toList_str, toList_str]
    exact ok_bl h
  · rename_i ds es
    obtain ⟨a, xs, rfl, s1, r1⟩ := rd
    obtain ⟨b, ys, rfl, s2, r2⟩ := rc
    unfold oLt at h
    cases e1 : D.ints ds with
    | none => simp only [e1] at h; exact False.elim h
    | some ns =>
      cases e2 : D.ints es with
      | none => simp only [e1, e2] at h; exact False.elim h
      | some ms =>
        simp only [e1, e2] at h
        have q1 := ints_some e1
        have q2 := ints_some e2
        subst q1 q2
        rw [r1.ints] at s1
        rw [r2.ints] at s2
        exact .inr (.inr ⟨a, b, ns, ms, rfl, rfl, sqt s1, sqt s2, ok_bl h⟩)
def rGt4 : R2 := fun x y H Q => rI0 (fun i j => .bl (decide (j < i))) x y H Q ∨ (∃ i j, x = .str i ∧ y = .str j ∧ Q (.bl (decide (j.cps.toList < i.cps.toList))) H)
theorem op_gt4 {X : Cx} : OpR X (compareOp .Gt) rGt4 := op_gt.or op_gt_str
theorem o_gt : Op2 K rGt4 oGt := by
  intro N H d c x y Q rd rc h
  cases d <;> cases c <;> first | exact False.elim h | skip
  · rename_i i j
    obtain rfl : x = .int i := rd
    obtain rfl : y = .int j := rc
    exact .inl ⟨_, _, rfl, rfl, ok_bl h⟩
  · rename_i i j
    obtain rfl : x = .str ⟨i.toArray⟩ := rd
    obtain rfl : y = .str ⟨j.toArray⟩ := rc
    refine .inr ⟨_, _, rfl, rfl, ?_⟩
    rw [toList_str, toList_str]
    exact ok_bl h
theorem o_le : Op2 K (rI0 fun i j => .bl (decide (i ≤ j))) oLe := by
  intro N H d c x y Q rd rc h
  cases d <;> cases c <;> first | exact False.elim h | skip
  rename_i i j
  obtain rfl : x = .int i := rd
  obtain rfl : y = .int j := rc
  exact ⟨_, _, rfl, rfl, ok_bl h⟩
theorem o_ge : Op2 K (rI0 fun i j => .bl (decide (j ≤ i))) oGe := by
  intro N H d c x y Q rd rc h
  cases d <;> cases c <;> first | exact False.elim h | skip
  rename_i i j
  obtain rfl : x = .int i := rd
  obtain rfl : y = .int j := rc
  exact ⟨_, _, rfl, rfl, ok_bl h⟩
theorem o_eq : Op2 K (rEqD K) oEq := by
  intro N H d c x y Q rd rc h
  obtain ⟨hl, h⟩ := ok_if h
  rw [Bool.and_eq_true] at hl
  exact ⟨_, _, Rep.dp _ d x hl.1 rd, Rep.dp _ c y hl.2 rc, shp_shaped (by decide) hl.1, shp_shaped (by decide) hl.2, ok_bl h⟩
theorem o_ne : Op2 K (rNeD K) oNe := by
  intro N H d c x y Q rd rc h
  obtain ⟨hl, h⟩ := ok_if h
  rw [Bool.and_eq_true] at hl
  exact ⟨_, _, Rep.dp _ d x hl.1 rd, Rep.dp _ c y hl.2 rc, shp_shaped (by decide) hl.1, shp_shaped (by decide) hl.2, ok_bl h⟩
theorem isNon_of {N : Addr → Prop} {H : Hp} {d : D} {x : V} (h : Rep K N H d x) : decide (x = .non) = isNon d := by
  cases d with
  | non => obtain rfl : x = .non := h; rfl
  | bl b => obtain rfl : x = .bl b := h; rfl
  | int b => obtain rfl : x = .int b := h; rfl
  | str b => obtain rfl : x = .str ⟨b.toArray⟩ := h; rfl
  | tup ds => obtain ⟨a, xs, rfl, _⟩ := h; rfl
  | lst ds => obtain ⟨a, xs, rfl, _⟩ := h; rfl
  | scr ns => obtain ⟨a, rfl, _⟩ := h; rfl
  | exc c fs => obtain ⟨a, C, rfl, _⟩ := h; rfl
  | jnk => obtain ⟨a, xs, rfl, _⟩ := h; rfl
/-- x in a list or a tuple, of data -/
def rInQ (K : PySem.W.Frag) (neg : Bool) : R2 := fun x y H Q => ∃ d ds, Dp K H x d ∧ (Dp K H y (.list ds) ∨ Dp K H y (.tuple ds)) ∧ SeqAt.shaped d = true ∧ PyData.canLayAll0 ds = true ∧ Q (.bl (if neg then !ds.any fun z => PyData.eqv z d else ds.any fun z => PyData.eqv z d)) H
theorem op_inQ {X : Cx} (hu : X.A.units + 65 < cLine) : OpR X (compareOp .In) (rInQ X.K false) := by
  intro pins s σ H x y v u Q I rx ry h
  obtain ⟨d, ds, hd, he, sd, se, q⟩ := h
  obtain ⟨as, r1⟩ := Dp.reads I d x v hd rx
  rcases he with he | he
  · obtain ⟨bs, r2⟩ := Dp.reads I (.list ds) y u he ry
    exact SeqAt.in_list_reads r2 r1 se (SeqAt.canLay_of_shaped sd) (room_in_shaped sd hu) ⟨.bl _, H, I, rfl, q⟩
  · obtain ⟨bs, r2⟩ := Dp.reads I (.tuple ds) y u he ry
    exact SeqAt.in_tuple_reads r2 r1 se (SeqAt.canLay_of_shaped sd) (room_in_shaped sd hu) ⟨.bl _, H, I, rfl, q⟩
theorem op_notInQ {X : Cx} (hu : X.A.units + 65 < cLine) : OpR X (compareOp .NotIn) (rInQ X.K true) := by
  intro pins s σ H x y v u Q I rx ry h
  obtain ⟨d, ds, hd, he, sd, se, q⟩ := h
  obtain ⟨as, r1⟩ := Dp.reads I d x v hd rx
  rcases he with he | he
  · obtain ⟨bs, r2⟩ := Dp.reads I (.list ds) y u he ry
    exact SeqAt.notIn_list_reads r2 r1 se (SeqAt.canLay_of_shaped sd) (room_in_shaped sd hu) ⟨.bl _, H, I, rfl, q⟩
  · obtain ⟨bs, r2⟩ := Dp.reads I (.tuple ds) y u he ry
    exact SeqAt.notIn_tuple_reads r2 r1 se (SeqAt.canLay_of_shaped sd) (room_in_shaped sd hu) ⟨.bl _, H, I, rfl, q⟩
theorem any_pyL (p : PyData) : ∀ ds : List D, ((D.pyL ds).any fun z => PyData.eqv z p) = ds.any fun z => PyData.eqv z.py p
  | [] => by simp [D.pyL]
  | d :: r => by
    have := any_pyL p r
    simp only [D.pyL, List.any_cons, this]
def rIn4 (K : PySem.W.Frag) : R2 := fun x y H Q => (∃ (c : Nat) (z : Str), x = .str ⟨#[c]⟩ ∧ y = .str z ∧ Q (.bl (decide (c ∈ z.cps.toList))) H) ∨ rInQ K false x y H Q
def rNotIn4 (K : PySem.W.Frag) : R2 := fun x y H Q => (∃ (c : Nat) (z : Str), x = .str ⟨#[c]⟩ ∧ y = .str z ∧ Q (.bl (!decide (c ∈ z.cps.toList))) H) ∨ rInQ K true x y H Q
theorem op_in4 {X : Cx} (hu : X.A.units + 65 < cLine) : OpR X (compareOp .In) (rIn4 X.K) := op_in_sign.or (op_inQ hu)
theorem op_notIn4 {X : Cx} (hu : X.A.units + 65 < cLine) : OpR X (compareOp .NotIn) (rNotIn4 X.K) := op_notIn_sign.or (op_notInQ hu)
theorem can_of {n : Nat} {ds : List D} (h : D.shpL n ds = true) : PyData.canLayAll0 (D.pyL ds) = true := (shpL_can n ds h).1
theorem o_in : Op2 K (rIn4 K) oIn := by
  intro N H d c x y Q rd rc h
  unfold oIn at h
  split at h
  · rename_i s b
    obtain rfl : x = .str ⟨#[s]⟩ := rd
    obtain rfl : y = .str ⟨b.toArray⟩ := rc
    refine .inl ⟨s, _, rfl, rfl, ?_⟩
    rw [toList_str]
    exact ok_bl h
  · obtain ⟨hl, h⟩ := ok_if h
    rw [Bool.and_eq_true] at hl
    obtain ⟨a, xs, rfl, s1, r1⟩ := rc
    refine .inr ⟨_, _, Rep.dp _ _ x hl.1 rd, .inl (.lst (.inl (.inl s1.2)) (RepL.dp _ _ xs hl.2 r1)), shp_shaped (by decide) hl.1, can_of hl.2, ?_⟩
    rw [any_pyL]
    exact ok_bl h
  · obtain ⟨hl, h⟩ := ok_if h
    rw [Bool.and_eq_true] at hl
    obtain ⟨a, xs, rfl, s1, r1⟩ := rc
    refine .inr ⟨_, _, Rep.dp _ _ x hl.1 rd, .inr (.tup (sqt s1) (RepL.dp _ _ xs hl.2 r1)), shp_shaped (by decide) hl.1, can_of hl.2, ?_⟩
    rw [any_pyL]
    exact ok_bl h
  · exact False.elim h
theorem o_notIn : Op2 K (rNotIn4 K) oNotIn := by
  intro N H d c x y Q rd rc h
  unfold oNotIn at h
  split at h
  · rename_i s b
    obtain rfl : x = .str ⟨#[s]⟩ := rd
    obtain rfl : y = .str ⟨b.toArray⟩ := rc
    refine .inl ⟨s, _, rfl, rfl, ?_⟩
    rw [toList_str]
    exact ok_bl h
  · obtain ⟨hl, h⟩ := ok_if h
    rw [Bool.and_eq_true] at hl
    obtain ⟨a, xs, rfl, s1, r1⟩ := rc
    refine .inr ⟨_, _, Rep.dp _ _ x hl.1 rd, .inl (.lst (.inl (.inl s1.2)) (RepL.dp _ _ xs hl.2 r1)), shp_shaped (by decide) hl.1, can_of hl.2, ?_⟩
    rw [any_pyL]
    exact ok_bl h
  · obtain ⟨hl, h⟩ := ok_if h
    rw [Bool.and_eq_true] at hl
    obtain ⟨a, xs, rfl, s1, r1⟩ := rc
    refine .inr ⟨_, _, Rep.dp _ _ x hl.1 rd, .inr (.tup (sqt s1) (RepL.dp _ _ xs hl.2 r1)), shp_shaped (by decide) hl.1, can_of hl.2, ?_⟩
    rw [any_pyL]
    exact ok_bl h
  · exact False.elim h
/-! places -/
theorem RepL.atI {N : Addr → Prop} {H : Hp} {ds : List D} {xs : List V} (r : RepL K N H ds xs) {i : Int} {d : D} (h : atI ds i = some d) : ∃ x, atI xs i = some x ∧ Rep K N H d x := by
  unfold L2.atI at h ⊢
  rw [r.length]
  cases q : ixN ds.length i with
  | none => rw [q] at h; cases h
  | some j =>
    rw [q] at h
    exact r.get h
def rIxScr (K : PySem.W.Frag) : R2 := rIx K
theorem o_item : Op2 K (rIx K) oItem := by
  intro N H d c x y Q rd rc h
  cases d <;> cases c <;> first | exact False.elim h | skip
  · rename_i s i
    obtain rfl : x = .str ⟨s.toArray⟩ := rd
    obtain rfl : y = .int i := rc
    obtain ⟨hl, h⟩ := ok_if h
    cases q : L2.atI s i with
    | none => simp only [q] at h; exact False.elim h
    | some ch =>
      simp only [q] at h
      refine .inr (.inr ⟨_, i, ch, rfl, rfl, by rw [str_len]; exact lim_line hl, by rw [toList_str]; exact q, ?_⟩)
      exact ok_str (i := [ch]) h
  · rename_i ds i
    obtain ⟨a, xs, rfl, s1, r1⟩ := rd
    obtain rfl : y = .int i := rc
    unfold oItem at h
    cases q : L2.atI ds i with
    | none => simp only [q] at h; exact False.elim h
    | some e =>
      simp only [q] at h
      obtain ⟨v, h1, h2⟩ := r1.atI q
      exact .inr (.inl ⟨a, xs, i, v, rfl, rfl, sqt s1, h1, ok_val h h2⟩)
  · rename_i ds i
    obtain ⟨a, xs, rfl, s1, r1⟩ := rd
    obtain rfl : y = .int i := rc
    unfold oItem at h
    cases q : L2.atI ds i with
    | none => simp only [q] at h; exact False.elim h
    | some e =>
      simp only [q] at h
      obtain ⟨v, h1, h2⟩ := r1.atI q
      exact .inl ⟨a, xs, i, v, rfl, rfl, .inl (.inl s1.2), h1, ok_val h h2⟩
  · rename_i ns i
    obtain ⟨a, rfl, s1⟩ := rd
    obtain rfl : y = .int i := rc
    unfold oItem at h
    cases q : L2.atI ns i with
    | none => simp only [q] at h; exact False.elim h
    | some e =>
      simp only [q] at h
      refine .inl ⟨a, _, i, .int e, rfl, rfl, s1.seq, ?_, ok_int h⟩
      unfold L2.atI at q ⊢
      rw [List.length_map]
      cases q2 : ixN ns.length i with
      | none => rw [q2] at q; cases q
      | some j =>
        rw [q2] at q
        show (ns.map V.int)[j]? = _
        rw [List.getElem?_map, show ns[j]? = some e from q]
        rfl
theorem RepL.cut {N : Addr → Prop} {H : Hp} {ds : List D} {xs : List V} (r : RepL K N H ds xs) (lo hi : Option Int) : RepL K N H (cutL ds lo hi) (cutV xs lo hi) := by
  unfold cutL L2.cutV
  rw [r.length]
  exact (r.drop _).take _
theorem cutL_map {α β : Type} (f : α → β) (xs : List α) (lo hi : Option Int) : cutL (xs.map f) lo hi = (cutL xs lo hi).map f := by
  unfold cutL
  rw [List.length_map, List.map_take, List.map_drop]
theorem cutL_whole {α : Type} (xs : List α) {lo hi : Option Int} (h1 : HT.sIx xs.length 0 lo = 0) (h2 : HT.sIx xs.length xs.length hi = xs.length) : cutL xs lo hi = xs := by
  unfold cutL
  rw [h1, h2]
  simp
/-- a slice, of a list, a tuple, a text -/
def rSl4 (K : PySem.W.Frag) : V → Option Int → Option Int → Hp → VK → Prop := fun x lo hi H Q => rSlL K x lo hi H Q ∨ rSlA K x lo hi H Q ∨ rSlS x lo hi H Q
theorem sl_4 {X : Cx} : SlR X (rSl4 X.K) := sl_list.or (sl_tupA.or sl_str)
theorem o_sl (lo hi : Option Int) : Op1 K (fun x H Q => rSl4 K x lo hi H Q) (oSl lo hi) := by
  intro N H d x Q rd h
  cases d <;> first | exact False.elim h | skip
  · rename_i s
    obtain rfl : x = .str ⟨s.toArray⟩ := rd
    obtain ⟨hl, h⟩ := ok_if h
    refine .inr (.inr ⟨_, rfl, by rw [str_len]; exact lim_line hl, ?_⟩)
    have e : cutS ⟨s.toArray⟩ lo hi = ⟨(cutL s lo hi).toArray⟩ := by
      unfold L2.cutS cutL
      rw [toList_str, str_len]
    rw [e]
    exact ok_str h
  · rename_i ds
    obtain ⟨a, xs, rfl, s1, r1⟩ := rd
    refine .inr (.inl ⟨a, xs, rfl, sqt s1, fun hw => ?_, fun _ p hp => ok_tup h (r1.cut lo hi) hp⟩)
    rw [r1.length] at hw
    have h' : OkR K N H Q (.ok (.val (.tup (cutL ds lo hi)))) := h
    rw [cutL_whole ds hw.1 hw.2] at h'
    exact ok_val h' ⟨a, xs, rfl, s1, r1⟩
  · rename_i ds
    obtain ⟨a, xs, rfl, s1, r1⟩ := rd
    exact .inl ⟨a, xs, rfl, .inl (.inl s1.2), fun p hp => ok_own h (r1.cut lo hi) hp⟩
  · rename_i ns
    obtain ⟨a, rfl, s1⟩ := rd
    refine .inl ⟨a, _, rfl, s1.seq, fun p hp => ?_⟩
    have e : cutV (ns.map V.int) lo hi = (cutL ns lo hi).map V.int := cutL_map V.int ns lo hi
    rw [e]
    exact ok_own h (RepL.of_ints _) hp
end
end Tg

/-! Tg, part 7: expressions and tests. -/
namespace Tg
open PySem PySem.Spec PyProof.Rows L2

/-- results that bear no list -/
def Fl1 (f : D → R S) : Prop := ∀ d s, f d = .ok s → ∃ c, s = .val c ∧ c.flat = true
def Fl2 (f : D → D → R S) : Prop := ∀ d e s, f d e = .ok s → ∃ c, s = .val c ∧ c.flat = true
section
theorem nx_add : NoEx2 oAdd := by
  intro d c e h
  unfold oAdd at h
  split at h <;> (try split at h) <;> cases h
theorem nx_sub : NoEx2 oSub := by
  intro d c e h
  unfold oSub at h
  split at h <;> (try split at h) <;> cases h
theorem fl_sub : Fl2 oSub := by
  intro d c s h
  unfold oSub at h
  split at h <;> (try split at h) <;> cases h <;> exact ⟨_, rfl, rfl⟩
theorem nx_mul : NoEx2 oMul := by
  intro d c e h
  unfold oMul at h
  split at h <;> (try split at h) <;> cases h
theorem nx_fdiv : NoEx2 oFdiv := by
  intro d c e h
  unfold oFdiv at h
  split at h <;> (try split at h) <;> cases h
theorem fl_fdiv : Fl2 oFdiv := by
  intro d c s h
  unfold oFdiv at h
  split at h <;> (try split at h) <;> cases h <;> exact ⟨_, rfl, rfl⟩
theorem nx_mod : NoEx2 oMod := by
  intro d c e h
  unfold oMod at h
  split at h <;> (try split at h) <;> cases h
theorem fl_mod : Fl2 oMod := by
  intro d c s h
  unfold oMod at h
  split at h <;> (try split at h) <;> cases h <;> exact ⟨_, rfl, rfl⟩
theorem nx_pow : NoEx2 oPow := by
  intro d c e h
  unfold oPow at h
  split at h <;> (try split at h) <;> cases h
theorem fl_pow : Fl2 oPow := by
  intro d c s h
  unfold oPow at h
  split at h <;> (try split at h) <;> cases h <;> exact ⟨_, rfl, rfl⟩
theorem nx_shl : NoEx2 oShl := by
  intro d c e h
  unfold oShl at h
  split at h <;> (try split at h) <;> cases h
theorem fl_shl : Fl2 oShl := by
  intro d c s h
  unfold oShl at h
  split at h <;> (try split at h) <;> cases h <;> exact ⟨_, rfl, rfl⟩
theorem nx_shr : NoEx2 oShr := by
  intro d c e h
  unfold oShr at h
  split at h <;> (try split at h) <;> cases h
theorem fl_shr : Fl2 oShr := by
  intro d c s h
  unfold oShr at h
  split at h <;> (try split at h) <;> cases h <;> exact ⟨_, rfl, rfl⟩
theorem nx_and : NoEx2 oAnd := by
  intro d c e h
  unfold oAnd at h
  split at h <;> cases h
theorem fl_and : Fl2 oAnd := by
  intro d c s h
  unfold oAnd at h
  split at h <;> cases h <;> exact ⟨_, rfl, rfl⟩
theorem nx_or : NoEx2 oOr := by
  intro d c e h
  unfold oOr at h
  split at h <;> cases h
theorem fl_or : Fl2 oOr := by
  intro d c s h
  unfold oOr at h
  split at h <;> cases h <;> exact ⟨_, rfl, rfl⟩
theorem nx_neg : NoEx1 oNeg := by
  intro d e h
  unfold oNeg at h
  split at h <;> cases h
theorem fl_neg : Fl1 oNeg := by
  intro d s h
  unfold oNeg at h
  split at h <;> cases h <;> exact ⟨_, rfl, rfl⟩
theorem nx_lt : NoEx2 oLt := by
  intro d c e h
  unfold oLt at h
  split at h <;> (try split at h) <;> cases h
theorem fl_lt : Fl2 oLt := by
  intro d c s h
  unfold oLt at h
  split at h <;> (try split at h) <;> cases h <;> exact ⟨_, rfl, rfl⟩
theorem nx_gt : NoEx2 oGt := by
  intro d c e h
  unfold oGt at h
  split at h <;> (try split at h) <;> cases h
theorem fl_gt : Fl2 oGt := by
  intro d c s h
  unfold oGt at h
  split at h <;> (try split at h) <;> cases h <;> exact ⟨_, rfl, rfl⟩
theorem nx_le : NoEx2 oLe := by
  intro d c e h
  unfold oLe at h
  split at h <;> cases h
theorem fl_le : Fl2 oLe := by
  intro d c s h
  unfold oLe at h
  split at h <;> cases h <;> exact ⟨_, rfl, rfl⟩
theorem nx_ge : NoEx2 oGe := by
  intro d c e h
  unfold oGe at h
  split at h <;> cases h
theorem fl_ge : Fl2 oGe := by
  intro d c s h
  unfold oGe at h
  split at h <;> cases h <;> exact ⟨_, rfl, rfl⟩
theorem nx_eq : NoEx2 oEq := by
  intro d c e h
  unfold oEq at h
  split at h <;> cases h
theorem fl_eq : Fl2 oEq := by
  intro d c s h
  unfold oEq at h
  split at h <;> cases h <;> exact ⟨_, rfl, rfl⟩
theorem nx_ne : NoEx2 oNe := by
  intro d c e h
  unfold oNe at h
  split at h <;> cases h
theorem fl_ne : Fl2 oNe := by
  intro d c s h
  unfold oNe at h
  split at h <;> cases h <;> exact ⟨_, rfl, rfl⟩
theorem nx_in : NoEx2 oIn := by
  intro d c e h
  unfold oIn at h
  split at h <;> (try split at h) <;> cases h
theorem fl_in : Fl2 oIn := by
  intro d c s h
  unfold oIn at h
  split at h <;> (try split at h) <;> cases h <;> exact ⟨_, rfl, rfl⟩
theorem nx_notIn : NoEx2 oNotIn := by
  intro d c e h
  unfold oNotIn at h
  split at h <;> (try split at h) <;> cases h
theorem fl_notIn : Fl2 oNotIn := by
  intro d c s h
  unfold oNotIn at h
  split at h <;> (try split at h) <;> cases h <;> exact ⟨_, rfl, rfl⟩
theorem nx_item : NoEx2 oItem := by
  intro d c e h
  unfold oItem at h
  split at h <;> (try split at h) <;> (try split at h) <;> cases h
theorem nx_sl (lo hi : Option Int) : NoEx1 (oSl lo hi) := by
  intro d e h
  unfold oSl at h
  split at h <;> (try split at h) <;> cases h
theorem nx_rev : NoEx1 oRev := by
  intro d e h
  unfold oRev at h
  split at h <;> cases h
end

section
variable {X : Cx} {W : Wi} {a b : Expr} {m n : Ex} {l k : List Nat} {pos : Pos}
theorem fl_e2 {f : D → D → R S} (g : Fl2 f) : ∀ e s, eOp2 f m n e = .ok s → ∃ d, s = .val d ∧ d.flat = true := fun e s h => by
  unfold eOp2 at h
  cases h1 : m e with
  | ok x =>
    rw [h1, R.bind_ok] at h
    cases h2 : n e with
    | ok y => rw [h2, R.bind_ok] at h; exact g _ _ _ h
    | ex d => rw [h2] at h; cases h
    | bad => rw [h2] at h; cases h
  | ex d => rw [h1] at h; cases h
  | bad => rw [h1] at h; cases h
theorem fl_e1 {f : D → R S} (g : Fl1 f) : ∀ e s, eOp1 f m e = .ok s → ∃ d, s = .val d ∧ d.flat = true := fun e s h => by
  unfold eOp1 at h
  cases h1 : m e with
  | ok x => rw [h1, R.bind_ok] at h; exact g _ _ h
  | ex d => rw [h1] at h; cases h
  | bad => rw [h1] at h; cases h

theorem x_bin {op : Operator} {r : R2} {f : D → D → R S} (ho : OpR X (binaryOp op) r) (o : Op2 X.K r f) (nx : NoEx2 f) (ha : SE X W a m l) (hb : SE X W b n k) : SE X W (.BinOp a op b pos) (eOp2 f m n) (l ++ k) :=
  PE.imp (pe_op ho ha hb) (sim2 o nx)
theorem x_binF {op : Operator} {r : R2} {f : D → D → R S} (ho : OpR X (binaryOp op) r) (o : Op2 X.K r f) (nx : NoEx2 f) (g : Fl2 f) (ha : SE X W a m l) (hb : SE X W b n k) : SE X W (.BinOp a op b pos) (eOp2 f m n) [] :=
  x_flat (x_bin ho o nx ha hb) (fl_e2 g)
theorem x_add (ha : SE X W a m l) (hb : SE X W b n k) : SE X W (.BinOp a .Add b pos) (eOp2 oAdd m n) (l ++ k) := x_bin op_add4 o_add nx_add ha hb
theorem x_sub (ha : SE X W a m l) (hb : SE X W b n k) : SE X W (.BinOp a .Sub b pos) (eOp2 oSub m n) [] := x_binF op_sub o_sub nx_sub fl_sub ha hb
theorem x_mul (ha : SE X W a m l) (hb : SE X W b n k) : SE X W (.BinOp a .Mult b pos) (eOp2 oMul m n) (l ++ k) := x_bin op_mul4 o_mul nx_mul ha hb
theorem x_fdiv (ha : SE X W a m l) (hb : SE X W b n k) : SE X W (.BinOp a .FloorDiv b pos) (eOp2 oFdiv m n) [] := x_binF op_fdivW o_fdiv nx_fdiv fl_fdiv ha hb
theorem x_mod (ha : SE X W a m l) (hb : SE X W b n k) : SE X W (.BinOp a .Mod b pos) (eOp2 oMod m n) [] := x_binF op_mod o_mod nx_mod fl_mod ha hb
theorem x_pow (ha : SE X W a m l) (hb : SE X W b n k) : SE X W (.BinOp a .Pow b pos) (eOp2 oPow m n) [] := x_binF op_pow o_pow nx_pow fl_pow ha hb
theorem x_shl (ha : SE X W a m l) (hb : SE X W b n k) : SE X W (.BinOp a .LShift b pos) (eOp2 oShl m n) [] := x_binF op_shl o_shl nx_shl fl_shl ha hb
theorem x_shr (ha : SE X W a m l) (hb : SE X W b n k) : SE X W (.BinOp a .RShift b pos) (eOp2 oShr m n) [] := x_binF op_shr o_shr nx_shr fl_shr ha hb
theorem x_band (ha : SE X W a m l) (hb : SE X W b n k) : SE X W (.BinOp a .BitAnd b pos) (eOp2 oAnd m n) [] := x_binF op_and o_and nx_and fl_and ha hb
theorem x_bor (ha : SE X W a m l) (hb : SE X W b n k) : SE X W (.BinOp a .BitOr b pos) (eOp2 oOr m n) [] := x_binF op_or o_or nx_or fl_or ha hb
theorem x_neg (ha : SE X W a m l) : SE X W (.UnaryOp .USub a pos) (eOp1 oNeg m) [] := x_flat (PE.imp (pe_un un_neg ha) (sim1 o_neg nx_neg)) (fl_e1 fl_neg)
theorem x_item (ha : SE X W a m l) (hb : SE X W b n k) (hs : PlainIx b := by exact fun _ _ => rfl) : SE X W (.Subscript a b pos) (eOp2 oItem m n) (l ++ k) := PE.imp (pe_ix ix_seq ha hb hs) (sim2 o_item nx_item)

/-! comparisons: as values, as tests -/
theorem tVal_tE {x : Ex} {l : List Nat} {σ : L2.St} {H : Hp} {Q : Bool → Hp → Prop} (q : tT X.K W (tVal x) σ H Q) : tE X.K W x l σ H fun v H' => ∃ c, v = .bl c ∧ Q c H' := by
  obtain ⟨B, Z, rt, e, r, q⟩ := q
  refine ⟨B, Z, rt, e, r, ?_⟩
  unfold tVal at q
  cases h : x e with
  | ok s =>
    rw [h, R.bind_ok] at q
    intro v H' sm rs
    cases s with
    | val d =>
      cases d with
      | bl c =>
        obtain rfl : v = .bl c := rs
        exact ⟨c, rfl, q H' sm⟩
      | non => exact q.elim
      | int _ => exact q.elim
      | str _ => exact q.elim
      | tup _ => exact q.elim
      | lst _ => exact q.elim
      | scr _ => exact q.elim
      | exc _ _ => exact q.elim
      | jnk => exact q.elim
    | own ds => exact q.elim
    | dct _ _ => exact q.elim
  | ex d => rw [h] at q; exact q
  | bad => rw [h] at q; exact q
/-- an expression whose value is a truth, as a test -/
theorem t_val (ha : SE X W a m l) (he : ∀ whole, isTrue a X.env whole = (do let v ← whole; standAt a.pos; holding [v] (truthy v)) := by intro _; rfl) : ST X W a (tVal m) :=
  PT.imp (pt_val ha he) fun σ H Q q => tVal_tE q
theorem x_cmp {op : CmpOp} {r : R2} {f : D → D → R S} (ho : OpR X (compareOp op) r) (o : Op2 X.K r f) (nx : NoEx2 f) (g : Fl2 f) (ha : SE X W a m l) (hb : SE X W b n k) (hm : behindInMarks op b = false) :
    SE X W (.Compare a [op] [b] pos) (eOp2 f m n) [] := x_flat (PE.imp (pe_cmpR ho ha hb hm) (sim2 o nx)) (fl_e2 g)
theorem t_cmp {op : CmpOp} {r : R2} {f : D → D → R S} (ho : OpR X (compareOp op) r) (o : Op2 X.K r f) (nx : NoEx2 f) (ha : SE X W a m l) (hb : SE X W b n k) (hm : behindInMarks op b = false) :
    ST X W (.Compare a [op] [b] pos) (tVal (eOp2 f m n)) := PT.imp (pt_cmpR ho ha hb hm) fun σ H Q q => sim2 o nx σ H _ (tVal_tE q)
theorem x_lt (hu : X.A.units + 65 < cLine) (ha : SE X W a m l) (hb : SE X W b n k) : SE X W (.Compare a [.Lt] [b] pos) (eOp2 oLt m n) [] := x_cmp (op_lt4 (by omega)) o_lt nx_lt fl_lt ha hb (nomark b)
theorem t_lt (hu : X.A.units + 65 < cLine) (ha : SE X W a m l) (hb : SE X W b n k) : ST X W (.Compare a [.Lt] [b] pos) (tVal (eOp2 oLt m n)) := t_cmp (op_lt4 (by omega)) o_lt nx_lt ha hb (nomark b)
theorem x_gt (ha : SE X W a m l) (hb : SE X W b n k) : SE X W (.Compare a [.Gt] [b] pos) (eOp2 oGt m n) [] := x_cmp op_gt4 o_gt nx_gt fl_gt ha hb (nomark b)
theorem t_gt (ha : SE X W a m l) (hb : SE X W b n k) : ST X W (.Compare a [.Gt] [b] pos) (tVal (eOp2 oGt m n)) := t_cmp op_gt4 o_gt nx_gt ha hb (nomark b)
theorem x_le (ha : SE X W a m l) (hb : SE X W b n k) : SE X W (.Compare a [.LtE] [b] pos) (eOp2 oLe m n) [] := x_cmp op_le o_le nx_le fl_le ha hb (nomark b)
theorem t_le (ha : SE X W a m l) (hb : SE X W b n k) : ST X W (.Compare a [.LtE] [b] pos) (tVal (eOp2 oLe m n)) := t_cmp op_le o_le nx_le ha hb (nomark b)
theorem x_ge (ha : SE X W a m l) (hb : SE X W b n k) : SE X W (.Compare a [.GtE] [b] pos) (eOp2 oGe m n) [] := x_cmp op_ge o_ge nx_ge fl_ge ha hb (nomark b)
theorem t_ge (ha : SE X W a m l) (hb : SE X W b n k) : ST X W (.Compare a [.GtE] [b] pos) (tVal (eOp2 oGe m n)) := t_cmp op_ge o_ge nx_ge ha hb (nomark b)
theorem x_eq (hu : X.A.units + 65 < cLine) (ha : SE X W a m l) (hb : SE X W b n k) : SE X W (.Compare a [.Eq] [b] pos) (eOp2 oEq m n) [] := x_cmp (op_eqD (by omega)) o_eq nx_eq fl_eq ha hb (nomark b)
theorem t_eq (hu : X.A.units + 65 < cLine) (ha : SE X W a m l) (hb : SE X W b n k) : ST X W (.Compare a [.Eq] [b] pos) (tVal (eOp2 oEq m n)) := t_cmp (op_eqD (by omega)) o_eq nx_eq ha hb (nomark b)
theorem x_ne (hu : X.A.units + 65 < cLine) (ha : SE X W a m l) (hb : SE X W b n k) : SE X W (.Compare a [.NotEq] [b] pos) (eOp2 oNe m n) [] := x_cmp (op_neD (by omega)) o_ne nx_ne fl_ne ha hb (nomark b)
theorem t_ne (hu : X.A.units + 65 < cLine) (ha : SE X W a m l) (hb : SE X W b n k) : ST X W (.Compare a [.NotEq] [b] pos) (tVal (eOp2 oNe m n)) := t_cmp (op_neD (by omega)) o_ne nx_ne ha hb (nomark b)
theorem x_in (hu : X.A.units + 65 < cLine) (ha : SE X W a m l) (hb : SE X W b n k) (hm : behindInMarks .In b = false := by rfl) : SE X W (.Compare a [.In] [b] pos) (eOp2 oIn m n) [] := x_cmp (op_in4 hu) o_in nx_in fl_in ha hb hm
theorem t_in (hu : X.A.units + 65 < cLine) (ha : SE X W a m l) (hb : SE X W b n k) (hm : behindInMarks .In b = false := by rfl) : ST X W (.Compare a [.In] [b] pos) (tVal (eOp2 oIn m n)) := t_cmp (op_in4 hu) o_in nx_in ha hb hm
theorem x_notIn (hu : X.A.units + 65 < cLine) (ha : SE X W a m l) (hb : SE X W b n k) (hm : behindInMarks .NotIn b = false := by rfl) : SE X W (.Compare a [.NotIn] [b] pos) (eOp2 oNotIn m n) [] := x_cmp (op_notIn4 hu) o_notIn nx_notIn fl_notIn ha hb hm
theorem t_notIn (hu : X.A.units + 65 < cLine) (ha : SE X W a m l) (hb : SE X W b n k) (hm : behindInMarks .NotIn b = false := by rfl) : ST X W (.Compare a [.NotIn] [b] pos) (tVal (eOp2 oNotIn m n)) := t_cmp (op_notIn4 hu) o_notIn nx_notIn ha hb hm
/-- is None -/
theorem isN_sim {x : Ex} {l : List Nat} (f : Bool → Bool) (σ : L2.St) (H : Hp) (Q : VK) (q : tE X.K W (eOp1 (fun d => .ok (.val (.bl (f (isNon d))))) x) l σ H Q) : tE X.K W x l σ H fun v H1 => Q (.bl (f (decide (v = .non)))) H1 := by
  obtain ⟨B, Z, rt, e, r, q⟩ := q
  refine ⟨B, Z, rt, e, r, ?_⟩
  unfold eOp1 at q
  cases h : x e with
  | ok s =>
    rw [h, R.bind_ok] at q
    intro v H' sm rs
    rw [isNon_of (rs.d (N := fun a => NZ W.g Z e rt l H a) fun a z => .inr (.inl z))]
    exact q _ H' sm rfl
  | ex d => rw [h] at q; exact q
  | bad => rw [h] at q; exact q
theorem fl_isN (f : Bool → Bool) : Fl1 (fun d => .ok (.val (.bl (f (isNon d))))) := fun d s h => by cases h; exact ⟨_, rfl, rfl⟩
theorem x_isN {j p} (ha : SE X W a m l) : SE X W (.Compare a [.Is] [.Constant .none j p] pos) (eOp1 oIsN m) [] := x_flat (PE.imp (pe_cmp (pc_isN ha)) fun σ H Q q => isN_sim (f := id) σ H Q q) (fl_e1 (fl_isN id))
theorem x_notN {j p} (ha : SE X W a m l) : SE X W (.Compare a [.IsNot] [.Constant .none j p] pos) (eOp1 oNotN m) [] := x_flat (PE.imp (pe_cmp (pc_notN ha)) fun σ H Q q => isN_sim (f := not) σ H Q q) (fl_e1 (fl_isN not))
theorem t_isN {j p} (ha : SE X W a m l) : ST X W (.Compare a [.Is] [.Constant .none j p] pos) (tVal (eOp1 oIsN m)) := PT.imp (pt_cmp (pc_isN ha)) fun σ H Q q => isN_sim (f := id) σ H _ (tVal_tE q)
theorem t_notN {j p} (ha : SE X W a m l) : ST X W (.Compare a [.IsNot] [.Constant .none j p] pos) (tVal (eOp1 oNotN m)) := PT.imp (pt_cmp (pc_notN ha)) fun σ H Q q => isN_sim (f := not) σ H _ (tVal_tE q)

/-! and, or, not: as tests -/
abbrev SW (X : Cx) (W : Wi) (x : Expr) (t : Tx) : Prop := PW X x (tT X.K W t)
theorem PW.imp {x : Expr} {t t' : TT} (h : PW X x t) (f : ∀ σ H Q, t' σ H Q → t σ H Q) : PW X x t' := ⟨fun w pins s σ H Q I q => h.run w pins s σ H Q I (f σ H Q q)⟩
variable {t u : Tx} {rest : List Expr}
theorem w_and1 (ha : ST X W a t) : SW X W (.BoolOp .And [a] pos) t := pw_and1 ha
theorem w_or1 (ha : ST X W a t) : SW X W (.BoolOp .Or [a] pos) t := pw_or1 ha
theorem w_and (ha : ST X W a t) (hb : SW X W (.BoolOp .And (b :: rest) pos) u) : SW X W (.BoolOp .And (a :: b :: rest) pos) (tAnd t u) := by
  refine PW.imp (pw_and ha hb) fun σ H Q ⟨B, Z, rt, e, r, q⟩ => ?_
  unfold tAnd at q
  refine tT_go r (fun d hd => by rw [hd] at q; exact q) (fun hd => by rw [hd] at q; exact q) fun c H1 hs sm r1 => ?_
  rw [hs, R.bind_ok] at q
  cases c with
  | true =>
    rw [if_pos rfl] at q ⊢
    refine tT_go r1 (fun d hd c o H' sm' => by rw [hd] at q; exact (fun z9 => q c o H' (sm.trans sm') (z9.mo sm))) (fun hd => by rw [hd] at q; exact q) fun c2 H2 hs2 sm2 r2 => ?_
    rw [hs2] at q
    exact q H2 (sm.trans sm2)
  | false =>
    rw [if_neg Bool.false_ne_true] at q ⊢
    exact q H1 sm
theorem w_or (ha : ST X W a t) (hb : SW X W (.BoolOp .Or (b :: rest) pos) u) : SW X W (.BoolOp .Or (a :: b :: rest) pos) (tOr t u) := by
  refine PW.imp (pw_or ha hb) fun σ H Q ⟨B, Z, rt, e, r, q⟩ => ?_
  unfold tOr at q
  refine tT_go r (fun d hd => by rw [hd] at q; exact q) (fun hd => by rw [hd] at q; exact q) fun c H1 hs sm r1 => ?_
  rw [hs, R.bind_ok] at q
  cases c with
  | true =>
    rw [if_pos rfl] at q ⊢
    exact q H1 sm
  | false =>
    rw [if_neg Bool.false_ne_true] at q ⊢
    refine tT_go r1 (fun d hd c o H' sm' => by rw [hd] at q; exact (fun z9 => q c o H' (sm.trans sm') (z9.mo sm))) (fun hd => by rw [hd] at q; exact q) fun c2 H2 hs2 sm2 r2 => ?_
    rw [hs2] at q
    exact q H2 (sm.trans sm2)
theorem t_w {x : Expr} (h : SW X W x t) : ST X W x t := h.pt
theorem t_not (ha : ST X W a t) : ST X W (.UnaryOp .Not a pos) (tNot t) := by
  refine PT.imp (pt_not ha) fun σ H Q ⟨B, Z, rt, e, r, q⟩ => ?_
  unfold tNot at q
  refine tT_go r (fun d hd => by rw [hd] at q; exact q) (fun hd => by rw [hd] at q; exact q) fun c H1 hs sm r1 => ?_
  rw [hs, R.bind_ok] at q
  exact q H1 sm
/-! .. as values -/
theorem bl_of {N : Addr → Prop} {H H' : Hp} {s : S} {x : V} {b : Bool} (rs : RepS X.K N H H' s x) (h : s.d = .bl b) : x = .bl b := by
  cases s with
  | val d =>
    have h' : d = .bl b := h
    subst h'
    exact rs
  | own ds => cases h
  | dct _ _ => cases h
theorem x_one {op} (ha : SE X W a m l) : SE X W (.BoolOp op [a] pos) m l := pe_one ha
theorem x_and (ha : SE X W a m l) (hb : SE X W (.BoolOp .And (b :: rest) pos) n k) : SE X W (.BoolOp .And (a :: b :: rest) pos) (eAnd m n) k := by
  refine PE.imp (pe_and ha hb) fun σ H Q ⟨B, Z, rt, e, r, q⟩ => ?_
  unfold eAnd at q
  refine tE_go r (fun d hd => by rw [hd] at q; exact q) (fun hd => by rw [hd] at q; exact q) fun s x H1 hs sm r1 rs => ?_
  rw [hs, R.bind_ok] at q
  cases hd : s.d with
  | bl c =>
    have ex := bl_of rs hd
    subst ex
    refine ⟨c, rfl, ?_⟩
    simp only [hd] at q
    cases c with
    | true =>
      rw [if_pos rfl]
      refine tE_go r1 (fun d hd c o H' sm' => by rw [hd] at q; exact (fun z9 => q c o H' (sm.trans sm') (z9.mo sm))) (fun hd => by rw [hd] at q; exact q) fun s2 x2 H2 hs2 sm2 r2 rs2 => ?_
      rw [hs2] at q
      exact q x2 H2 (sm.trans sm2) ((rs2.back sm).mono fun a z => z.back sm)
    | false =>
      rw [if_neg Bool.false_ne_true]
      exact q _ H1 sm rfl
  | non => simp only [hd] at q
  | int _ => simp only [hd] at q
  | str _ => simp only [hd] at q
  | tup _ => simp only [hd] at q
  | lst _ => simp only [hd] at q
  | scr _ => simp only [hd] at q
  | exc _ _ => simp only [hd] at q
  | jnk => simp only [hd] at q
theorem x_or (ha : SE X W a m l) (hb : SE X W (.BoolOp .Or (b :: rest) pos) n k) : SE X W (.BoolOp .Or (a :: b :: rest) pos) (eOr m n) k := by
  refine PE.imp (pe_or ha hb) fun σ H Q ⟨B, Z, rt, e, r, q⟩ => ?_
  unfold eOr at q
  refine tE_go r (fun d hd => by rw [hd] at q; exact q) (fun hd => by rw [hd] at q; exact q) fun s x H1 hs sm r1 rs => ?_
  rw [hs, R.bind_ok] at q
  cases hd : s.d with
  | bl c =>
    have ex := bl_of rs hd
    subst ex
    refine ⟨c, rfl, ?_⟩
    simp only [hd] at q
    cases c with
    | false =>
      rw [if_neg Bool.false_ne_true]
      refine tE_go r1 (fun d hd c o H' sm' => by rw [hd] at q; exact (fun z9 => q c o H' (sm.trans sm') (z9.mo sm))) (fun hd => by rw [hd] at q; exact q) fun s2 x2 H2 hs2 sm2 r2 rs2 => ?_
      rw [hs2] at q
      exact q x2 H2 (sm.trans sm2) ((rs2.back sm).mono fun a z => z.back sm)
    | true =>
      rw [if_pos rfl]
      exact q _ H1 sm rfl
  | non => simp only [hd] at q
  | int _ => simp only [hd] at q
  | str _ => simp only [hd] at q
  | tup _ => simp only [hd] at q
  | lst _ => simp only [hd] at q
  | scr _ => simp only [hd] at q
  | exc _ _ => simp only [hd] at q
  | jnk => simp only [hd] at q
theorem x_not (ha : SE X W a m l) : SE X W (.UnaryOp .Not a pos) (eOp1 oNot m) [] := by
  refine x_flat (l := []) (PE.imp (pe_not ha) fun σ H Q ⟨B, Z, rt, e, r, q⟩ => ?_) (fl_e1 fun d s h => by
    unfold oNot at h
    split at h <;> cases h <;> exact ⟨_, rfl, rfl⟩)
  unfold eOp1 at q
  refine tE_go r (fun d hd => by rw [hd] at q; exact q) (fun hd => by rw [hd] at q; exact q) fun s x H1 hs sm r1 rs => ?_
  rw [hs, R.bind_ok] at q
  cases hd : s.d with
  | bl c =>
    have ex := bl_of rs hd
    subst ex
    rw [hd] at q
    exact ⟨c, rfl, q _ H1 sm rfl⟩
  | non => rw [hd] at q; exact False.elim q
  | int _ => rw [hd] at q; exact False.elim q
  | str _ => rw [hd] at q; exact False.elim q
  | tup _ => rw [hd] at q; exact False.elim q
  | lst _ => rw [hd] at q; exact False.elim q
  | scr _ => rw [hd] at q; exact False.elim q
  | exc _ _ => rw [hd] at q; exact False.elim q
  | jnk => rw [hd] at q; exact False.elim q
end
end Tg

/-! Tg: sorted of a tuple of ints. -/
namespace Tg
open PySem PySem.Spec PyProof.Rows L2
section
variable {prog : Program} {w : World} {A : Around} {E : Value → Shared → Prop} {s : Shared}
theorem coll_tup {l : Addr} {vs : List Value} {Q : List Value → Shared → Prop} (hl : IsTup s.heap l vs.toArray) (hz : vs.length ≤ sizeLine)
    (h : Q vs { s with heap := (s.heap.push (seqObj "list" #[] 0)).update s.heap.objs.size (Obj.mapSeq (· ++ vs.toArray)) }) : wpAny (model prog w) A (collect (.ref l)) Q E s := by
  obtain ⟨o, e0, c0, n, d0⟩ := hl
  have e1 : (s.heap.push (seqObj "list" #[] 0)).get? l = some o := Heap.get?_push_of_some _ e0
  have e2 : (s.heap.push (seqObj "list" #[] 0)).get? s.heap.objs.size = some (seqObj "list" #[] 0) := Heap.get?_push_size _ rfl
  unfold collect
  refine wpAny_bind (wpAny_runValue (codeAny_builtin entry_proto_collect' (show wpAny _ _ (do again (.builtin "list.__iadd__" ⟨[← newList [], .ref l], []⟩)) _ _ s from ?_)))
  refine wpAny_bind (wpAny_newList (wpAny_pure ⟨Code.quiet_builtin _ (by decide +kernel), codeAny_builtin entry_list_iadd' (show wpAny _ _ (Builtin.List.listExtendWith (.ref s.heap.objs.size) (.ref l) (.ref s.heap.objs.size)) _ _ { s with heap := s.heap.push (seqObj "list" #[] 0) } from ?_)⟩))
  unfold Builtin.List.listExtendWith
  refine wpAny_bind (wpAny_typeOf (T := "tuple") ⟨o, e1, c0⟩ ?_)
  rw [if_pos (by rw [show (Value.type "tuple" == Value.type "tuple") = true by rfl]; simp)]
  refine wpAny_bind (listItems_at e1 d0 (wpAny_bind (listItems_at (xs := #[]) (n := 0) e2 rfl ?_)))
  rw [if_neg (by simp)]
  refine wpAny_bind (listUpdate_at (xs := #[]) (n := 0) e2 rfl (wpAny_pure ?_) (Nat.zero_le _) (by
    show (#[] ++ vs.toArray).size ≤ sizeLine + 1
    simp only [Array.size_append, List.size_toArray, List.length_nil]
    omega))
  refine wpAny_bind (wpAny_load (get?_update_seq e2 _) ?_)
  have e3 : ((#[] : Array Value) ++ vs.toArray).toList = vs := by simp
  show wpAny _ _ (pure ((#[] : Array Value) ++ vs.toArray).toList) Q E _
  rw [e3]
  exact wpAny_pure h
theorem sorted_tup {l : Addr} {vs : List Value} {ns : List Int} {Q : Value → Shared → Prop} (hl : IsTup s.heap l vs.toArray) (hI : IntsAre vs ns) (h64 : vs.length < 64)
    (h : ∀ (out : Array Value) (ns' : List Int), IntsAre out.toList ns' → ns'.Perm ns → ns'.Pairwise (· ≤ ·) → Q (.ref (s.heap.objs.size + 1)) { s with heap := sortedAll s.heap vs out }) :
    wpAny (model prog w) A (call (.builtin "sorted") [.ref l]) Q E s := by
  have sl : sizeLine = 16777216 := by decide
  have e0 : ((s.heap.push (seqObj "list" #[] 0)).update s.heap.objs.size (Obj.mapSeq (· ++ vs.toArray))).objs.size = s.heap.objs.size + 1 := by rw [Heap.size_update, size_push']
  have e1 : (((s.heap.push (seqObj "list" #[] 0)).update s.heap.objs.size (Obj.mapSeq (· ++ vs.toArray))).push (seqObj "list" vs.toArray 0)).get? (s.heap.objs.size + 1) = some (seqObj "list" vs.toArray 0) := by
    rw [← e0]
    exact Heap.get?_push_size _ rfl
  refine Calls.call_function_entry kind_sorted plain_sorted entry_sorted (args_sorted1 _) ?_
  unfold Builtin.«sorted»
  refine wpAny_bind (m := checkCount "sorted" 1 1 _) (wpAny_pure (wpAny_bind (coll_tup hl (by omega) (wpAny_bind (wpAny_newList ?_)))))
  show wpAny _ _ _ _ _ { s with heap := ((s.heap.push (seqObj "list" #[] 0)).update s.heap.objs.size (Obj.mapSeq (· ++ vs.toArray))).push (seqObj "list" vs.toArray 0) }
  rw [e0]
  exact wpAny_bind (wpAny_holding (wpAny_call_entry slot_list_sort ⟨_, e1, rfl⟩ entry_list_sort (list_sort_tree e1 hI h64 fun out ns' a1 a2 a3 => ⟨_, rfl, wpAny_pure ⟨_, rfl, h out ns' a1 a2 a3⟩⟩) (args_list_sort _)))
end
def rSortT (K : PySem.W.Frag) : List V → Hp → VK → Prop := fun vs H Q => ∃ (a : Addr) (ns : List Int), vs = [V.ref a] ∧ SqT K H a (ns.map V.int) ∧ ns.length < 64 ∧
  ∀ (ns' : List Int) (p : Addr), ns'.Perm ns → ns'.Pairwise (· ≤ ·) → H p = none → Q (.ref p) (upd H p (.lst (ns'.map V.int)))
theorem cr_sortT {X : Cx} : CallR X (.builtin "sorted") (rSortT X.K) := by
  intro pins s σ H vs us Q I r h
  obtain ⟨a, ns, rfl, hs, h64, q⟩ := h
  obtain ⟨its, rv, hl, _⟩ := I.tuple hs
  rw [Vals.ref1 r]
  refine sorted_tup hl rv.ints (by rw [rv.ints.length]; exact h64) fun out ns' h1 h2 h3 => ?_
  obtain ⟨ep, he'⟩ := PyProof.Rows.sortedAll_at s.heap its out
  have hlen : (ns'.map V.int).length ≤ sizeLine := by rw [List.length_map, h2.length_eq]; exact small64 h64
  exact ⟨.ref _, _, I.laid (o := .lst (ns'.map V.int)) (t' := s.toks) (fun _ _ => PyProof.Rows.sortedAll_old) (Nat.le_succ _) ⟨hlen, out.toList, ep, vals_of_ints h1, he'⟩, rfl, q ns' _ h2 h3 (I.hok.fresh (Nat.le_succ _))⟩
end Tg

/-! Tg: min, max of a tuple of ints. -/
namespace PySem
section
variable {prog : Program} {w : World} {A : Around} {E : Value → Shared → Prop} {s : Shared} {l : Addr} {xs : Array (Int × Tok)}
theorem tg_iter_tup {Q : Value → Shared → Prop} (hl : s.heap.IsTuple l (intItems xs))
    (h : ∀ s₂ : Shared, s₂ = { s with heap := s.heap.push { cls := .type "tuple_iterator", data := .fields #[.ref l, .int 0 0] } } →
      (s₂.heap.IsTupleIter s.heap.objs.size l 0 ∧ s₂.heap.IsTuple l (intItems xs)) → (∀ b ∈ [s.heap.objs.size, l], b < s₂.heap.objs.size) → l ≠ s.heap.objs.size → Q (.ref s.heap.objs.size) s₂) :
    wpAny (model prog w) A (pyIter (.ref l)) Q E s := by
  have hlt : l < s.heap.objs.size := by obtain ⟨_, e, _⟩ := hl; exact Heap.lt_size e
  refine wpAny_pyIter_tuple hl (h _ rfl ⟨⟨_, Heap.get?_push_size _ rfl, rfl, rfl⟩, hl.push _⟩ (fun b hb => ?_) (Nat.ne_of_lt hlt))
  show b < (s.heap.push _).objs.size
  rw [Heap.size_push]
  rcases List.mem_cons.mp hb with rfl | hb
  · exact Nat.lt_succ_self _
  · rcases List.mem_cons.mp hb with rfl | hb
    · exact Nat.lt_succ_of_lt hlt
    · cases hb
theorem tg_old {h' : Heap} {o0 : Obj} (hk : ∀ b o, b ∉ [s.heap.objs.size] → (s.heap.push o0).get? b = some o → h'.get? b = some o) :
    ∀ b o, s.heap.get? b = some o → h'.get? b = some o := fun b o e => by
  refine hk b o (fun hm => ?_) (Heap.get?_push_of_some _ e)
  rcases List.mem_cons.mp hm with e1 | hm
  · exact absurd (e1 ▸ Heap.lt_size e) (Nat.lt_irrefl _)
  · cases hm
theorem tg_max_tup {Q : Value → Shared → Prop} (hh : A.handled = none) (hl : s.heap.IsTuple l (intItems xs)) (hne : 0 < xs.size)
    (h : ∀ v h' tk, (intItems xs)[argBest (fun i j => decide (numAt xs i > numAt xs j)) (xs.size - 1)]? = some v → (∀ b o, s.heap.get? b = some o → h'.get? b = some o) → Q v { s with heap := h', toks := tk }) :
    wpAny (model prog w) A (call (.builtin "max") [.ref l]) Q E s := by
  refine call_max_walk (tg_iter_tup hl fun s₂ e st hfp hlI => ?_)
  subst e
  refine ⟨_, _, _, _, _, _, _, rfl, Walks.tuple (A := A.in1) hh _ l hlI (intItems xs), st, hfp, by simpa [intItems] using hne, CmpOf.ints_gt (numAt xs) (fun _ _ => intItems_at), fun v h' tk hP hk => ?_⟩
  exact h v h' tk (by simpa [intItems] using hP) (tg_old hk)
theorem tg_min_tup {Q : Value → Shared → Prop} (hh : A.handled = none) (hl : s.heap.IsTuple l (intItems xs)) (hne : 0 < xs.size)
    (h : ∀ v h' tk, (intItems xs)[argBest (fun i j => decide (numAt xs i < numAt xs j)) (xs.size - 1)]? = some v → (∀ b o, s.heap.get? b = some o → h'.get? b = some o) → Q v { s with heap := h', toks := tk }) :
    wpAny (model prog w) A (call (.builtin "min") [.ref l]) Q E s := by
  refine call_min_walk (tg_iter_tup hl fun s₂ e st hfp hlI => ?_)
  subst e
  refine ⟨_, _, _, _, _, _, _, rfl, Walks.tuple (A := A.in1) hh _ l hlI (intItems xs), st, hfp, by simpa [intItems] using hne, CmpOf.ints_lt (numAt xs) (fun _ _ => intItems_at), fun v h' tk hP hk => ?_⟩
  exact h v h' tk (by simpa [intItems] using hP) (tg_old hk)
end
end PySem
namespace Tg
open PySem PySem.Spec PyProof.Rows L2
theorem tg_max_raw {prog : Program} {w : World} {A : Around} {E : Value → Shared → Prop} {s : Shared} {l : Addr} {its : List Value} {ns : List Int} {Q : Value → Shared → Prop} (hh : A.handled = none) (ht : s.heap.IsTuple l its.toArray) (ia : IntsAre its ns) (pos : 0 < ns.length)
    (fin : ∀ h' tk M t', (∀ b o, s.heap.get? b = some o → h'.get? b = some o) → M ∈ ns → (∀ a, a ∈ ns → a ≤ M) → Q (.int M t') { s with heap := h', toks := tk }) : wpAny (model prog w) A (call (.builtin "max") [.ref l]) Q E s := by
  obtain ⟨ys, ey⟩ := ia.allInts.items
  have en : numsOf (intItems ys).toList = ns := by rw [← ey]; exact ia.numsOf
  rw [nums_intItems] at en
  subst en
  rw [ey] at ht
  have szp : 0 < ys.size := by simpa using pos
  refine PySem.tg_max_tup hh ht szp fun v h' tk hv hk => ?_
  obtain ⟨t, rfl⟩ := intItems_at hv
  obtain ⟨g1, g2⟩ := argBest_gt (numAt ys) (ys.size - 1)
  refine fin h' tk _ t hk ?_ fun a ha => ?_
  · rw [numAt_eq]; exact PySem.getD_mem (by rw [List.length_map, Array.length_toList]; omega)
  · obtain ⟨j, hj, rfl⟩ := mem_getD ha
    rw [List.length_map, Array.length_toList] at hj
    rw [← numAt_eq]; exact g2 j (by omega)
theorem tg_min_raw {prog : Program} {w : World} {A : Around} {E : Value → Shared → Prop} {s : Shared} {l : Addr} {its : List Value} {ns : List Int} {Q : Value → Shared → Prop} (hh : A.handled = none) (ht : s.heap.IsTuple l its.toArray) (ia : IntsAre its ns) (pos : 0 < ns.length)
    (fin : ∀ h' tk M t', (∀ b o, s.heap.get? b = some o → h'.get? b = some o) → M ∈ ns → (∀ a, a ∈ ns → M ≤ a) → Q (.int M t') { s with heap := h', toks := tk }) : wpAny (model prog w) A (call (.builtin "min") [.ref l]) Q E s := by
  obtain ⟨ys, ey⟩ := ia.allInts.items
  have en : numsOf (intItems ys).toList = ns := by rw [← ey]; exact ia.numsOf
  rw [nums_intItems] at en
  subst en
  rw [ey] at ht
  have szp : 0 < ys.size := by simpa using pos
  refine PySem.tg_min_tup hh ht szp fun v h' tk hv hk => ?_
  obtain ⟨t, rfl⟩ := intItems_at hv
  obtain ⟨g1, g2⟩ := argBest_lt (numAt ys) (ys.size - 1)
  refine fin h' tk _ t hk ?_ fun a ha => ?_
  · rw [numAt_eq]; exact PySem.getD_mem (by rw [List.length_map, Array.length_toList]; omega)
  · obtain ⟨j, hj, rfl⟩ := mem_getD ha
    rw [List.length_map, Array.length_toList] at hj
    rw [← numAt_eq]; exact g2 j (by omega)
/-- max of a list or a tuple of ints -/
def rMaxB (K : PySem.W.Frag) : List V → Hp → VK → Prop := fun vs H Q => rMax K vs H Q ∨ ∃ (a : Addr) (ns : List Int), vs = [V.ref a] ∧ SqT K H a (ns.map V.int) ∧ 0 < ns.length ∧ ∀ m, m ∈ ns → (∀ y, y ∈ ns → y ≤ m) → Q (.int m) H
theorem cr_maxB {X : Cx} (hc : X.calm = true) : CallR X (.builtin "max") (rMaxB X.K) := by
  intro pins s σ H vs us Q I r h
  rcases h with h | ⟨a, ns, rfl, hs, hne, q⟩
  · exact cr_max hc pins s σ H vs us Q I r h
  · obtain ⟨its, rv, hl, _⟩ := I.tuple hs
    rw [Vals.ref1 r]
    exact tg_max_raw (I.ok.hd hc) hl rv.ints hne fun h' tk m t' hk h1 h2 => ⟨.int _, H, I.kept hk, ⟨_, rfl⟩, q m h1 h2⟩
/-- min of a list or a tuple of ints -/
def rMinB (K : PySem.W.Frag) : List V → Hp → VK → Prop := fun vs H Q => rMin K vs H Q ∨ ∃ (a : Addr) (ns : List Int), vs = [V.ref a] ∧ SqT K H a (ns.map V.int) ∧ 0 < ns.length ∧ ∀ m, m ∈ ns → (∀ y, y ∈ ns → m ≤ y) → Q (.int m) H
theorem cr_minB {X : Cx} (hc : X.calm = true) : CallR X (.builtin "min") (rMinB X.K) := by
  intro pins s σ H vs us Q I r h
  rcases h with h | ⟨a, ns, rfl, hs, hne, q⟩
  · exact cr_min hc pins s σ H vs us Q I r h
  · obtain ⟨its, rv, hl, _⟩ := I.tuple hs
    rw [Vals.ref1 r]
    exact tg_min_raw (I.ok.hd hc) hl rv.ints hne fun h' tk m t' hk h1 h2 => ⟨.int _, H, I.kept hk, ⟨_, rfl⟩, q m h1 h2⟩
end Tg

/-! Tg, part 8: slices, built-in functions, calls. -/
namespace Tg
open PySem PySem.Spec PyProof.Rows L2
section
variable {X : Cx} {W : Wi} {a b c : Expr} {m n : Ex} {l k : List Nat} {pos : Pos}
/-! slices -/
def tP (K : PySem.W.Frag) (W : Wi) (m : Ox) : TO := fun σ H Q => ∃ (B : Addr → Prop) (Z : Nat → Addr → Prop) (rt : Nat → Addr) (e : En), Rel K B W.g Z rt e σ H ∧
  match m e with
  | .ok o => ∀ H', Same H H' → Q o H'
  | .ex d => ∀ c o H', Same H H' → (XC W.xr H d c o H' → W.w c o σ H')
  | .bad => False
abbrev SP (X : Cx) (W : Wi) (x : Option Expr) (m : Ox) : Prop := PO X x (tP X.K W m)
theorem PO.imp {x : Option Expr} {t t' : TO} (h : PO X x t) (f : ∀ σ H Q, t' σ H Q → t σ H Q) : PO X x t' := ⟨fun pins s σ H Q I q => h.run pins s σ H Q I (f σ H Q q)⟩
theorem p_none : SP X W none pNone := PO.imp po_none fun σ H Q ⟨B, Z, rt, e, r, q⟩ => q H (Same.refl H)
theorem p_some (ha : SE X W a m l) : SP X W (some a) (pSome m) := by
  refine PO.imp (po_some ha) fun σ H Q ⟨B, Z, rt, e, r, q⟩ => ?_
  unfold pSome at q
  refine tE_go r (fun d hd => by rw [hd] at q; exact q) (fun hd => by rw [hd] at q; exact q) fun s x H1 hs sm r1 rs => ?_
  rw [hs, R.bind_ok] at q
  cases s with
  | own ds => exact q.elim
  | dct _ _ => exact q.elim
  | val d =>
    cases d with
    | jnk => exact q.elim
    | int i =>
      obtain rfl : x = .int i := rs
      exact ⟨i, rfl, q H1 sm⟩
    | non => exact q.elim
    | bl _ => exact q.elim
    | str _ => exact q.elim
    | tup _ => exact q.elim
    | lst _ => exact q.elim
    | scr _ => exact q.elim
    | exc _ _ => exact q.elim
theorem x_sl {lo hi : Option Expr} {p q : Ox} {p2 : Pos} (ha : SE X W a m l) (hl : SP X W lo p) (hh : SP X W hi q) : SE X W (.Subscript a (.Slice lo hi none p2) pos) (eSl m p q) l := by
  refine PE.imp (pe_slice sl_4 ha hl hh) fun σ H Q ⟨B, Z, rt, e, r, z⟩ => ?_
  unfold eSl at z
  refine tE_go r (fun d hd => by rw [hd] at z; exact z) (fun hd => by rw [hd] at z; exact z) fun s x H1 hs sm r1 rs => ?_
  rw [hs, R.bind_ok] at z
  refine ⟨B, Z, rt, e, r1, ?_⟩
  cases hp : p e with
  | bad => rw [hp] at z; exact z.elim
  | ex d => rw [hp] at z; exact fun c o H' sm' => (fun z9 => z c o H' (sm.trans sm') (z9.mo sm))
  | ok i =>
    rw [hp, R.bind_ok] at z
    intro H2 sm2
    refine ⟨B, Z, rt, e, r1.ext sm2, ?_⟩
    cases hq : q e with
    | bad => rw [hq] at z; exact z.elim
    | ex d => rw [hq] at z; exact fun c o H' sm' => (fun z9 => z c o H' ((sm.trans sm2).trans sm') (z9.mo (sm.trans sm2)))
    | ok j =>
      rw [hq, R.bind_ok] at z
      intro H3 sm3
      have e1 : Rep X.K (NZ W.g Z e rt l H) H3 s.d x := (((rs.d fun a z => .inr (.inl z)).same sm2).same sm3)
      refine o_sl i j _ H3 s.d x Q e1 (okR_of (N' := NZ W.g Z e rt l H) (fun h => by rw [h] at z; exact z) (nx_sl i j _) (fun a y => ?_) fun s3 h3 x3 H4 sm4 rs3 => ?_)
      · rcases y with y | y
        · exact y
        · exact .inr (.inl (((sm.trans sm2).trans sm3).free y))
      · rw [h3] at z
        exact z x3 H4 (((sm.trans sm2).trans sm3).trans sm4) (rs3.back ((sm.trans sm2).trans sm3))
theorem x_rev {j p1 p2 p3} (ha : SE X W a m l) : SE X W (.Subscript a (.Slice none none (some (.UnaryOp .USub (.Constant (.int 1) j p1) p2)) p3) pos) (eOp1 oRev m) l := by
  refine PE.imp (pe_revL ha) (fun σ H Q q => sim1 (r := fun x H1 Q => ∃ a xs, x = .ref a ∧ SqL X.K H1 a xs ∧ ∀ p, H1 p = none → Q (.ref p) (upd H1 p (.lst xs.reverse))) ?_ nx_rev σ H Q q)
  intro N H d x Q rd h
  cases d <;> first | exact False.elim h | skip
  rename_i ds
  obtain ⟨a, xs, rfl, s1, r1⟩ := rd
  exact ⟨a, xs, rfl, .inl (.inl s1.2), fun p hp => ok_own h r1.reverse hp⟩

/-! built-in functions of one and of two arguments -/
def C1 (K : PySem.W.Frag) (r : List V → Hp → VK → Prop) (f : D → R S) : Prop := ∀ (N : Addr → Prop) (H : Hp) (d : D) (x : V) (Q : VK), Rep K N H d x → OkR K N H Q (f d) → r [x] H Q
def C2 (K : PySem.W.Frag) (r : List V → Hp → VK → Prop) (f : D → D → R S) : Prop := ∀ (N : Addr → Prop) (H : Hp) (d c : D) (x y : V) (Q : VK), Rep K N H d x → Rep K N H c y → OkR K N H Q (f d c) → r [x, y] H Q
variable {id T : String} {f : D → R S} {g : D → D → R S} {r : List V → Hp → VK → Prop} {nm : Str} {p : Pos}
theorem x_b1 (hc : CallR X (.builtin id) r) (o : C1 X.K r f) (nx : NoEx1 f) (hm : X.mg nm = none) (hv : bootBuiltins nm = some (.builtin id)) (ha : SE X W a m l) (hg : Gl X nm := by rfl) (hn : nm ≠ "__name__" := by decide) (hdb : (nm == ("__debug__" : Str)) = false := by decide)
    (he : starEach [a] X.env = (false, eval a X.env) :: starEach [] X.env := by rfl) (hpl : (backTo pos (starEach ([] : List Expr) X.env)).any (·.1) = false := by rfl) : SE X W (.Call (.Name nm p) [a] [] pos) (eOp1 f m) l :=
  PE.imp (pe_callB hc hg hm hv (pa_cons ha pa_nil he) hn hdb he hpl) fun σ H Q q => sim1 (r := fun x H Q => r [x] H Q) o nx σ H Q q
theorem x_y1 (hc : CallR X (.type T) r) (o : C1 X.K r f) (nx : NoEx1 f) (hm : X.mg nm = none) (hv : bootBuiltins nm = some (.type T)) (ha : SE X W a m l) (hg : Gl X nm := by rfl) (hn : nm ≠ "__name__" := by decide) (hdb : (nm == ("__debug__" : Str)) = false := by decide)
    (he : starEach [a] X.env = (false, eval a X.env) :: starEach [] X.env := by rfl) (hpl : (backTo pos (starEach ([] : List Expr) X.env)).any (·.1) = false := by rfl) : SE X W (.Call (.Name nm p) [a] [] pos) (eOp1 f m) l :=
  PE.imp (pe_callTy hc hg hm hv (pa_cons ha pa_nil he) hn hdb he hpl) fun σ H Q q => sim1 (r := fun x H Q => r [x] H Q) o nx σ H Q q
theorem x_b2 (hc : CallR X (.builtin id) r) (o : C2 X.K r g) (nx : NoEx2 g) (hm : X.mg nm = none) (hv : bootBuiltins nm = some (.builtin id)) (ha : SE X W a m l) (hb : SE X W b n k) (hg : Gl X nm := by rfl) (hn : nm ≠ "__name__" := by decide) (hdb : (nm == ("__debug__" : Str)) = false := by decide)
    (he : starEach [a, b] X.env = (false, eval a X.env) :: starEach [b] X.env := by rfl) (he2 : starEach [b] X.env = (false, eval b X.env) :: starEach [] X.env := by rfl) (hpl : (backTo pos (starEach [b] X.env)).any (·.1) = false := by rfl) : SE X W (.Call (.Name nm p) [a, b] [] pos) (eOp2 g m n) (l ++ k) :=
  PE.imp (pe_callB hc hg hm hv (pa_cons ha (pa_cons hb pa_nil he2) he) hn hdb he hpl) fun σ H Q q => sim2 (r := fun x y H Q => r [x, y] H Q) o nx σ H Q q

def rLen4 (K : PySem.W.Frag) : List V → Hp → VK → Prop := fun xs H Q => (∃ p ys, xs = [.ref p] ∧ (SqL K H p ys ∨ SqT K H p ys) ∧ Q (.int ys.length) H) ∨ (∃ z, xs = [.str z] ∧ z.length ≤ sizeLine ∧ Q (.int z.length) H)
theorem c_len4 : CallR X (.builtin "len") (rLen4 X.K) := call_len_seq.or call_len_str
theorem o_len {K : PySem.W.Frag} : C1 K (rLen4 K) oLen := by
  intro N H d x Q rd h
  cases d <;> first | exact False.elim h | skip
  · rename_i s
    obtain rfl : x = .str ⟨s.toArray⟩ := rd
    obtain ⟨hl, h⟩ := ok_if h
    refine .inr ⟨_, rfl, by rw [str_len]; exact lim_line hl, ?_⟩
    rw [str_len]
    exact ok_int h
  · rename_i ds
    obtain ⟨a, xs, rfl, s1, r1⟩ := rd
    refine .inl ⟨a, xs, rfl, .inr (sqt s1), ?_⟩
    rw [r1.length]
    exact ok_int h
  · rename_i ds
    obtain ⟨a, xs, rfl, s1, r1⟩ := rd
    refine .inl ⟨a, xs, rfl, .inl (.inl (.inl s1.2)), ?_⟩
    rw [r1.length]
    exact ok_int h
  · rename_i ns
    obtain ⟨a, rfl, s1⟩ := rd
    refine .inl ⟨a, _, rfl, .inl s1.seq, ?_⟩
    rw [List.length_map]
    exact ok_int h
theorem nx_len : NoEx1 oLen := by
  intro d e h
  unfold oLen at h
  split at h <;> (try split at h) <;> cases h
theorem fl_len : Fl1 oLen := by
  intro d s h
  unfold oLen at h
  split at h <;> (try split at h) <;> cases h <;> exact ⟨_, rfl, rfl⟩
theorem x_len (hm : X.mg "len" = none) (ha : SE X W a m l) (hg : Gl X "len" := by rfl) (he : starEach [a] X.env = (false, eval a X.env) :: starEach [] X.env := by rfl) (hpl : (backTo pos (starEach ([] : List Expr) X.env)).any (·.1) = false := by rfl) :
    SE X W (.Call (.Name "len" p) [a] [] pos) (eOp1 oLen m) [] := x_flat (x_b1 c_len4 o_len nx_len hm PySem.boot_len ha hg (by decide) (by decide) he hpl) (fl_e1 fl_len)

theorem o_list {K : PySem.W.Frag} : C1 K (fun xs H Q => ∃ p ys, xs = [.ref p] ∧ (SqL K H p ys ∨ SqT K H p ys) ∧ ∀ l, H l = none → Q (.ref l) (upd H l (.lst ys))) oList := by
  intro N H d x Q rd h
  cases d <;> first | exact False.elim h | skip
  · rename_i ds
    obtain ⟨a, xs, rfl, s1, r1⟩ := rd
    exact ⟨a, xs, rfl, .inr (sqt s1), fun p hp => ok_own h r1 hp⟩
  · rename_i ds
    obtain ⟨a, xs, rfl, s1, r1⟩ := rd
    exact ⟨a, xs, rfl, .inl (.inl (.inl s1.2)), fun p hp => ok_own h r1 hp⟩
theorem nx_list : NoEx1 oList := by
  intro d e h
  unfold oList at h
  split at h <;> cases h
theorem x_list (hm : X.mg "list" = none) (ha : SE X W a m l) (hg : Gl X "list" := by rfl) (he : starEach [a] X.env = (false, eval a X.env) :: starEach [] X.env := by rfl) (hpl : (backTo pos (starEach ([] : List Expr) X.env)).any (·.1) = false := by rfl) :
    SE X W (.Call (.Name "list" p) [a] [] pos) (eOp1 oList m) l := x_y1 call_list_of o_list nx_list hm (by decide +kernel) ha hg (by decide) (by decide) he hpl
theorem o_tuple {K : PySem.W.Frag} : C1 K (fun xs H Q => ∃ p ys, xs = [.ref p] ∧ ((SqL K H p ys ∧ ∀ l, H l = none → Q (.ref l) (upd H l (.tup ys))) ∨ (SqT K H p ys ∧ Q (.ref p) H))) oTuple := by
  intro N H d x Q rd h
  cases d <;> first | exact False.elim h | skip
  · rename_i ds
    obtain ⟨a, xs, rfl, s1, r1⟩ := rd
    exact ⟨a, xs, rfl, .inr ⟨sqt s1, ok_val h ⟨a, xs, rfl, s1, r1⟩⟩⟩
  · rename_i ds
    obtain ⟨a, xs, rfl, s1, r1⟩ := rd
    exact ⟨a, xs, rfl, .inl ⟨.inl (.inl s1.2), fun p hp => ok_tup h r1 hp⟩⟩
theorem nx_tuple : NoEx1 oTuple := by
  intro d e h
  unfold oTuple at h
  split at h <;> cases h
theorem x_tuple (hm : X.mg "tuple" = none) (ha : SE X W a m l) (hg : Gl X "tuple" := by rfl) (he : starEach [a] X.env = (false, eval a X.env) :: starEach [] X.env := by rfl) (hpl : (backTo pos (starEach ([] : List Expr) X.env)).any (·.1) = false := by rfl) :
    SE X W (.Call (.Name "tuple" p) [a] [] pos) (eOp1 oTuple m) l := x_y1 call_tuple_of o_tuple nx_tuple hm (by decide +kernel) ha hg (by decide) (by decide) he hpl
theorem o_int1 {K : PySem.W.Frag} : C1 K (fun xs H Q => (∃ i, xs = [.int i] ∧ Q (.int i) H) ∨ ∃ k, xs = [.bl k] ∧ Q (.int (if k then 1 else 0)) H) oInt := by
  intro N H d x Q rd h
  cases d <;> first | exact False.elim h | skip
  · rename_i b
    obtain rfl : x = .bl b := rd
    exact .inr ⟨b, rfl, ok_int h⟩
  · rename_i i
    obtain rfl : x = .int i := rd
    exact .inl ⟨i, rfl, ok_int h⟩
theorem nx_int : NoEx1 oInt := by
  intro d e h
  unfold oInt at h
  split at h <;> cases h
theorem fl_int : Fl1 oInt := by
  intro d s h
  unfold oInt at h
  split at h <;> cases h <;> exact ⟨_, rfl, rfl⟩
theorem x_toInt (hm : X.mg "int" = none) (ha : SE X W a m l) (hg : Gl X "int" := by rfl) (he : starEach [a] X.env = (false, eval a X.env) :: starEach [] X.env := by rfl) (hpl : (backTo pos (starEach ([] : List Expr) X.env)).any (·.1) = false := by rfl) :
    SE X W (.Call (.Name "int" p) [a] [] pos) (eOp1 oInt m) [] := x_flat (x_y1 call_int1 o_int1 nx_int hm (by decide +kernel) ha hg (by decide) (by decide) he hpl) (fl_e1 fl_int)

/-! folds of a list -/
theorem o_min {K : PySem.W.Frag} : C1 K (rMinB K) oMin := by
  intro N H d x Q rd h
  cases d <;> first | exact False.elim h | skip
  · rename_i ds
    obtain ⟨a, xs, rfl, s1, r1⟩ := rd
    unfold oMin at h
    cases e : D.ints ds with
    | none => simp only [e] at h; exact False.elim h
    | some ns =>
      cases ns with
      | nil => simp only [e] at h; exact False.elim h
      | cons y r =>
        simp only [e] at h
        have q := ints_some e
        subst q
        rw [r1.ints] at s1
        refine .inr ⟨a, y :: r, rfl, sqt s1, Nat.succ_pos _, fun m hm hy => ?_⟩
        have e1 : m = minI y r := by
          have h1 := hy _ (minI_mem r y)
          have h2 := (minI_le r y)
          rcases List.mem_cons.mp hm with z | z
          · rw [z] at h1 ⊢
            exact Int.le_antisymm h1 h2.1
          · exact Int.le_antisymm h1 (h2.2 m z)
        rw [e1]
        exact ok_int h
  · rename_i ds
    obtain ⟨a, xs, rfl, s1, r1⟩ := rd
    unfold oMin at h
    cases e : D.ints ds with
    | none => simp only [e] at h; exact False.elim h
    | some ns =>
      cases ns with
      | nil => simp only [e] at h; exact False.elim h
      | cons y r =>
        simp only [e] at h
        have q := ints_some e
        subst q
        rw [r1.ints] at s1
        refine .inl ⟨a, y :: r, rfl, .inl (.inl s1.2), Nat.succ_pos _, fun m hm hy => ?_⟩
        have e1 : m = minI y r := by
          have h1 := hy _ (minI_mem r y)
          have h2 := (minI_le r y)
          rcases List.mem_cons.mp hm with z | z
          · rw [z] at h1 ⊢
            exact Int.le_antisymm h1 h2.1
          · exact Int.le_antisymm h1 (h2.2 m z)
        rw [e1]
        exact ok_int h
theorem o_max {K : PySem.W.Frag} : C1 K (rMaxB K) oMax := by
  intro N H d x Q rd h
  cases d <;> first | exact False.elim h | skip
  · rename_i ds
    obtain ⟨a, xs, rfl, s1, r1⟩ := rd
    unfold oMax at h
    cases e : D.ints ds with
    | none => simp only [e] at h; exact False.elim h
    | some ns =>
      cases ns with
      | nil => simp only [e] at h; exact False.elim h
      | cons y r =>
        simp only [e] at h
        have q := ints_some e
        subst q
        rw [r1.ints] at s1
        refine .inr ⟨a, y :: r, rfl, sqt s1, Nat.succ_pos _, fun m hm hy => ?_⟩
        have e1 : m = maxI y r := by
          have h1 := hy _ (maxI_mem r y)
          have h2 := (maxI_le r y)
          rcases List.mem_cons.mp hm with z | z
          · rw [z] at h1 ⊢
            exact Int.le_antisymm h2.1 h1
          · exact Int.le_antisymm (h2.2 m z) h1
        rw [e1]
        exact ok_int h
  · rename_i ds
    obtain ⟨a, xs, rfl, s1, r1⟩ := rd
    unfold oMax at h
    cases e : D.ints ds with
    | none => simp only [e] at h; exact False.elim h
    | some ns =>
      cases ns with
      | nil => simp only [e] at h; exact False.elim h
      | cons y r =>
        simp only [e] at h
        have q := ints_some e
        subst q
        rw [r1.ints] at s1
        refine .inl ⟨a, y :: r, rfl, .inl (.inl s1.2), Nat.succ_pos _, fun m hm hy => ?_⟩
        have e1 : m = maxI y r := by
          have h1 := hy _ (maxI_mem r y)
          have h2 := (maxI_le r y)
          rcases List.mem_cons.mp hm with z | z
          · rw [z] at h1 ⊢
            exact Int.le_antisymm h2.1 h1
          · exact Int.le_antisymm (h2.2 m z) h1
        rw [e1]
        exact ok_int h
theorem o_sum {K : PySem.W.Frag} : C1 K (rSum K) oSum := by
  intro N H d x Q rd h
  cases d <;> first | exact False.elim h | skip
  rename_i ds
  obtain ⟨a, xs, rfl, s1, r1⟩ := rd
  unfold oSum at h
  cases e : D.ints ds with
  | none => simp only [e] at h; exact False.elim h
  | some ns =>
    simp only [e] at h
    have q := ints_some e
    subst q
    rw [r1.ints] at s1
    exact ⟨a, ns, rfl, .inl (.inl s1.2), ok_int h⟩
theorem o_any {K : PySem.W.Frag} : C1 K (rAny K) oAny := by
  intro N H d x Q rd h
  cases d <;> first | exact False.elim h | skip
  rename_i ds
  obtain ⟨a, xs, rfl, s1, r1⟩ := rd
  unfold oAny at h
  cases e : D.bls ds with
  | none => simp only [e] at h; exact False.elim h
  | some ns =>
    simp only [e] at h
    have q := bls_some e
    subst q
    rw [r1.bls] at s1
    exact ⟨a, ns, rfl, .inl (.inl s1.2), ok_bl h⟩
theorem o_all {K : PySem.W.Frag} : C1 K (rAll K) oAll := by
  intro N H d x Q rd h
  cases d <;> first | exact False.elim h | skip
  rename_i ds
  obtain ⟨a, xs, rfl, s1, r1⟩ := rd
  unfold oAll at h
  cases e : D.bls ds with
  | none => simp only [e] at h; exact False.elim h
  | some ns =>
    simp only [e] at h
    have q := bls_some e
    subst q
    rw [r1.bls] at s1
    exact ⟨a, ns, rfl, .inl (.inl s1.2), ok_bl h⟩
theorem nf_min : NoEx1 oMin ∧ Fl1 oMin := by
  refine ⟨fun d e h => ?_, fun d s h => ?_⟩ <;> unfold oMin at h <;> split at h <;> (try split at h) <;> cases h <;> exact ⟨_, rfl, rfl⟩
theorem nf_max : NoEx1 oMax ∧ Fl1 oMax := by
  refine ⟨fun d e h => ?_, fun d s h => ?_⟩ <;> unfold oMax at h <;> split at h <;> (try split at h) <;> cases h <;> exact ⟨_, rfl, rfl⟩
theorem nf_sum : NoEx1 oSum ∧ Fl1 oSum := by
  refine ⟨fun d e h => ?_, fun d s h => ?_⟩ <;> unfold oSum at h <;> split at h <;> (try split at h) <;> cases h <;> exact ⟨_, rfl, rfl⟩
theorem nf_any : NoEx1 oAny ∧ Fl1 oAny := by
  refine ⟨fun d e h => ?_, fun d s h => ?_⟩ <;> unfold oAny at h <;> split at h <;> (try split at h) <;> cases h <;> exact ⟨_, rfl, rfl⟩
theorem nf_all : NoEx1 oAll ∧ Fl1 oAll := by
  refine ⟨fun d e h => ?_, fun d s h => ?_⟩ <;> unfold oAll at h <;> split at h <;> (try split at h) <;> cases h <;> exact ⟨_, rfl, rfl⟩
theorem x_min (hc : X.calm = true) (hm : X.mg "min" = none) (ha : SE X W a m l) (hg : Gl X "min" := by rfl) (he : starEach [a] X.env = (false, eval a X.env) :: starEach [] X.env := by rfl) (hpl : (backTo pos (starEach ([] : List Expr) X.env)).any (·.1) = false := by rfl) :
    SE X W (.Call (.Name "min" p) [a] [] pos) (eOp1 oMin m) [] := x_flat (x_b1 (cr_minB hc) o_min nf_min.1 hm (by decide +kernel) ha hg (by decide) (by decide) he hpl) (fl_e1 nf_min.2)
theorem x_max (hc : X.calm = true) (hm : X.mg "max" = none) (ha : SE X W a m l) (hg : Gl X "max" := by rfl) (he : starEach [a] X.env = (false, eval a X.env) :: starEach [] X.env := by rfl) (hpl : (backTo pos (starEach ([] : List Expr) X.env)).any (·.1) = false := by rfl) :
    SE X W (.Call (.Name "max" p) [a] [] pos) (eOp1 oMax m) [] := x_flat (x_b1 (cr_maxB hc) o_max nf_max.1 hm (by decide +kernel) ha hg (by decide) (by decide) he hpl) (fl_e1 nf_max.2)
theorem x_sum (hc : X.calm = true) (hm : X.mg "sum" = none) (ha : SE X W a m l) (hg : Gl X "sum" := by rfl) (he : starEach [a] X.env = (false, eval a X.env) :: starEach [] X.env := by rfl) (hpl : (backTo pos (starEach ([] : List Expr) X.env)).any (·.1) = false := by rfl) :
    SE X W (.Call (.Name "sum" p) [a] [] pos) (eOp1 oSum m) [] := x_flat (x_b1 (cr_sum hc) o_sum nf_sum.1 hm (by decide +kernel) ha hg (by decide) (by decide) he hpl) (fl_e1 nf_sum.2)
theorem x_any (hc : X.calm = true) (hm : X.mg "any" = none) (ha : SE X W a m l) (hg : Gl X "any" := by rfl) (he : starEach [a] X.env = (false, eval a X.env) :: starEach [] X.env := by rfl) (hpl : (backTo pos (starEach ([] : List Expr) X.env)).any (·.1) = false := by rfl) :
    SE X W (.Call (.Name "any" p) [a] [] pos) (eOp1 oAny m) [] := x_flat (x_b1 (cr_any hc) o_any nf_any.1 hm (by decide +kernel) ha hg (by decide) (by decide) he hpl) (fl_e1 nf_any.2)
theorem x_all (hc : X.calm = true) (hm : X.mg "all" = none) (ha : SE X W a m l) (hg : Gl X "all" := by rfl) (he : starEach [a] X.env = (false, eval a X.env) :: starEach [] X.env := by rfl) (hpl : (backTo pos (starEach ([] : List Expr) X.env)).any (·.1) = false := by rfl) :
    SE X W (.Call (.Name "all" p) [a] [] pos) (eOp1 oAll m) [] := x_flat (x_b1 (cr_all hc) o_all nf_all.1 hm (by decide +kernel) ha hg (by decide) (by decide) he hpl) (fl_e1 nf_all.2)
theorem x_max2 (hc : X.calm = true) (hm : X.mg "max" = none) (ha : SE X W a m l) (hb : SE X W b n k) (hg : Gl X "max" := by rfl) (he : starEach [a, b] X.env = (false, eval a X.env) :: starEach [b] X.env := by rfl) (he2 : starEach [b] X.env = (false, eval b X.env) :: starEach [] X.env := by rfl)
    (hpl : (backTo pos (starEach [b] X.env)).any (·.1) = false := by rfl) : SE X W (.Call (.Name "max" p) [a, b] [] pos) (eOp2 oMax2 m n) [] := by
  refine x_flat (x_b2 (call_max2 hc) (g := oMax2) ?_ (fun d c e h => by unfold oMax2 at h; split at h <;> cases h) hm (by decide +kernel) ha hb hg (by decide) (by decide) he he2 hpl) (fl_e2 fun d c s h => by unfold oMax2 at h; split at h <;> cases h <;> exact ⟨_, rfl, rfl⟩)
  intro N H d c x y Q rd rc h
  cases d <;> cases c <;> first | exact False.elim h | skip
  rename_i i j
  obtain rfl : x = .int i := rd
  obtain rfl : y = .int j := rc
  exact ⟨i, j, rfl, ok_int h⟩

/-! sorted -/
theorem insI_perm (x : Int) : ∀ r : List Int, (insI x r).Perm (x :: r)
  | [] => List.Perm.refl _
  | y :: r => by
    unfold insI
    split
    · exact List.Perm.refl _
    · exact ((insI_perm x r).cons y).trans (List.Perm.swap x y r)
theorem sortI_perm : ∀ r : List Int, (sortI r).Perm r
  | [] => List.Perm.refl _
  | x :: r => (insI_perm x _).trans ((sortI_perm r).cons x)
theorem insI_pw (x : Int) : ∀ r : List Int, r.Pairwise (· ≤ ·) → (insI x r).Pairwise (· ≤ ·)
  | [], _ => List.pairwise_singleton _ _
  | y :: r, h => by
    have h' := List.pairwise_cons.mp h
    unfold insI
    split
    · rename_i hxy
      exact List.pairwise_cons.mpr ⟨fun z hz => by
        rcases List.mem_cons.mp hz with e | hz
        · rw [e]; exact hxy
        · exact Int.le_trans hxy (h'.1 z hz), h⟩
    · rename_i hxy
      refine List.pairwise_cons.mpr ⟨fun z hz => ?_, insI_pw x r h'.2⟩
      rcases List.mem_cons.mp ((insI_perm x r).mem_iff.mp hz) with e | hz
      · rw [e]; omega
      · exact h'.1 z hz
theorem sortI_pw : ∀ r : List Int, (sortI r).Pairwise (· ≤ ·)
  | [] => List.Pairwise.nil
  | x :: r => insI_pw x _ (sortI_pw r)
theorem sorted_one {a b : List Int} (p : a.Perm b) (ha : a.Pairwise (· ≤ ·)) (hb : b.Pairwise (· ≤ ·)) : a = b :=
  List.Perm.eq_of_pairwise (le := (· ≤ ·)) (fun x y _ _ h1 h2 => Int.le_antisymm h1 h2) ha hb p
theorem sortI_one {a b : List Int} (p : a.Perm b) (ha : a.Pairwise (· ≤ ·)) : a = sortI b := sorted_one (p.trans (sortI_perm b).symm) ha (sortI_pw b)
theorem o_sorted {K : PySem.W.Frag} : C1 K (fun xs H Q => rSorted K xs H Q ∨ rSortT K xs H Q) oSorted := by
  intro N H d x Q rd h
  cases d <;> first | exact False.elim h | skip
  · rename_i ds
    obtain ⟨a, xs, rfl, s1, r1⟩ := rd
    unfold oSorted at h
    cases e : D.ints ds with
    | none => simp only [e] at h; exact False.elim h
    | some ns =>
      simp only [e] at h
      obtain ⟨hl, h⟩ := ok_if h
      have q := ints_some e
      subst q
      rw [r1.ints] at s1
      refine .inr ⟨a, ns, rfl, sqt s1, hl, fun ns' p h1 h2 hp => ?_⟩
      rw [sortI_one h1 h2]
      exact ok_own h (RepL.of_ints _) hp
  · rename_i ds
    obtain ⟨a, xs, rfl, s1, r1⟩ := rd
    unfold oSorted at h
    cases e : D.ints ds with
    | none => simp only [e] at h; exact False.elim h
    | some ns =>
      simp only [e] at h
      obtain ⟨hl, h⟩ := ok_if h
      have q := ints_some e
      subst q
      rw [r1.ints] at s1
      refine .inl ⟨a, ns, rfl, .inl (.inl s1.2), hl, fun ns' p h1 h2 hp => ?_⟩
      rw [sortI_one h1 h2]
      exact ok_own h (RepL.of_ints _) hp
theorem nx_sorted : NoEx1 oSorted := by
  intro d e h
  unfold oSorted at h
  split at h <;> (try split at h) <;> (try split at h) <;> cases h
theorem x_sorted (hm : X.mg "sorted" = none) (ha : SE X W a m l) (hg : Gl X "sorted" := by rfl) (he : starEach [a] X.env = (false, eval a X.env) :: starEach [] X.env := by rfl) (hpl : (backTo pos (starEach ([] : List Expr) X.env)).any (·.1) = false := by rfl) :
    SE X W (.Call (.Name "sorted" p) [a] [] pos) (eOp1 oSorted m) l := x_b1 (cr_sorted.or cr_sortT) o_sorted nx_sorted hm (by decide +kernel) ha hg (by decide) (by decide) he hpl
end
end Tg

/-! Tg, part 9: keeping and changing environments; targets, what is walked, comprehensions. -/
namespace Tg
open PySem PySem.Spec PyProof.Rows L2

theorem freeze1_length (i : Nat) (e : En) : (freeze1 i e).length = e.length := by
  unfold freeze1
  split
  · rw [List.length_set]
  · rfl
theorem freeze_length : ∀ (l : List Nat) (e : En), (freeze l e).length = e.length
  | [], _ => rfl
  | i :: l, e => by rw [freeze_cons, freeze_length l, freeze1_length]
theorem freeze1_own {i j : Nat} {e : En} {ds : List D} (h : (freeze1 i e)[j]? = some (some (.own ds))) : e[j]? = some (some (.own ds)) ∧ j ≠ i := by
  unfold freeze1 at h
  split at h
  · rename_i es he
    by_cases q : i = j
    · subst q
      have hl : i < e.length := (List.getElem?_eq_some_iff.mp he).1
      rw [List.getElem?_set_self hl] at h
      cases h
    · rw [List.getElem?_set_ne q] at h
      exact ⟨h, fun z => q z.symm⟩
  · rename_i hn
    refine ⟨h, fun z => ?_⟩
    subst z
    exact hn ds h
theorem freeze1_val {i j : Nat} {e : En} {d : D} (h : (freeze1 i e)[j]? = some (some (.val d))) : e[j]? = some (some (.val d)) ∨ (j = i ∧ ∃ ds, d = .lst ds ∧ e[j]? = some (some (.own ds))) := by
  unfold freeze1 at h
  split at h
  · rename_i es he
    by_cases q : i = j
    · subst q
      have hl : i < e.length := (List.getElem?_eq_some_iff.mp he).1
      rw [List.getElem?_set_self hl] at h
      have h' : D.lst es = d := by simpa using h
      exact .inr ⟨rfl, es, h'.symm, he⟩
    · rw [List.getElem?_set_ne q] at h
      exact .inl h
  · exact .inl h
theorem freeze_own : ∀ {l : List Nat} {j : Nat} {e : En} {ds : List D}, (freeze l e)[j]? = some (some (.own ds)) → e[j]? = some (some (.own ds)) ∧ j ∉ l
  | [], _, _, _, h => ⟨h, fun z => nomatch z⟩
  | i :: l, j, e, ds, h => by
    rw [freeze_cons] at h
    obtain ⟨h1, h2⟩ := freeze_own h
    obtain ⟨h3, h4⟩ := freeze1_own h1
    exact ⟨h3, fun z => (List.mem_cons.mp z).elim h4 h2⟩
theorem freeze_val : ∀ {l : List Nat} {j : Nat} {e : En} {d : D}, (freeze l e)[j]? = some (some (.val d)) → e[j]? = some (some (.val d)) ∨ (j ∈ l ∧ ∃ ds, d = .lst ds ∧ e[j]? = some (some (.own ds)))
  | [], _, _, _, h => .inl h
  | i :: l, j, e, d, h => by
    rw [freeze_cons] at h
    rcases freeze_val h with h1 | ⟨h1, ds, h2, h3⟩
    · rcases freeze1_val h1 with h | ⟨h4, h5⟩
      · exact .inl h
      · exact .inr ⟨by rw [h4]; exact List.mem_cons_self, h5⟩
    · exact .inr ⟨List.mem_cons_of_mem _ h1, ds, h2, (freeze1_own h3).1⟩
theorem freeze1_dct {i j : Nat} {e : En} {t : Nat} {kvs : List (List Int × D)} (h : (freeze1 i e)[j]? = some (some (.dct t kvs))) : e[j]? = some (some (.dct t kvs)) := by
  unfold freeze1 at h
  split at h
  · rename_i es he
    by_cases q : i = j
    · subst q
      have hl : i < e.length := (List.getElem?_eq_some_iff.mp he).1
      rw [List.getElem?_set_self hl] at h
      cases h
    · rw [List.getElem?_set_ne q] at h
      exact h
  · exact h
theorem freeze_dct : ∀ {l : List Nat} {j : Nat} {e : En} {t : Nat} {kvs : List (List Int × D)}, (freeze l e)[j]? = some (some (.dct t kvs)) → e[j]? = some (some (.dct t kvs))
  | [], _, _, _, _, h => h
  | i :: l, j, e, t, kvs, h => by
    rw [freeze_cons] at h
    exact freeze1_dct (freeze_dct h)
theorem freeze_rooted {l : List Nat} {j : Nat} {e : En} {s : S} (h : (freeze l e)[j]? = some (some s)) (r : s.rooted) : e[j]? = some (some s) := by
  cases s with
  | val d => exact r.elim
  | own ds => exact (freeze_own h).1
  | dct t kvs => exact freeze_dct h
/-- one slot is set -/
theorem set_get {i j : Nat} {e : En} {v : Option S} {s : S} (h : (e.set i v)[j]? = some (some s)) : (j = i ∧ v = some s ∧ i < e.length) ∨ (j ≠ i ∧ e[j]? = some (some s)) := by
  by_cases hj : i = j
  · subst hj
    by_cases hl : i < e.length
    · rw [List.getElem?_set_self hl] at h
      exact .inl ⟨rfl, by simpa using h, hl⟩
    · rw [List.getElem?_eq_none (by rw [List.length_set]; omega)] at h; cases h
  · rw [List.getElem?_set_ne hj] at h
    exact .inr ⟨fun z => hj z.symm, h⟩
theorem keep_length (l : List Nat) (f : Bool) (e : En) : (keep l f e).length = e.length := by
  cases f
  · exact freeze_length l e
  · rfl

section
variable {K : PySem.W.Frag} {B : Addr → Prop} {G : Nat → Nat} {Z : Nat → Addr → Prop} {rt : Nat → Addr} {e : En} {σ : L2.St} {H H1 : Hp}
/-- new nodes (but those of x) and the roots of l are not changed any more: they belong to the group p -/
def ZN (p : Nat) (Z : Nat → Addr → Prop) (e : En) (rt : Nat → Addr) (l : List Nat) (H H1 : Hp) (x : Addr → Prop) : Nat → Addr → Prop := fun q a => Z q a ∨ (q = p ∧ ((H a = none ∧ H1 a ≠ none ∧ ¬ x a) ∨ Root e rt l a))
theorem Rel.root (r : Rel K B G Z rt e σ H) {l : List Nat} {a : Addr} (h : Root e rt l a) : B a ∧ ∃ xs, H a = some (.lst xs) := by
  obtain ⟨i, hi, ⟨ds, q⟩, rfl⟩ := h
  obtain ⟨_, b, _, xs, h, _⟩ := r.own i ds q
  exact ⟨b, xs, h⟩
theorem Rel.rootZ (r : Rel K B G Z rt e σ H) {l : List Nat} {a : Addr} (h : Root e rt l a) : ∀ p, ¬ Z p a := by
  obtain ⟨i, hi, ⟨ds, q⟩, rfl⟩ := h
  exact (r.own i ds q).2.2.1
theorem Rel.grow (r : Rel K B G Z rt e σ H) (s : Same H H1) (p : Nat) (l : List Nat) (hl : ∀ j ∈ l, G j = p) (x : Addr → Prop) : Rel K B G (ZN p Z e rt l H H1 x) rt (freeze l e) σ H1 := by
  have up : ∀ q a, Z q a → ZN p Z e rt l H H1 x q a := fun q a z => .inl z
  have rz : ∀ (i : Nat) (s : S), e[i]? = some (some s) → s.rooted → (∀ ds, s = .own ds → i ∉ l) → (∀ q, ¬ Z q (rt i)) → H (rt i) ≠ none → ∀ q, ¬ ZN p Z e rt l H H1 x q (rt i) := fun i s h1 h2 h3 h4 h5 q z => by
    rcases z with z | ⟨_, ⟨z, _⟩ | ⟨j, hj, ⟨es, q2⟩, z⟩⟩
    · exact h4 q z
    · exact h5 z
    · have := r.injs i j s _ h1 q2 h2 trivial z
      subst this
      rw [h1] at q2
      cases q2
      exact h3 es rfl hj
  refine ⟨by rw [freeze_length]; exact r.len, fun i d q => ?_, fun i ds q => ?_, fun i t kvs q => ?_, fun i j s u q1 q2 h1 h2 => r.injs i j s u (freeze_rooted q1 h1) (freeze_rooted q2 h2) h1 h2, fun q a z => ?_, fun q1 q2 a z1 z2 => ?_, fun q a hq z => ?_, fun a h => r.yg a (s.free h)⟩
  · rcases freeze_val q with q | ⟨hi, ds, ed, q2⟩
    · obtain ⟨v, h1, h2⟩ := r.val i d q
      exact ⟨v, h1, (h2.same s).mono (up _)⟩
    · subst ed
      obtain ⟨h1, h2, h3, xs, h4, h5⟩ := r.own i ds q2
      exact ⟨_, h1, rt i, xs, rfl, ⟨.inr ⟨hl i hi, .inr ⟨i, hi, ⟨ds, q2⟩, rfl⟩⟩, s _ _ h4⟩, (h5.same s).mono (up _)⟩
  · obtain ⟨q, hi⟩ := freeze_own q
    obtain ⟨h1, h2, h3, xs, h4, h5⟩ := r.own i ds q
    exact ⟨h1, h2, rz i _ q trivial (fun _ _ => hi) h3 (by rw [h4]; exact nofun), xs, s _ _ h4, (h5.same s).mono (up _)⟩
  · have q := freeze_dct q
    obtain ⟨h1, h2, h3, o, h4, h5⟩ := r.dct i t kvs q
    exact ⟨h1, h2, rz i _ q trivial (fun _ z => nomatch z) h3 (by rw [h4]; exact nofun), o, s _ _ h4, h5.still (Same.still s)⟩
  · rcases z with z | ⟨_, ⟨_, z, _⟩ | z⟩
    · exact (r.ext s).al q a z
    · exact z
    · obtain ⟨_, xs, h⟩ := r.root z
      rw [s _ _ h]
      exact fun z => nomatch z
  · have nz : ∀ q, Z q a → ¬ ((H a = none ∧ H1 a ≠ none ∧ ¬ x a) ∨ Root e rt l a) := fun q z k => by
      rcases k with ⟨k, _⟩ | k
      · exact r.al q a z k
      · exact r.rootZ k q z
    rcases z1 with z1 | ⟨e1, z1⟩
    · rcases z2 with z2 | ⟨e2, z2⟩
      · exact r.dj q1 q2 a z1 z2
      · exact absurd z2 (nz q1 z1)
    · rcases z2 with z2 | ⟨e2, z2⟩
      · exact absurd z1 (nz q2 z2)
      · rw [e1, e2]
  · rcases z with z | ⟨_, ⟨z, _⟩ | z⟩
    · exact r.nw q a hq z
    · exact r.yg a z
    · exact (r.root z).1
theorem Rel.setVal (r : Rel K B G Z rt e σ H) (i : Nat) {d : D} {v : V} (h : Rep K (Z (G i)) H d v) : Rel K B G Z rt (e.set i (some (.val d))) (σ.set i (some v)) H := by
  have nw : ∀ (j : Nat) (s : S), (e.set i (some (S.val d)))[j]? = some (some s) → s.rooted → e[j]? = some (some s) ∧ j ≠ i := fun j s q hr => by
    rcases set_get q with ⟨_, z, _⟩ | ⟨hj, q⟩
    · cases z; exact hr.elim
    · exact ⟨q, hj⟩
  refine ⟨by rw [List.length_set, List.length_set]; exact r.len, fun j c q => ?_, fun j ds q => ?_, fun j t kvs q => ?_, fun j k s u q1 q2 h1 h2 => r.injs j k s u (nw j s q1 h1).1 (nw k u q2 h2).1 h1 h2, r.al, r.dj, r.nw, r.yg⟩
  · rcases set_get q with ⟨hj, z, hl⟩ | ⟨hj, q⟩
    · subst hj
      cases z
      exact ⟨v, by rw [List.getElem?_set_self (by rw [← r.len]; exact hl)], h⟩
    · rw [List.getElem?_set_ne (fun z => hj z.symm)]
      exact r.val j c q
  · obtain ⟨q1, hj⟩ := nw j _ q trivial
    rw [List.getElem?_set_ne (fun z => hj z.symm)]
    exact r.own j ds q1
  · obtain ⟨q1, hj⟩ := nw j _ q trivial
    rw [List.getElem?_set_ne (fun z => hj z.symm)]
    exact r.dct j t kvs q1
theorem Rel.setNone (r : Rel K B G Z rt e σ H) (i : Nat) (v : Option V) : Rel K B G Z rt (e.set i none) (σ.set i v) H := by
  have nw : ∀ (j : Nat) (s : S), (e.set i (none : Option S))[j]? = some (some s) → e[j]? = some (some s) ∧ j ≠ i := fun j s q => by
    rcases set_get q with ⟨_, z, _⟩ | ⟨hj, q⟩
    · cases z
    · exact ⟨q, hj⟩
  refine ⟨by rw [List.length_set, List.length_set]; exact r.len, fun j c q => ?_, fun j ds q => ?_, fun j t kvs q => ?_, fun j k s u q1 q2 h1 h2 => r.injs j k s u (nw j s q1).1 (nw k u q2).1 h1 h2, r.al, r.dj, r.nw, r.yg⟩
  · obtain ⟨q1, hj⟩ := nw j _ q
    rw [List.getElem?_set_ne (fun z => hj z.symm)]
    exact r.val j c q1
  · obtain ⟨q1, hj⟩ := nw j _ q
    rw [List.getElem?_set_ne (fun z => hj z.symm)]
    exact r.own j ds q1
  · obtain ⟨q1, hj⟩ := nw j _ q
    rw [List.getElem?_set_ne (fun z => hj z.symm)]
    exact r.dct j t kvs q1
/-- a slot gets a root of its own -/
theorem Rel.setRoot (r : Rel K B G Z rt e σ H) (i : Nat) {s : S} (hs : s.rooted) {q : Addr} (hb : B q) (hz : ∀ p, ¬ Z p q)
    (ho : ∀ ds, s = .own ds → ∃ xs, H q = some (.lst xs) ∧ RepL K (Z (G i)) H ds xs) (hd : ∀ t kvs, s = .dct t kvs → ∃ o, H q = some o ∧ DOb K H t kvs o)
    (hne : ∀ j u, j ≠ i → e[j]? = some (some u) → u.rooted → rt j ≠ q) :
    Rel K B G Z (fun j => if j = i then q else rt j) (e.set i (some s)) (σ.set i (some (.ref q))) H := by
  refine ⟨by rw [List.length_set, List.length_set]; exact r.len, fun j c k => ?_, fun j es k => ?_, fun j t kvs k => ?_, fun j k u w k1 k2 h1 h2 ek => ?_, r.al, r.dj, r.nw, r.yg⟩
  · rcases set_get k with ⟨_, z, _⟩ | ⟨hj, k⟩
    · cases z; exact hs.elim
    · rw [List.getElem?_set_ne (fun z => hj z.symm)]
      exact r.val j c k
  · rcases set_get k with ⟨hj, z, hl⟩ | ⟨hj, k⟩
    · subst hj
      cases z
      obtain ⟨xs, hq, h⟩ := ho _ rfl
      rw [if_pos rfl, List.getElem?_set_self (by rw [← r.len]; exact hl)]
      exact ⟨rfl, hb, hz, xs, hq, h⟩
    · rw [if_neg hj, List.getElem?_set_ne (fun z => hj z.symm)]
      exact r.own j es k
  · rcases set_get k with ⟨hj, z, hl⟩ | ⟨hj, k⟩
    · subst hj
      cases z
      obtain ⟨o, hq, h⟩ := hd _ _ rfl
      rw [if_pos rfl, List.getElem?_set_self (by rw [← r.len]; exact hl)]
      exact ⟨rfl, hb, hz, o, hq, h⟩
    · rw [if_neg hj, List.getElem?_set_ne (fun z => hj z.symm)]
      exact r.dct j t kvs k
  · have ek' : (if j = i then q else rt j) = (if k = i then q else rt k) := ek
    rcases set_get k1 with ⟨hj, _, _⟩ | ⟨hj, k1⟩
    · rcases set_get k2 with ⟨hk, _, _⟩ | ⟨hk, k2⟩
      · rw [hj, hk]
      · rw [if_pos hj, if_neg hk] at ek'
        exact absurd ek'.symm (hne k w hk k2 h2)
    · rcases set_get k2 with ⟨hk, _, _⟩ | ⟨hk, k2⟩
      · rw [if_neg hj, if_pos hk] at ek'
        exact absurd ek' (hne j u hj k1 h1)
      · rw [if_neg hj, if_neg hk] at ek'
        exact r.injs j k u w k1 k2 h1 h2 ek'
theorem Rel.setOwn (r : Rel K B G Z rt e σ H) (i : Nat) {ds : List D} {q : Addr} {xs : List V} (hb : B q) (hz : ∀ p, ¬ Z p q) (hq : H q = some (.lst xs)) (h : RepL K (Z (G i)) H ds xs) (hne : ∀ j u, j ≠ i → e[j]? = some (some u) → u.rooted → rt j ≠ q) :
    Rel K B G Z (fun j => if j = i then q else rt j) (e.set i (some (.own ds))) (σ.set i (some (.ref q))) H :=
  r.setRoot i (s := .own ds) trivial hb hz (fun es e => by cases e; exact ⟨xs, hq, h⟩) (fun t kvs e => nomatch e) hne
theorem Rel.live (r : Rel K B G Z rt e σ H) {j : Nat} {u : S} (h : e[j]? = some (some u)) (hr : u.rooted) : H (rt j) ≠ none ∧ (∀ p, ¬ Z p (rt j)) ∧ B (rt j) := by
  cases u with
  | val d => exact hr.elim
  | own ds =>
    obtain ⟨_, b, z, ys, k2, _⟩ := r.own j ds h
    exact ⟨by rw [k2]; exact nofun, z, b⟩
  | dct t kvs =>
    obtain ⟨_, b, z, o, k2, _⟩ := r.dct j t kvs h
    exact ⟨by rw [k2]; exact nofun, z, b⟩
/-- what stands at the root of a slot is written -/
theorem Rel.writeRoot (r : Rel K B G Z rt e σ H) {i : Nat} {s0 s : S} {o : HO} (hi : e[i]? = some (some s0)) (h0 : s0.rooted) (hs : s.rooted) (st : Still H (upd H (rt i) o))
    (ho : ∀ ds, s = .own ds → ∃ xs, o = .lst xs ∧ RepL K (Z (G i)) H ds xs) (hd : ∀ t kvs, s = .dct t kvs → DOb K H t kvs o) (hσ : σ[i]? = some (some (.ref (rt i)))) : Rel K B G Z rt (e.set i (some s)) σ (upd H (rt i) o) := by
  have lv := r.live hi h0
  have ne : ∀ p a, Z p a → a ≠ rt i := fun p a z q => lv.2.1 p (q ▸ z)
  have up : ∀ {p : Nat} {d : D} {v : V}, Rep K (Z p) H d v → Rep K (Z p) (upd H (rt i) o) d v := fun {p d v} q => Rep.imp (fun a ys z k => ⟨z, by rw [upd_ne (ne p a z)]; exact k⟩) st d v q
  have upL : ∀ {p : Nat} {es : List D} {vs : List V}, RepL K (Z p) H es vs → RepL K (Z p) (upd H (rt i) o) es vs := fun {p es vs} q => RepL.imp (fun a ys z k => ⟨z, by rw [upd_ne (ne p a z)]; exact k⟩) st es vs q
  have hb := lv.2.2
  have bk : ∀ (m : Nat) (u : S), (e.set i (some s))[m]? = some (some u) → u.rooted → ∃ u', e[m]? = some (some u') ∧ u'.rooted := fun m u q hu => by
    rcases set_get q with ⟨hm, _, _⟩ | ⟨_, q⟩
    · exact ⟨s0, by rw [hm]; exact hi, h0⟩
    · exact ⟨u, q, hu⟩
  have ot : ∀ (j : Nat) (u : S), j ≠ i → e[j]? = some (some u) → u.rooted → rt j ≠ rt i := fun j u hj q hu z => hj (r.injs j i u s0 q hi hu h0 z)
  refine ⟨by rw [List.length_set]; exact r.len, fun j c k => ?_, fun j es k => ?_, fun j t kvs k => ?_, fun j k u w k1 k2 h1 h2 ek => ?_, fun p a z => by rw [upd_ne (ne p a z)]; exact r.al p a z, r.dj, r.nw, fun a h => ?_⟩
  · rcases set_get k with ⟨_, z, _⟩ | ⟨hj, k⟩
    · cases z; exact hs.elim
    · obtain ⟨v, k1, k2⟩ := r.val j c k
      exact ⟨v, k1, up k2⟩
  · rcases set_get k with ⟨hj, z, hl⟩ | ⟨hj, k⟩
    · subst hj
      cases z
      obtain ⟨xs, ox, h⟩ := ho _ rfl
      subst ox
      exact ⟨hσ, hb, lv.2.1, xs, upd_same, upL h⟩
    · obtain ⟨k1, k2, k3, ys, k4, k5⟩ := r.own j es k
      exact ⟨k1, k2, k3, ys, by rw [upd_ne (ot j _ hj k trivial)]; exact k4, upL k5⟩
  · rcases set_get k with ⟨hj, z, hl⟩ | ⟨hj, k⟩
    · subst hj
      cases z
      exact ⟨hσ, hb, lv.2.1, o, upd_same, (hd _ _ rfl).still st⟩
    · obtain ⟨k1, k2, k3, u, k4, k5⟩ := r.dct j t kvs k
      exact ⟨k1, k2, k3, u, by rw [upd_ne (ot j _ hj k trivial)]; exact k4, k5.still st⟩
  · obtain ⟨u', z1, g1⟩ := bk j u k1 h1
    obtain ⟨w', z2, g2⟩ := bk k w k2 h2
    exact r.injs j k _ _ z1 z2 g1 g2 ek
  · refine r.yg a ?_
    by_cases ha : a = rt i
    · subst ha
      rw [upd_same] at h
      cases h
    · rw [upd_ne ha] at h
      exact h
/-- the list that slot i owns is written -/
theorem Rel.write (r : Rel K B G Z rt e σ H) {i : Nat} {ds ds' : List D} {xs' : List V} (hi : e[i]? = some (some (.own ds))) (h : RepL K (Z (G i)) H ds' xs') : Rel K B G Z rt (e.set i (some (.own ds'))) σ (upd H (rt i) (.lst xs')) := by
  obtain ⟨h1, h2, h3, xs, h4, h5⟩ := r.own i ds hi
  exact r.writeRoot hi trivial (s := .own ds') trivial (still_lst h4) (fun es e => by cases e; exact ⟨xs', rfl, h⟩) (fun t kvs e => nomatch e) h1
theorem Rel.wipe (r : Rel K B G Z rt e σ H) : ∀ vs : List Nat, Rel K B G Z rt (wipeE e vs) (L2.wipe σ vs) H
  | [] => r
  | v :: vs => (Rel.wipe r vs).setNone v none
theorem zn_sub {p : Nat} {l : List Nat} (hl : ∀ j ∈ l, G j = p) {x : Addr → Prop} {a : Addr} (n : NZ G Z e rt l H a) (hx : ¬ x a) (h1 : H1 a ≠ none) : ZN p Z e rt l H H1 x p a := by
  rcases n with ⟨i, hi, n⟩ | n | n
  · rw [hl i hi] at n; exact .inl n
  · exact .inr ⟨rfl, .inl ⟨n, h1, hx⟩⟩
  · exact .inr ⟨rfl, .inr n⟩
/-- a reckoned value is put into a slot -/
theorem Rel.put (r : Rel K B G Z rt e σ H) (s : Same H H1) {l : List Nat} {v : S} {x : V} (h : RepS K (NZ G Z e rt l H) H H1 v x) (i : Nat) (hl : ∀ j ∈ l, G j = G i) :
    ∃ Z' rt', (∀ p a, Z p a → Z' p a) ∧ (∀ p a, Z' p a → Z p a ∨ B a) ∧ Rel K B G Z' rt' ((keep l v.flat e).set i (some v)) (σ.set i (some x)) H1 := by
  have zb : ∀ (x : Addr → Prop) (p : Nat) (a : Addr), ZN (G i) Z e rt l H H1 x p a → Z p a ∨ B a := fun x p a z => by
    rcases z with z | ⟨_, ⟨z, _⟩ | z⟩
    · exact .inl z
    · exact .inr (r.yg a z)
    · exact .inr (r.root z).1
  cases v with
  | dct t kvs => exact h.elim
  | val d =>
    have h : Rep K (NZ G Z e rt l H) H1 d x := h
    show ∃ Z' rt', _ ∧ _ ∧ Rel K B G Z' rt' ((keep l d.flat e).set i (some (.val d))) _ H1
    cases f : d.flat with
    | true => exact ⟨Z, rt, fun p a z => z, fun p a z => .inl z, (r.ext s).setVal i (Rep.flat (Still.refl H1) d x f h)⟩
    | false =>
      refine ⟨ZN (G i) Z e rt l H H1 (fun _ => False), rt, fun p a z => .inl z, zb _, (r.grow s (G i) l hl _).setVal i ?_⟩
      exact Rep.imp (fun a xs n k => ⟨zn_sub hl n (fun z => z) (by rw [k]; exact nofun), k⟩) (Still.refl H1) d x h
  | own ds =>
    obtain ⟨q, xs, rfl, hq, hq1, h⟩ := h
    have nq : ∀ p, ¬ Z p q := fun p z => r.al p q z hq
    have ne : ∀ (l : List Nat) j u, j ≠ i → (freeze l e)[j]? = some (some u) → u.rooted → rt j ≠ q := fun l j u _ k hu z => (r.live (freeze_rooted k hu) hu).1 (by rw [z]; exact hq)
    show ∃ Z' rt', _ ∧ _ ∧ Rel K B G Z' rt' ((keep l (D.flatL ds) e).set i (some (.own ds))) _ H1
    cases f : D.flatL ds with
    | true =>
      exact ⟨Z, _, fun p a z => z, fun p a z => .inl z, (r.ext s).setOwn i (r.yg q hq) nq hq1 (RepL.flat (Still.refl H1) ds xs f h) (ne [])⟩
    | false =>
      refine ⟨ZN (G i) Z e rt l H H1 (fun a => a = q), _, fun p a z => .inl z, zb _, (r.grow s (G i) l hl _).setOwn i (r.yg q hq) (fun p z => ?_) hq1 (RepL.imp (fun a ys n k => ⟨zn_sub hl n.1 n.2 (by rw [k]; exact nofun), k⟩) (Still.refl H1) ds xs h) (ne l)⟩
      rcases z with z | ⟨_, ⟨_, _, z⟩ | z⟩
      · exact nq p z
      · exact z rfl
      · obtain ⟨_, ys, k⟩ := r.root z
        rw [hq] at k; cases k
/-- a reckoned value is kept somewhere in the group p -/
theorem Rel.hold (r : Rel K B G Z rt e σ H) (s : Same H H1) {l : List Nat} {v : S} {x : V} (h : RepS K (NZ G Z e rt l H) H H1 v x) (p : Nat) (hl : ∀ j ∈ l, G j = p) :
    ∃ Z', (∀ p a, Z p a → Z' p a) ∧ (∀ p a, Z' p a → Z p a ∨ B a) ∧ Rel K B G Z' rt (keep l v.flat e) σ H1 ∧ Rep K (Z' p) H1 v.d x := by
  have zb : ∀ (l : List Nat) (q : Nat) (a : Addr), ZN p Z e rt l H H1 (fun _ => False) q a → Z q a ∨ B a := fun l q a z => by
    rcases z with z | ⟨_, ⟨z, _⟩ | z⟩
    · exact .inl z
    · exact .inr (r.yg a z)
    · exact .inr (r.root z).1
  cases v with
  | dct t kvs => exact h.elim
  | val d =>
    have h : Rep K (NZ G Z e rt l H) H1 d x := h
    show ∃ Z', _ ∧ _ ∧ Rel K B G Z' rt (keep l d.flat e) _ H1 ∧ _
    cases f : d.flat with
    | true => exact ⟨Z, fun p a z => z, fun p a z => .inl z, r.ext s, Rep.flat (Still.refl H1) d x f h⟩
    | false =>
      refine ⟨ZN p Z e rt l H H1 (fun _ => False), fun p a z => .inl z, zb l, r.grow s p l hl _, ?_⟩
      exact Rep.imp (fun a xs n k => ⟨zn_sub hl n (fun z => z) (by rw [k]; exact nofun), k⟩) (Still.refl H1) d x h
  | own ds =>
    obtain ⟨q, xs, rfl, hq, hq1, h⟩ := h
    show ∃ Z', _ ∧ _ ∧ Rel K B G Z' rt (keep l (D.flatL ds) e) _ H1 ∧ _
    cases f : D.flatL ds with
    | false =>
      refine ⟨ZN p Z e rt l H H1 (fun _ => False), fun p a z => .inl z, zb l, r.grow s p l hl _, ?_⟩
      exact ⟨q, xs, rfl, ⟨.inr ⟨rfl, .inl ⟨hq, (by rw [hq1]; exact nofun), fun z => z⟩⟩, hq1⟩, RepL.imp (fun a ys n k => ⟨zn_sub hl n.1 (fun z => z) (by rw [k]; exact nofun), k⟩) (Still.refl H1) ds xs h⟩
    | true =>
      -- the slots in l go on owning; the new list's node is kept
      exact ⟨ZN p Z e rt [] H H1 (fun _ => False), fun p a z => .inl z, zb [], r.grow s p [] (fun j hj => nomatch hj) _, q, xs, rfl, ⟨.inr ⟨rfl, .inl ⟨hq, (by rw [hq1]; exact nofun), fun z => z⟩⟩, hq1⟩, RepL.flat (Still.refl H1) ds xs f h⟩
end
end Tg

/-! Tg, part 10: what is walked, targets, comprehensions. -/
namespace Tg
open PySem PySem.Spec PyProof.Rows L2

/-- the nodes of N, the tuples, the script stand as they stood -/
def Kp (N : Addr → Prop) (H H' : Hp) : Prop := (∀ a xs, N a → H a = some (.lst xs) → H' a = some (.lst xs)) ∧ Still H H'
theorem same_kp {N : Addr → Prop} {H H' : Hp} (s : Same H H') : Kp N H H' := ⟨fun a xs _ h => s _ _ h, Same.still s⟩
theorem Kp.refl (N : Addr → Prop) (H : Hp) : Kp N H H := same_kp (Same.refl H)
theorem Kp.trans {N : Addr → Prop} {H H1 H2 : Hp} (a : Kp N H H1) (b : Kp N H1 H2) : Kp N H H2 := ⟨fun c xs n h => b.1 c xs n (a.1 c xs n h), a.2.trans b.2⟩
theorem Rep.kp {K : PySem.W.Frag} {N : Addr → Prop} {H H' : Hp} (k : Kp N H H') {d : D} {x : V} (h : Rep K N H d x) : Rep K N H' d x := Rep.imp (fun a xs n q => ⟨n, k.1 a xs n q⟩) k.2 d x h
theorem RepL.kp {K : PySem.W.Frag} {N : Addr → Prop} {H H' : Hp} (k : Kp N H H') {d : List D} {x : List V} (h : RepL K N H d x) : RepL K N H' d x := RepL.imp (fun a xs n q => ⟨n, k.1 a xs n q⟩) k.2 d x h

/-- J walks the data ds, whose nodes are of N -/
structure ItRep (K : PySem.W.Frag) (N : Addr → Prop) (H : Hp) (ds : List D) (J : It) : Prop where
  go : ∀ i H2, Kp N H H2 → i < ds.length → J.go i H2
  yld : ∀ (i : Nat) H2 x H3 d, Kp N H H2 → ds[i]? = some d → J.yld i H2 x H3 → Same H2 H3 ∧ Rep K N H3 d x
  stop : ∀ i H2, Kp N H H2 → ds.length ≤ i → i ≤ ds.length → J.stop i H2
/-- a walk's reading -/
def tI (K : PySem.W.Frag) (W : Wi) (m : Ax) (l : List Nat) : TI := fun σ H R => ∃ (B : Addr → Prop) (Z : Nat → Addr → Prop) (rt : Nat → Addr) (e : En), Rel K B W.g Z rt e σ H ∧
  match m e with
  | .ok ds => ∀ J H', Same H H' → ItRep K (fun a => NZ W.g Z e rt l H a ∧ H' a ≠ none) H' ds J → R J H'
  | .ex d => ∀ c o H', Same H H' → (XC W.xr H d c o H' → W.w c o σ H')
  | .bad => False
abbrev SI (X : Cx) (W : Wi) (tg x : Expr) (m : Ax) (l : List Nat) : Prop := PI X tg x (tI X.K W m l)
theorem PI.imp {X : Cx} {tg x : Expr} {t t' : TI} (h : PI X tg x t) (f : ∀ σ H R, t' σ H R → t σ H R) : PI X tg x t' := ⟨fun pins s σ H R I q => h.run pins s σ H R I (f σ H R q)⟩
theorem pi_or {X : Cx} {tg x : Expr} {t t' : TI} (h : PI X tg x t) (h' : PI X tg x t') : PI X tg x (fun σ H R => t σ H R ∨ t' σ H R) := ⟨fun pins s σ H R I q => q.elim (h.run pins s σ H R I) (h'.run pins s σ H R I)⟩

section
variable {X : Cx} {W : Wi} {tg a b : Expr} {m n : Ex} {l k : List Nat} {pos : Pos}
theorem it_list {K : PySem.W.Frag} {N : Addr → Prop} {H : Hp} {ds : List D} {q : Addr} {xs : List V} (hn : N q) (hq : H q = some (.lst xs)) (r : RepL K N H ds xs) : ItRep K N H ds (Itl K q) := by
  have at_ : ∀ {H2 : Hp}, Kp N H H2 → SqL K H2 q xs := fun k => .inl (.inl (k.1 _ _ hn hq))
  refine ⟨fun i H2 k hi => ?_, fun i H2 x H3 d k hd ⟨e, y⟩ => ?_, fun i H2 k hi _ => ⟨xs, at_ k, by rw [r.length]; exact hi⟩⟩
  · have h' : i < xs.length := by rw [r.length]; exact hi
    exact ⟨xs, xs[i], at_ k, List.getElem?_eq_getElem h'⟩
  · subst e
    obtain ⟨v, h1, h2⟩ := r.get hd
    have e2 := (y xs (at_ k)).symm.trans h1
    cases e2
    exact ⟨Same.refl _, h2.kp k⟩
theorem it_tup {K : PySem.W.Frag} {N : Addr → Prop} {H : Hp} {ds : List D} {q : Addr} {xs : List V} (hq : H q = some (.tup xs)) (r : RepL K N H ds xs) : ItRep K N H ds (Itt K q) := by
  have at_ : ∀ {H2 : Hp}, Kp N H H2 → SqT K H2 q xs := fun k => sqt (k.2.rd hq)
  refine ⟨fun i H2 k hi => ?_, fun i H2 x H3 d k hd ⟨e, y⟩ => ?_, fun i H2 k hi _ => ⟨xs, at_ k, by rw [r.length]; exact hi⟩⟩
  · have h' : i < xs.length := by rw [r.length]; exact hi
    exact ⟨xs, xs[i], at_ k, List.getElem?_eq_getElem h'⟩
  · subst e
    obtain ⟨v, h1, h2⟩ := r.get hd
    have e2 := (y xs (at_ k)).symm.trans h1
    cases e2
    exact ⟨Same.refl _, h2.kp k⟩
theorem it_str {K : PySem.W.Frag} {N : Addr → Prop} {H : Hp} (s : List Nat) : ItRep K N H (s.map fun c => D.str [c]) (Its ⟨s.toArray⟩) := by
  have sz : (⟨s.toArray⟩ : Str).cps.size = s.length := by show s.toArray.size = _; simp
  refine ⟨fun i H2 _ hi => ?_, fun i H2 x H3 d _ hd ⟨e, c, hc, ex⟩ => ?_, fun i H2 _ hi => ?_⟩
  · show i < (⟨s.toArray⟩ : Str).cps.size
    rw [sz]
    simpa using hi
  · subst e ex
    have e1 : s[i]? = some c := by
      have : s.toArray[i]? = some c := hc
      simpa using this
    rw [List.getElem?_map, e1] at hd
    cases hd
    exact ⟨Same.refl _, rfl⟩
  · intro _
    show (⟨s.toArray⟩ : Str).cps.size ≤ i
    rw [sz]
    simpa using hi
theorem rangeL_len (i j : Int) : (rangeL i j).length = (j - i).toNat := by
  unfold rangeL
  rw [List.length_map, List.length_range]
theorem it_range {K : PySem.W.Frag} {N : Addr → Prop} {H : Hp} (i j : Int) : ItRep K N H (rangeL i j) (Itr i (j - i).toNat) := by
  refine ⟨fun k H2 _ hi => ?_, fun k H2 x H3 d _ hd ⟨e, ex⟩ => ?_, fun k H2 _ hi => ?_⟩
  · rw [rangeL_len] at hi
    exact hi
  · subst e ex
    unfold rangeL at hd
    rw [List.getElem?_map] at hd
    cases q : (List.range (j - i).toNat)[k]? with
    | none => rw [q] at hd; cases hd
    | some z =>
      rw [q] at hd
      have hz := List.getElem?_eq_some_iff.mp q
      obtain ⟨h1, h2⟩ := hz
      rw [List.getElem_range] at h2
      subst h2
      cases hd
      exact ⟨Same.refl _, rfl⟩
  · rw [rangeL_len] at hi
    exact fun _ => hi
/-- a list, a tuple, a text -/
def aIter (a : Ex) : Ax := fun e => (a e).bind fun s => match s.d with
  | .lst ds => .ok ds
  | .tup ds => .ok ds
  | .str cs => .ok (cs.map fun c => D.str [c])
  | _ => .bad
theorem i_seq (ha : SE X W a m l) : SI X W tg a (aIter m) l := by
  refine PI.imp (pi_or (pi_list ha) (pi_or (pi_tup ha) (pi_str ha))) fun σ H R0 ⟨B, Z, rt, e, r, q⟩ => ?_
  unfold aIter at q
  cases hm : m e with
  | bad => rw [hm] at q; exact q.elim
  | ex d =>
    rw [hm] at q
    exact .inl (tE_go r (fun d' hd => by rw [hm] at hd; cases hd; exact q) (fun hd => by rw [hm] at hd; cases hd) fun s x H1 hs => by rw [hm] at hs; cases hs)
  | ok s =>
    rw [hm, R.bind_ok] at q
    cases hd : s.d with
    | lst ds =>
      simp only [hd] at q
      refine .inl (tE_go r (fun d' hd => by rw [hm] at hd; cases hd) (fun hd => by rw [hm] at hd; cases hd) fun s' x H1 hs sm r1 rs => ?_)
      rw [hm] at hs
      cases hs
      have rd := rs.d (N := NZ W.g Z e rt l H) fun a z => .inr (.inl z)
      rw [hd] at rd
      obtain ⟨q1, xs, rfl, ⟨hn, hq⟩, rr⟩ := rd
      refine ⟨q1, rfl, ⟨xs, .inl (.inl hq)⟩, q _ H1 sm (it_list ⟨hn, by rw [hq]; exact nofun⟩ hq (RepL.imp (fun a ys n z => ⟨⟨n, by rw [z]; exact nofun⟩, z⟩) (Still.refl _) _ _ rr))⟩
    | tup ds =>
      simp only [hd] at q
      refine .inr (.inl (tE_go r (fun d' hd => by rw [hm] at hd; cases hd) (fun hd => by rw [hm] at hd; cases hd) fun s' x H1 hs sm r1 rs => ?_))
      rw [hm] at hs
      cases hs
      have rd := rs.d (N := NZ W.g Z e rt l H) fun a z => .inr (.inl z)
      rw [hd] at rd
      obtain ⟨q1, xs, rfl, hq, rr⟩ := rd
      refine ⟨q1, rfl, ⟨xs, sqt hq⟩, q _ H1 sm (it_tup hq (RepL.imp (fun a ys n z => ⟨⟨n, by rw [z]; exact nofun⟩, z⟩) (Still.refl _) _ _ rr))⟩
    | str cs =>
      simp only [hd] at q
      refine .inr (.inr (tE_go r (fun d' hd => by rw [hm] at hd; cases hd) (fun hd => by rw [hm] at hd; cases hd) fun s' x H1 hs sm r1 rs => ?_))
      rw [hm] at hs
      cases hs
      have rd := rs.d (N := NZ W.g Z e rt l H) fun a z => .inr (.inl z)
      rw [hd] at rd
      obtain rfl : x = .str ⟨cs.toArray⟩ := rd
      exact ⟨_, rfl, q _ H1 sm (it_str cs)⟩
    | non => simp only [hd] at q
    | bl _ => simp only [hd] at q
    | int _ => simp only [hd] at q
    | scr _ => simp only [hd] at q
    | exc _ _ => simp only [hd] at q
    | jnk => simp only [hd] at q
theorem int_of {K : PySem.W.Frag} {N : Addr → Prop} {H H' : Hp} {s : S} {x : V} {i : Int} (rs : RepS K N H H' s x) (h : s.d = .int i) : x = .int i := by
  cases s with
  | val d =>
    have h' : d = .int i := h
    subst h'
    exact rs
  | own ds => cases h
  | dct _ _ => cases h
theorem i_range1 {p : Pos} (hm : X.mg "range" = none) (ha : SE X W a m l) (hg : Gl X "range" := by rfl) (he : starEach [a] X.env = (false, eval a X.env) :: starEach [] X.env := by rfl) (hs : starEach [a] X.env = [(false, eval a X.env)] := by rfl) : SI X W tg (.Call (.Name "range" p) [a] [] pos) (aRange1 m) [] := by
  refine PI.imp (pi_range1 hg hm (pa_cons ha pa_nil he) hs) fun σ H R0 ⟨B, Z, rt, e, r, q⟩ => ?_
  unfold aRange1 at q
  refine tE_go r (fun d hd => by rw [hd] at q; exact q) (fun hd => by rw [hd] at q; exact q) fun s x H1 hs sm r1 rs => ?_
  rw [hs, R.bind_ok] at q
  cases hd : s.d with
  | int j =>
    simp only [hd] at q
    obtain rfl := int_of rs hd
    by_cases hb : -1000000 ≤ j ∧ j ≤ 1000000
    · rw [if_pos hb] at q
      refine ⟨j, rfl, by omega, by omega, ?_⟩
      have e2 : (j - 0).toNat = j.toNat := by rw [Int.sub_zero]
      have := q (Itr 0 (j - 0).toNat) H1 sm (it_range 0 j)
      rw [e2] at this
      exact this
    · rw [if_neg hb] at q
      exact q.elim
  | non => simp only [hd] at q
  | bl _ => simp only [hd] at q
  | str _ => simp only [hd] at q
  | tup _ => simp only [hd] at q
  | lst _ => simp only [hd] at q
  | scr _ => simp only [hd] at q
  | exc _ _ => simp only [hd] at q
  | jnk => simp only [hd] at q
theorem i_range2 {p : Pos} (hm : X.mg "range" = none) (ha : SE X W a m l) (hb : SE X W b n k) (hg : Gl X "range" := by rfl) (he : starEach [a, b] X.env = (false, eval a X.env) :: starEach [b] X.env := by rfl) (he2 : starEach [b] X.env = (false, eval b X.env) :: starEach [] X.env := by rfl)
    (hs : starEach [a, b] X.env = [(false, eval a X.env), (false, eval b X.env)] := by rfl) (hs2 : starEach [b] X.env = [(false, eval b X.env)] := by rfl) : SI X W tg (.Call (.Name "range" p) [a, b] [] pos) (aRange m n) [] := by
  refine PI.imp (pi_range2 hg hm (pa_cons ha (pa_cons hb pa_nil he2) he) hs hs2) fun σ H R0 ⟨B, Z, rt, e, r, q⟩ => ?_
  unfold aRange at q
  refine tE_go r (fun d hd => by rw [hd] at q; exact q) (fun hd => by rw [hd] at q; exact q) fun s x H1 hs sm r1 rs => ?_
  rw [hs, R.bind_ok] at q
  refine tE_go r1 (fun d hd c o H' sm' => by rw [hd] at q; exact (fun z9 => q c o H' (sm.trans sm') (z9.mo sm))) (fun hd => by rw [hd] at q; exact q) fun s2 y H2 hs2 sm2 r2 rs2 => ?_
  rw [hs2, R.bind_ok] at q
  cases hd : s.d with
  | int i =>
    cases hd2 : s2.d with
    | int j =>
      simp only [hd, hd2] at q
      obtain rfl := int_of rs hd
      obtain rfl := int_of rs2 hd2
      by_cases hb : -1000000 ≤ i ∧ i ≤ 1000000 ∧ -1000000 ≤ j ∧ j ≤ 1000000
      · rw [if_pos hb] at q
        exact ⟨i, j, rfl, ⟨by omega, by omega, by omega, by omega⟩, q _ H2 (sm.trans sm2) (it_range i j)⟩
      · rw [if_neg hb] at q
        exact q.elim
    | non => simp only [hd, hd2] at q
    | bl _ => simp only [hd, hd2] at q
    | str _ => simp only [hd, hd2] at q
    | tup _ => simp only [hd, hd2] at q
    | lst _ => simp only [hd, hd2] at q
    | scr _ => simp only [hd, hd2] at q
    | exc _ _ => simp only [hd, hd2] at q
    | jnk => simp only [hd, hd2] at q
  | non => simp only [hd] at q
  | bl _ => simp only [hd] at q
  | str _ => simp only [hd] at q
  | tup _ => simp only [hd] at q
  | lst _ => simp only [hd] at q
  | scr _ => simp only [hd] at q
  | exc _ _ => simp only [hd] at q
  | jnk => simp only [hd] at q
end

/-! ### targets -/
/-- slots but those of ts are as they were -/
def Only (ts : List Nat) (σ σ' : L2.St) : Prop := σ'.length = σ.length ∧ ∀ i, i ∉ ts → σ'[i]? = σ[i]?
theorem Only.refl (ts : List Nat) (σ : L2.St) : Only ts σ σ := ⟨rfl, fun _ _ => rfl⟩
theorem Only.trans {ts us : List Nat} {σ σ1 σ2 : L2.St} (a : Only ts σ σ1) (b : Only us σ1 σ2) : Only (ts ++ us) σ σ2 := ⟨b.1.trans a.1, fun i h => (b.2 i fun z => h (List.mem_append_right _ z)).trans (a.2 i fun z => h (List.mem_append_left _ z))⟩
theorem wipe_get {σ : L2.St} {i : Nat} : ∀ {vs : List Nat}, (L2.wipe σ vs)[i]? = if i ∈ vs then (if i < σ.length then some none else none) else σ[i]?
  | [] => by
    rw [if_neg (fun z => nomatch z)]
    rfl
  | v :: vs => by
    unfold L2.wipe
    rw [List.getElem?_set]
    by_cases h : v = i
    · subst h
      rw [if_pos rfl, if_pos List.mem_cons_self, wipe_length]
    · rw [if_neg h, wipe_get (vs := vs)]
      by_cases h2 : i ∈ vs
      · rw [if_pos h2, if_pos (List.mem_cons_of_mem _ h2)]
      · rw [if_neg h2, if_neg fun z => (List.mem_cons.mp z).elim (fun q => h q.symm) h2]
theorem Only.wipe {ts vs : List Nat} {σ σ' : L2.St} (o : Only ts (L2.wipe σ vs) σ') (h : ∀ i ∈ ts, i ∈ vs) : L2.wipe σ' vs = L2.wipe σ vs := by
  refine List.ext_getElem? fun i => ?_
  have hl : σ'.length = σ.length := o.1.trans (wipe_length σ vs)
  rw [wipe_get, wipe_get, hl]
  by_cases hi : i ∈ vs
  · rw [if_pos hi, if_pos hi]
  · rw [if_neg hi, if_neg hi, o.2 i fun z => hi (h i z), wipe_get, if_neg hi]
def tG (K : PySem.W.Frag) (G : Nat → Nat) (p : Nat) (t : Tt) (ts : List Nat) : TG := fun v σ H Q => ∃ (B : Addr → Prop) (Z : Nat → Addr → Prop) (rt : Nat → Addr) (e : En) (d : D), Rel K B G Z rt e σ H ∧ Rep K (Z p) H d v ∧
  match t d e with
  | .ok e' => ∀ σ', Rel K B G Z rt e' σ' H → Only ts σ σ' → Q σ' H
  | _ => False
def tGs (K : PySem.W.Frag) (G : Nat → Nat) (p : Nat) (t : Tts) (ts : List Nat) : TGs := fun vs σ H Q => ∃ (B : Addr → Prop) (Z : Nat → Addr → Prop) (rt : Nat → Addr) (e : En) (ds : List D), Rel K B G Z rt e σ H ∧ RepL K (Z p) H ds vs ∧
  match t ds e with
  | .ok e' => ∀ σ', Rel K B G Z rt e' σ' H → Only ts σ σ' → Q σ' H
  | _ => False
/-- an owned slot behind the target's store was one ahead of it -/
def TKeep (t : Tt) : Prop := ∀ d e e', t d e = .ok e' → ∀ (i : Nat) (ds : List D), e'[i]? = some (some (S.own ds)) → e[i]? = some (some (S.own ds))
def TsKeep (t : Tts) : Prop := ∀ d e e', t d e = .ok e' → ∀ (i : Nat) (ds : List D), e'[i]? = some (some (S.own ds)) → e[i]? = some (some (S.own ds))
theorem k_name (i : Nat) : TKeep (gName i) := fun d e e' h j ds q => by
  cases h
  by_cases hj : i = j
  · subst hj
    by_cases hl : i < e.length
    · rw [List.getElem?_set_self hl] at q; cases q
    · rw [List.getElem?_eq_none (by rw [List.length_set]; omega)] at q; cases q
  · rw [List.getElem?_set_ne hj] at q
    exact q
theorem ks_nil : TsKeep gNil := fun d e e' h j ds q => by
  cases d with
  | nil => cases h; exact q
  | cons _ _ => cases h
theorem ks_cons {t : Tt} {u : Tts} (h1 : TKeep t) (h2 : TsKeep u) : TsKeep (gCons t u) := fun d e e' h j ds q => by
  cases d with
  | nil => cases h
  | cons c cr =>
    have h : (t c e).bind (fun e' => u cr e') = .ok e' := h
    cases h3 : t c e with
    | bad => rw [h3] at h; cases h
    | ex _ => rw [h3] at h; cases h
    | ok e1 =>
      rw [h3, R.bind_ok] at h
      exact h1 c e e1 h3 j ds (h2 cr e1 e' h j ds q)
theorem k_tup {t : Tts} {n : Nat} (h : TsKeep t) : TKeep (gTup n t) := fun d e e' h' j ds q => by
  cases d <;> first | cases h' | skip
  rename_i es
  have h' : (if es.length = n then t es e else .bad) = .ok e' := h'
  by_cases hl : es.length = n
  · rw [if_pos hl] at h'
    exact h es e e' h' j ds q
  · rw [if_neg hl] at h'
    cases h'
structure SG (X : Cx) (G : Nat → Nat) (p : Nat) (tg : Expr) (t : Tt) (ts : List Nat) : Prop where
  pg : PG X tg (tG X.K G p t ts)
  kp : TKeep t
  nx : ∀ d e c, t d e ≠ .ex c
structure SGs (X : Cx) (G : Nat → Nat) (p : Nat) (tg : List Expr) (t : Tts) (ts : List Nat) : Prop where
  pg : PGs X tg (tGs X.K G p t ts)
  kp : TsKeep t
  nx : ∀ d e c, t d e ≠ .ex c
theorem PG.imp {X : Cx} {tg : Expr} {t t' : TG} (h : PG X tg t) (f : ∀ v σ H Q, t' v σ H Q → t v σ H Q) : PG X tg t' := ⟨fun pins s σ H v u Q I r q => h.run pins s σ H v u Q I r (f v σ H Q q)⟩
theorem PGs.imp {X : Cx} {tg : List Expr} {t t' : TGs} (h : PGs X tg t) (f : ∀ v σ H Q, t' v σ H Q → t v σ H Q) : PGs X tg t' := ⟨fun pins s σ H v u Q I r q => h.run pins s σ H v u Q I r (f v σ H Q q)⟩
section
variable {X : Cx} {G : Nat → Nat} {p : Nat}
theorem g_name {i : Nat} {x : Str} {pos : Pos} (hN : X.N.Nodup) (hi : X.N[i]? = some x := by rfl) (hx : Loc X.env.scope x := by first | exact Or.inl rfl | exact Or.inr rfl) (hf : X.fn x = true ∨ X.env.scope.names.lookup x = some .local := by first | exact .inl rfl | exact .inr rfl | assumption) (hp : G i = p := by rfl) :
    SG X G p (.Name x pos) (gName i) [i] := by
  subst hp
  refine ⟨PG.imp (pg_name hN hi hx hf) fun v σ H Q ⟨B, Z, rt, e, d, r, rd, q⟩ => ?_, k_name i, fun d e c h => by cases h⟩
  exact q _ (r.setVal i rd) ⟨List.length_set .., fun j hj => List.getElem?_set_ne (fun z => hj (List.mem_singleton.mpr z.symm))⟩
theorem gs_nil : SGs X G p [] gNil [] := by
  refine ⟨PGs.imp pgs_nil fun v σ H Q ⟨B, Z, rt, e, ds, r, rd, q⟩ => ?_, ks_nil, fun d e c h => by cases d <;> cases h⟩
  cases ds with
  | nil =>
    have ev : v = [] := rd
    exact ⟨ev, q σ r (Only.refl _ _)⟩
  | cons _ _ => exact q.elim
theorem gs_cons {x : Expr} {xs : List Expr} {t : Tt} {u : Tts} {ts us : List Nat} (h1 : SG X G p x t ts) (h2 : SGs X G p xs u us) (hs : (assignEach (x :: xs) X.env).map (·.2) = assign x X.env :: (assignEach xs X.env).map (·.2) := by rfl) : SGs X G p (x :: xs) (gCons t u) (ts ++ us) := by
  refine ⟨PGs.imp (pgs_cons h1.pg h2.pg hs) fun v σ H Q ⟨B, Z, rt, e, ds, r, rd, q⟩ => ?_, ks_cons h1.kp h2.kp, fun d e c h => by
    cases d with
    | nil => cases h
    | cons c1 cr =>
      have h : (t c1 e).bind (fun e' => u cr e') = .ex c := h
      cases h3 : t c1 e with
      | bad => rw [h3] at h; cases h
      | ex z => exact h1.nx c1 e z h3
      | ok e1 => rw [h3, R.bind_ok] at h; exact h2.nx cr e1 c h⟩
  · cases ds with
    | nil => exact q.elim
    | cons d dr =>
      obtain ⟨y, ys, rfl, ry, rys⟩ := rd
      refine ⟨y, ys, rfl, B, Z, rt, e, d, r, ry, ?_⟩
      have q : (match (t d e).bind fun e' => u dr e' with
        | .ok e' => ∀ σ', Rel X.K B G Z rt e' σ' H → Only (ts ++ us) σ σ' → Q σ' H
        | _ => False) := q
      cases h : t d e with
      | bad => rw [h] at q; exact q.elim
      | ex _ => rw [h] at q; exact q.elim
      | ok e1 =>
        rw [h, R.bind_ok] at q
        intro σ1 r1 o1
        refine ⟨B, Z, rt, e1, dr, r1, rys, ?_⟩
        cases h' : u dr e1 with
        | bad => rw [h'] at q; exact q.elim
        | ex _ => rw [h'] at q; exact q.elim
        | ok e2 =>
          rw [h'] at q
          exact fun σ2 r2 o2 => q σ2 r2 (o1.trans o2)
theorem g_tup {xs : List Expr} {k : Nat} {pos : Pos} {t : Tts} {ts : List Nat} {n : Nat} (hc : X.calm = true) (h : SGs X G p xs t ts) (hn : (assignEach xs X.env).length = n := by rfl) (hst : (assignEach xs X.env).findIdx? (·.1) = none := by rfl) : SG X G p (.Tuple xs k pos) (gTup n t) ts := by
  refine ⟨PG.imp (pg_tup hc h.pg hn hst) fun v σ H Q ⟨B, Z, rt, e, d, r, rd, q⟩ => ?_, k_tup h.kp, fun d e c h' => by
    cases d <;> first | cases h' | skip
    rename_i es
    have h' : (if es.length = n then t es e else .bad) = .ex c := h'
    by_cases hl : es.length = n
    · rw [if_pos hl] at h'
      exact h.nx es e c h'
    · rw [if_neg hl] at h'
      cases h'⟩
  · cases d <;> first | exact q.elim | skip
    rename_i ds
    obtain ⟨a, ys, rfl, hs, rr⟩ := rd
    have q : (match (if ds.length = n then t ds e else .bad) with
        | .ok e' => ∀ σ', Rel X.K B G Z rt e' σ' H → Only ts σ σ' → Q σ' H
        | _ => False) := q
    by_cases hl : ds.length = n
    · rw [if_pos hl] at q
      exact ⟨a, ys, rfl, sqt hs, by rw [rr.length]; exact hl, B, Z, rt, e, ds, r, rr, q⟩
    · rw [if_neg hl] at q
      exact q.elim
end

/-! ### comprehensions -/
section
variable {K : PySem.W.Frag} {e : En} {σ : L2.St} {H H1 : Hp}
theorem wipeE_own : ∀ {vs : List Nat} {i : Nat} {ds : List D}, (wipeE e vs)[i]? = some (some (S.own ds)) → e[i]? = some (some (S.own ds))
  | [], _, _, h => h
  | v :: vs, i, ds, h => by
    rw [wipeE_cons] at h
    by_cases hj : v = i
    · subst hj
      by_cases hl : v < (wipeE e vs).length
      · rw [List.getElem?_set_self hl] at h; cases h
      · rw [List.getElem?_eq_none (by rw [List.length_set]; omega)] at h; cases h
    · rw [List.getElem?_set_ne hj] at h
      exact wipeE_own h
end
abbrev W0 (G : Nat → Nat) : Wi := ⟨fun _ _ _ _ _ => True, fun _ _ _ _ => False, G, false⟩
theorem compL_cons (t : Tt) (c : Tx) (m : Ex) (e : En) (d : D) (r : List D) {ys : List D} (h : compL t c m e (d :: r) = .ok ys) :
    ∃ e', t d e = .ok e' ∧ ((c e' = .ok false ∧ compL t c m e r = .ok ys) ∨ ∃ x zs, c e' = .ok true ∧ m e' = .ok x ∧ compL t c m e r = .ok zs ∧ ys = x.d :: zs) := by
  have h : (t d e).bind (fun e' => (c e').bind fun b => match b with
    | true => (m e').bind fun x => (compL t c m e r).bind fun ys => .ok (x.d :: ys)
    | false => compL t c m e r) = .ok ys := h
  cases h1 : t d e with
  | bad => rw [h1] at h; cases h
  | ex _ => rw [h1] at h; cases h
  | ok e' =>
    rw [h1, R.bind_ok] at h
    refine ⟨e', rfl, ?_⟩
    cases h2 : c e' with
    | bad => rw [h2] at h; cases h
    | ex _ => rw [h2] at h; cases h
    | ok b =>
      rw [h2, R.bind_ok] at h
      cases b with
      | false => exact .inl ⟨rfl, h⟩
      | true =>
        have h : (m e').bind (fun x => (compL t c m e r).bind fun ys => .ok (x.d :: ys)) = .ok ys := h
        cases h3 : m e' with
        | bad => rw [h3] at h; cases h
        | ex _ => rw [h3] at h; cases h
        | ok x =>
          rw [h3, R.bind_ok] at h
          cases h4 : compL t c m e r with
          | bad => rw [h4] at h; cases h
          | ex _ => rw [h4] at h; cases h
          | ok zs =>
            rw [h4, R.bind_ok] at h
            cases h
            exact .inr ⟨x, zs, rfl, rfl, rfl, rfl⟩
section
variable {X : Cx} {W : Wi}
/-- the pure run of a comprehension is its reading -/
theorem comp_sim {it : Ax} {al l lr : List Nat} {t : Tt} {c : Tx} {m : Ex} {ts vs : List Nat} {p : Nat} (hal : ∀ j ∈ al, W.g j = p) (hr1 : ∀ j ∈ l, j ∈ lr) (hr2 : (∀ j ∈ l, W.g j ≠ p) ∨ ∀ j ∈ al, j ∈ lr) (kt : TKeep t) (hts : ∀ i ∈ ts, i ∈ vs) (σ : L2.St) (H : Hp) (Q : VK) (q : tE X.K W (eComp al vs it t c m) lr σ H Q) :
    tLc (tI X.K W it al) (tG X.K W.g p t ts) (tT X.K (W0 W.g) c) (tE X.K (W0 W.g) m l) vs σ H Q := by
  obtain ⟨B, Z, rt, e, r, q⟩ := q
  unfold eComp at q
  refine ⟨B, Z, rt, e, r, ?_⟩
  cases hit : it e with
  | bad => rw [hit] at q; exact q.elim
  | ex d => rw [hit] at q; exact q
  | ok ds =>
    rw [hit, R.bind_ok] at q
    intro J H1 sm ir D hD
    cases hc : compL t c m (wipeE (freeze al e) vs) ds with
    | bad => rw [hc] at q; exact q.elim
    | ex d => rw [hc] at q; exact q.elim
    | ok yf =>
      simp only [hc] at q
      by_cases hl : yf.length ≤ 65536
      case neg => rw [if_neg hl] at q; exact q.elim
      rw [if_pos hl] at q
      -- the block's environment
      have r1 : Rel X.K B W.g (ZN p Z e rt al H H1 fun _ => False) rt (wipeE (freeze al e) vs) (L2.wipe σ vs) H1 := (r.grow sm p al hal _).wipe vs
      have z1 : ∀ a, (NZ W.g Z e rt al H a ∧ H1 a ≠ none) → ZN p Z e rt al H H1 (fun _ => False) p a := fun a ⟨n, k⟩ => zn_sub hal n (fun z => z) k
      have zD : ∀ g, ¬ ZN p Z e rt al H H1 (fun _ => False) g D := fun g z => r1.al g D z hD
      -- the nodes of what is made
      let NE : Addr → Prop := fun a => NZ W.g Z e rt lr H a ∧ a ≠ D
      refine ⟨fun i n H2 => n = ds.length - i ∧ i ≤ ds.length ∧ Same H1 H2 ∧ ∃ acc ys rest, H2 D = some (.lst acc) ∧ RepL X.K NE H2 ys acc ∧ compL t c m (wipeE (freeze al e) vs) (ds.drop i) = .ok rest ∧ yf = ys ++ rest,
        ⟨ds.length, by simp, Nat.zero_le _, same_new hD, [], [], yf, upd_same, rfl, hc, rfl⟩, ?_⟩
      rintro i n H2 ⟨rfl, hi, sm2, acc, ys, rest, hacc, hys, hrest, hyf⟩
      have acl : acc.length ≤ 65536 := by
        rw [hys.length]
        rw [hyf, List.length_append] at hl
        omega
      by_cases hlt : i < ds.length
      · have hd : ds[i]? = some ds[i] := List.getElem?_eq_getElem hlt
        rw [List.drop_eq_getElem_cons hlt] at hrest
        obtain ⟨e', ht, hcase⟩ := compL_cons t c m _ _ _ hrest
        refine .inr ⟨ir.go i H2 (same_kp sm2) hlt, fun H' => Same H1 H' ∧ ∃ acc ys rest, H' D = some (.lst acc) ∧ RepL X.K NE H' ys acc ∧ compL t c m (wipeE (freeze al e) vs) (ds.drop (i + 1)) = .ok rest ∧ yf = ys ++ rest,
          fun H' h' => ⟨ds.length - (i + 1), by omega, rfl, hlt, h'⟩, fun x H3 hy => ?_⟩
        obtain ⟨sm3, rx⟩ := ir.yld i H2 x H3 ds[i] (same_kp sm2) hd hy
        refine ⟨B, _, rt, _, ds[i], r1.ext (sm2.trans sm3), rx.mono z1, ?_⟩
        rw [ht]
        intro σ' r' o'
        refine ⟨o'.wipe hts, B, _, rt, e', r', ?_⟩
        have back : ∀ a, Root e' rt l a → Root e rt lr a ∧ H1 a ≠ none := fun a ⟨j, hj, ⟨es, q1⟩, ea⟩ => by
          have q2 := kt _ _ _ ht j es q1
          obtain ⟨q3, _⟩ := freeze_own (wipeE_own q2)
          have q4 : Root e rt lr a := ⟨j, hr1 j hj, ⟨es, q3⟩, ea⟩
          obtain ⟨_, xs, h⟩ := r.root q4
          exact ⟨q4, by rw [sm _ _ h]; exact nofun⟩
        rcases hcase with ⟨h1, h2⟩ | ⟨y, zs, h1, h2, h3, h4⟩
        · rw [h1]
          intro H4 sm4
          rw [if_neg Bool.false_ne_true]
          have s24 := sm3.trans sm4
          exact ⟨sm2.trans s24, acc, ys, rest, s24 _ _ hacc, hys.same s24, h2, hyf⟩
        · rw [h1]
          intro H4 sm4
          rw [if_pos rfl]
          refine ⟨B, _, rt, e', r'.ext sm4, ?_⟩
          rw [h2]
          intro v H5 sm5 rv
          have s25 := (sm3.trans sm4).trans sm5
          have hD5 : H5 D = some (.lst acc) := s25 _ _ hacc
          refine ⟨acc, hD5, Nat.lt_of_le_of_lt acl (by decide), ?_, acc ++ [v], ys ++ [y.d], zs, upd_same, ?_, h3, ?_⟩
          · intro b o z
            rw [upd_ne (ne_of_none z hD)]
            exact s25 _ _ (sm2 _ _ z)
          · have st : Still H5 (upd H5 D (.lst (acc ++ [v]))) := still_lst hD5
            have up : ∀ {N : Addr → Prop} {ds : List Tg.D} {xs : List V}, (∀ a, N a → NE a) → RepL X.K N H5 ds xs → RepL X.K NE (upd H5 D (.lst (acc ++ [v]))) ds xs := fun hN h => RepL.imp (fun a xs n k => ⟨hN a n, by rw [upd_ne (hN a n).2]; exact k⟩) st _ _ h
            refine (up (fun a n => n) (hys.same s25)).append ?_
            have rvd : Rep X.K (fun a => NE a) H5 y.d v := by
              have n4 : ∀ a, NZ W.g (ZN p Z e rt al H H1 fun _ => False) e' rt l H4 a → NZ W.g Z e rt lr H a ∧ (H4 a ≠ none → a ≠ D) := fun a n => by
                rcases n with ⟨j, hj, n⟩ | n | n
                · refine ⟨?_, fun _ w => zD _ (w ▸ n)⟩
                  rcases n with n | ⟨ep, ⟨n, _⟩ | ⟨i, hi, n⟩⟩
                  · exact .inl ⟨j, hr1 j hj, n⟩
                  · exact .inr (.inl n)
                  · rcases hr2 with h | h
                    · exact absurd ep (h j hj)
                    · exact .inr (.inr ⟨i, h i hi, n⟩)
                · exact ⟨.inr (.inl ((sm.trans (sm2.trans (sm3.trans sm4))).free n)), fun k => absurd n k⟩
                · obtain ⟨n1, n2⟩ := back a n
                  exact ⟨.inr (.inr n1), fun _ w => n2 (w ▸ hD)⟩
              have hD4 : H4 D ≠ none := by rw [(sm3.trans sm4) _ _ hacc]; exact nofun
              have nd : ∀ a, NZ W.g (ZN p Z e rt al H H1 fun _ => False) e' rt l H4 a → NE a := fun a n => ⟨(n4 a n).1, fun w => by
                subst w
                exact (n4 a n).2 hD4 rfl⟩
              exact (rv.mono nd).d fun a z => ⟨.inr (.inl ((sm.trans (sm2.trans (sm3.trans sm4))).free z)), fun w => hD4 (w ▸ z)⟩
            exact up (fun a n => n) (RepL.one rvd)
          · rw [hyf, h4, List.append_assoc]
            rfl
      · have ei : i = ds.length := by omega
        refine .inl ⟨ir.stop i H2 (same_kp sm2) (by omega) (by omega), ?_⟩
        rw [ei, List.drop_length] at hrest
        cases hrest
        rw [List.append_nil] at hyf
        subst hyf
        exact q _ H2 (sm.trans sm2) ⟨D, acc, rfl, sm.free hD, hacc, hys⟩
theorem ts_nil {G : Nat → Nat} : PTs X [] (tT X.K (W0 G) tTrue) := ⟨fun pins s σ H Q I ⟨B, Z, rt, e, r, q⟩ => pts_nil.run pins s σ H Q I (q H (Same.refl H))⟩
theorem ts_one {G : Nat → Nat} {x : Expr} {c : Tx} (h : ST X (W0 G) x c) : PTs X [x] (tT X.K (W0 G) c) := pts_one h
theorem x_compG {elt tg iter : Expr} {ifs : List Expr} {scope : Scope} {own : List (Str × Nat)} {pos : Pos} {it : Ax} {al l lr : List Nat} {t : Tt} {c : Tx} {m : Ex} {ts : List Nat} {p : Nat} (hal : ∀ j ∈ al, W.g j = p) (hr1 : ∀ j ∈ l, j ∈ lr) (hr2 : (∀ j ∈ l, W.g j ≠ p) ∨ ∀ j ∈ al, j ∈ lr) (kt : TKeep t) (hc : X.calm = true) (hN : X.N.Nodup) (hi : SI X W tg iter it al) (ok : BlkOk X.N X.env.scope scope own)
    (hg : ∀ (s : Shared) (H : Hp) (C : Addr) (cl : List (Str × Addr)) (fp : List Addr), SG (X.blk s H scope (compEnvC scope cl C X.env) fp) W.g p tg t ts) (ht : ∀ (s : Shared) (H : Hp) (C : Addr) (cl : List (Str × Addr)) (fp : List Addr), PTs (X.blk s H scope (compEnvC scope cl C X.env) fp) ifs (tT X.K (W0 W.g) c))
    (he : ∀ (s : Shared) (H : Hp) (C : Addr) (cl : List (Str × Addr)) (fp : List Addr), SE (X.blk s H scope (compEnvC scope cl C X.env) fp) (W0 W.g) elt m l) (hts : ∀ i ∈ ts, i ∈ own.map (·.2) := by decide) (hs : ∀ x, foldedSetIterable iter X.env x = pure x := by intro _; rfl) :
    SE X W (.ListComp elt [⟨tg, iter, ifs, 0⟩] scope pos) (eComp al (own.map (·.2)) it t c m) lr :=
  PE.imp (pe_lc hc hN hi ok (fun s H C cl fp => (hg s H C cl fp).pg) ht he hs) fun σ H Q q => comp_sim hal hr1 hr2 kt hts σ H Q q
theorem x_comp {elt tg iter : Expr} {ifs : List Expr} {scope : Scope} {own : List (Str × Nat)} {pos : Pos} {it : Ax} {al l : List Nat} {t : Tt} {c : Tx} {m : Ex} {ts : List Nat} (p : Nat) (kt : TKeep t) (hc : X.calm = true) (hN : X.N.Nodup) (hi : SI X W tg iter it al) (ok : BlkOk X.N X.env.scope scope own)
    (hg : ∀ (s : Shared) (H : Hp) (C : Addr) (cl : List (Str × Addr)) (fp : List Addr), SG (X.blk s H scope (compEnvC scope cl C X.env) fp) W.g p tg t ts) (ht : ∀ (s : Shared) (H : Hp) (C : Addr) (cl : List (Str × Addr)) (fp : List Addr), PTs (X.blk s H scope (compEnvC scope cl C X.env) fp) ifs (tT X.K (W0 W.g) c))
    (he : ∀ (s : Shared) (H : Hp) (C : Addr) (cl : List (Str × Addr)) (fp : List Addr), SE (X.blk s H scope (compEnvC scope cl C X.env) fp) (W0 W.g) elt m l) (hal : allg W.g p al = true := by rfl) (hts : ∀ i ∈ ts, i ∈ own.map (·.2) := by decide) (hs : ∀ x, foldedSetIterable iter X.env x = pure x := by intro _; rfl) :
    SE X W (.ListComp elt [⟨tg, iter, ifs, 0⟩] scope pos) (eComp al (own.map (·.2)) it t c m) (al ++ l) :=
  x_compG (allg_of hal) (fun j hj => List.mem_append_right _ hj) (.inr fun j hj => List.mem_append_left _ hj) kt hc hN hi ok hg ht he hts hs
/-- whose things share nothing with what is walked -/
theorem x_compF {elt tg iter : Expr} {ifs : List Expr} {scope : Scope} {own : List (Str × Nat)} {pos : Pos} {it : Ax} {al l : List Nat} {t : Tt} {c : Tx} {m : Ex} {ts : List Nat} (p : Nat) (kt : TKeep t) (hc : X.calm = true) (hN : X.N.Nodup) (hi : SI X W tg iter it al) (ok : BlkOk X.N X.env.scope scope own)
    (hg : ∀ (s : Shared) (H : Hp) (C : Addr) (cl : List (Str × Addr)) (fp : List Addr), SG (X.blk s H scope (compEnvC scope cl C X.env) fp) W.g p tg t ts) (ht : ∀ (s : Shared) (H : Hp) (C : Addr) (cl : List (Str × Addr)) (fp : List Addr), PTs (X.blk s H scope (compEnvC scope cl C X.env) fp) ifs (tT X.K (W0 W.g) c))
    (he : ∀ (s : Shared) (H : Hp) (C : Addr) (cl : List (Str × Addr)) (fp : List Addr), SE (X.blk s H scope (compEnvC scope cl C X.env) fp) (W0 W.g) elt m l) (hal : allg W.g p al = true := by rfl) (hno : l.all (fun j => W.g j != p) = true := by rfl) (hts : ∀ i ∈ ts, i ∈ own.map (·.2) := by decide) (hs : ∀ x, foldedSetIterable iter X.env x = pure x := by intro _; rfl) :
    SE X W (.ListComp elt [⟨tg, iter, ifs, 0⟩] scope pos) (eComp al (own.map (·.2)) it t c m) l :=
  x_compG (allg_of hal) (fun j hj => hj) (.inl fun j hj => by simpa using List.all_eq_true.mp hno j hj) kt hc hN hi ok hg ht he hts hs
end
end Tg

/-! Tg, part 11: statements, loops, defs. -/
namespace Tg
open PySem PySem.Spec PyProof.Rows L2

/-- the state of a def's body: H0, Z0 the entry's; Zl, Hb what the loops around hold, of the groups in hg -/
def Body (K : PySem.W.Frag) (G : Nat → Nat) (H0 : Hp) (Z0 : Addr → Prop) (lk : List Nat) (Zl : Nat → Addr → Prop) (Hb : Hp) (e : En) (σ : L2.St) (H : Hp) : Prop :=
  Same H0 H ∧ Kp (fun a => ∃ p, Zl p a) Hb H ∧ ∃ (Z : Nat → Addr → Prop) (rt : Nat → Addr), (∀ p a, Zl p a → p ∈ lk ∧ Z p a) ∧ (∀ p a, Z p a → Z0 a ∨ H0 a = none) ∧ Rel K (fun a => H0 a = none) G Z rt e σ H
/-- what a statement's pure run must be for -/
def Out (K : PySem.W.Frag) (W : Wi) (H0 : Hp) (Z0 : Addr → Prop) (lk : List Nat) (Zl : Nat → Addr → Prop) (Hb : Hp) (D : Ends) : R Fl → Prop
  | .ok (.nx e') => ∀ σ' H', Body K W.g H0 Z0 lk Zl Hb e' σ' H' → D.nx σ' H'
  | .ok (.rt s) => ∀ x H', Same H0 H' → RepS K (fun a => (W.fr = false ∧ Z0 a) ∨ H0 a = none) H0 H' s x → D.rt x H'
  | .ex d => ∀ c o σ' H', Same H0 H' → (XC W.xr H0 d c o H' → W.w c o σ' H')
  | .bad => False
def tS (K : PySem.W.Frag) (W : Wi) (H0 : Hp) (Z0 : Addr → Prop) (lk : List Nat) (m : Sx) : TS := fun D σ H => ∃ (Zl : Nat → Addr → Prop) (Hb : Hp) (e : En), Body K W.g H0 Z0 lk Zl Hb e σ H ∧ Out K W H0 Z0 lk Zl Hb D (m e)
abbrev SS (X : Cx) (W : Wi) (H0 : Hp) (Z0 : Addr → Prop) (lk : List Nat) (st : Stmt) (m : Sx) : Prop := PS X st (tS X.K W H0 Z0 lk m)
abbrev SB (X : Cx) (W : Wi) (H0 : Hp) (Z0 : Addr → Prop) (lk : List Nat) (st : List Stmt) (m : Sx) : Prop := PSs X st (tS X.K W H0 Z0 lk m)

section
variable {X : Cx} {W : Wi} {H0 : Hp} {Z0 : Addr → Prop} {lk : List Nat} {a b : Expr} {m n : Ex} {l k : List Nat} {pos : Pos} {st : Stmt} {rest body orelse : List Stmt} {M N : Sx}
theorem b_nil : SB X W H0 Z0 lk [] sNop := PSs.imp pss_nil fun D σ H ⟨Zl, Hb, e, B, q⟩ => q σ H B
theorem b_cons (h1 : SS X W H0 Z0 lk st M) (h2 : SB X W H0 Z0 lk rest N) : SB X W H0 Z0 lk (st :: rest) (sSeq M N) := by
  refine PSs.imp (pss_cons h1 h2) fun D σ H ⟨Zl, Hb, e, B, q⟩ => ?_
  unfold sSeq at q
  refine ⟨Zl, Hb, e, B, ?_⟩
  cases h : M e with
  | bad => rw [h] at q; exact q.elim
  | ex d => rw [h] at q; exact q
  | ok f =>
    rw [h, R.bind_ok] at q
    cases f with
    | rt s => exact q
    | nx e' => exact fun σ' H' B' => ⟨Zl, Hb, e', B', q⟩
theorem b_one (h1 : SS X W H0 Z0 lk st M) : SB X W H0 Z0 lk [st] M := pss_one h1
theorem s_pass : SS X W H0 Z0 lk (.Pass pos) sNop := PS.imp ps_pass fun D σ H ⟨Zl, Hb, e, B, q⟩ => q σ H B
theorem s_doc {x j p} : SS X W H0 Z0 lk (.Expr (.Constant (.str x) j p) pos) sNop := PS.imp ps_doc fun D σ H ⟨Zl, Hb, e, B, q⟩ => q σ H B
/-- a statement that is not run -/
theorem s_never : SS X W H0 Z0 lk st sBad := PS.imp ps_never fun D σ H ⟨Zl, Hb, e, B, q⟩ => q.elim

/-- a body's state behind a pure expression -/
theorem Body.new {K : PySem.W.Frag} {G : Nat → Nat} {Zl : Nat → Addr → Prop} {Hb : Hp} {e : En} {σ : L2.St} {H H' : Hp} {Z : Nat → Addr → Prop} {rt : Nat → Addr} (s0 : Same H0 H) (kp : Kp (fun a => ∃ p, Zl p a) Hb H) (sm : Same H H') (h1 : ∀ p a, Zl p a → p ∈ lk ∧ Z p a) (h2 : ∀ p a, Z p a → Z0 a ∨ H0 a = none)
    (r : Rel K (fun a => H0 a = none) G Z rt e σ H') : Body K G H0 Z0 lk Zl Hb e σ H' := ⟨s0.trans sm, kp.trans (same_kp sm), Z, rt, h1, h2, r⟩
theorem up1 {Zl : Nat → Addr → Prop} {Z Z' : Nat → Addr → Prop} (h1 : ∀ p a, Zl p a → p ∈ lk ∧ Z p a) (z1 : ∀ p a, Z p a → Z' p a) : ∀ p a, Zl p a → p ∈ lk ∧ Z' p a := fun p a z => ⟨(h1 p a z).1, z1 p a (h1 p a z).2⟩
theorem up2 {Z Z' : Nat → Addr → Prop} (h2 : ∀ p a, Z p a → Z0 a ∨ H0 a = none) (z2 : ∀ p a, Z' p a → Z p a ∨ H0 a = none) : ∀ p a, Z' p a → Z0 a ∨ H0 a = none := fun p a z => (z2 p a z).elim (h2 p a) .inr
/-- x = e -/
theorem set_sim {i : Nat} (hl : ∀ j ∈ l, W.g j = W.g i) (D : Ends) (σ : L2.St) (H : Hp) (q : tS X.K W H0 Z0 lk (sSet l i m) D σ H) : tAsg (tE X.K W m l) (L2.gName i) D σ H := by
  obtain ⟨Zl, Hb, e, ⟨s0, kp, Z, rt, h1, h2, r⟩, q⟩ := q
  unfold sSet at q
  refine tE_go r (fun d hd c o H' sm => by rw [hd] at q; exact (fun z9 => q c o σ H' (s0.trans sm) (z9.mo s0))) (fun hd => by rw [hd] at q; exact q) fun s x H1 hs sm r1 rs => ?_
  rw [hs, R.bind_ok] at q
  obtain ⟨Z', rt', z1, z2, r'⟩ := r.put sm rs i hl
  exact q _ H1 (.new s0 kp sm (up1 h1 z1) (up2 h2 z2) r')
theorem s_set (i : Nat) {x : Str} {p : Pos} (hN : X.N.Nodup) (he : SE X W a m l) (hi : X.N[i]? = some x := by rfl) (hx : Loc X.env.scope x := by first | exact Or.inl rfl | exact Or.inr rfl) (hs : swapsWith a (some (.Name x p)) pos.line X.env = pure false := by rfl) (hf : X.fn x = true ∨ X.env.scope.names.lookup x = some .local := by first | exact .inl rfl | exact .inr rfl | assumption) (hl : allg W.g (W.g i) l = true := by rfl) :
    SS X W H0 Z0 lk (.Assign [.Name x p] a pos) (sSet l i m) := PS.imp (ps_set hN hi hx he hs hf) (set_sim (allg_of hl))
/-- x = [..] -/
theorem s_setLcG (i : Nat) {y : Str} {py : Pos} {elt tg iter : Expr} {ifs : List Expr} {scope : Scope} {own : List (Str × Nat)} {pos spos : Pos} {it : Ax} {al l lr : List Nat} {t : Tt} {c : Tx} {m : Ex} {ts : List Nat} {pg : Nat} (hal : ∀ j ∈ al, W.g j = pg) (hr1 : ∀ j ∈ l, j ∈ lr) (hr2 : (∀ j ∈ l, W.g j ≠ pg) ∨ ∀ j ∈ al, j ∈ lr) (hl : ∀ j ∈ lr, W.g j = W.g i) (kt : TKeep t) (hc : X.calm = true) (hN : X.N.Nodup) (hi : SI X W tg iter it al) (ok : BlkOk X.N X.env.scope scope own)
    (hg : ∀ (s : Shared) (H : Hp) (C : Addr) (cl : List (Str × Addr)) (fp : List Addr), SG (X.blk s H scope (compEnvC scope cl C X.env) fp) W.g pg tg t ts) (ht : ∀ (s : Shared) (H : Hp) (C : Addr) (cl : List (Str × Addr)) (fp : List Addr), PTs (X.blk s H scope (compEnvC scope cl C X.env) fp) ifs (tT X.K (W0 W.g) c))
    (he : ∀ (s : Shared) (H : Hp) (C : Addr) (cl : List (Str × Addr)) (fp : List Addr), SE (X.blk s H scope (compEnvC scope cl C X.env) fp) (W0 W.g) elt m l) (hsw : swapsWith (.ListComp elt [⟨tg, iter, ifs, 0⟩] scope pos) (some (.Name y py)) spos.line X.env = pure true) (hts : ∀ i ∈ ts, i ∈ own.map (·.2) := by decide)
    (hy : X.N[i]? = some y := by rfl) (hyl : X.env.scope.names.lookup y = some .local := by rfl) (hs : ∀ x, foldedSetIterable iter X.env x = pure x := by intro _; rfl) :
    SS X W H0 Z0 lk (.Assign [.Name y py] (.ListComp elt [⟨tg, iter, ifs, 0⟩] scope pos) spos) (sSet lr i (eComp al (own.map (·.2)) it t c m)) :=
  PS.imp (ps_setLc hc hN hy hyl hsw hi ok (fun s H C cl fp => (hg s H C cl fp).pg) ht he hs) fun D σ H q => comp_sim hal hr1 hr2 kt hts σ H _ (set_sim hl D σ H q)
theorem s_setLc (i : Nat) {y : Str} {py : Pos} {elt tg iter : Expr} {ifs : List Expr} {scope : Scope} {own : List (Str × Nat)} {pos spos : Pos} {it : Ax} {al l : List Nat} {t : Tt} {c : Tx} {m : Ex} {ts : List Nat} (pg : Nat) (kt : TKeep t) (hc : X.calm = true) (hN : X.N.Nodup) (hi : SI X W tg iter it al) (ok : BlkOk X.N X.env.scope scope own)
    (hg : ∀ (s : Shared) (H : Hp) (C : Addr) (cl : List (Str × Addr)) (fp : List Addr), SG (X.blk s H scope (compEnvC scope cl C X.env) fp) W.g pg tg t ts) (ht : ∀ (s : Shared) (H : Hp) (C : Addr) (cl : List (Str × Addr)) (fp : List Addr), PTs (X.blk s H scope (compEnvC scope cl C X.env) fp) ifs (tT X.K (W0 W.g) c))
    (he : ∀ (s : Shared) (H : Hp) (C : Addr) (cl : List (Str × Addr)) (fp : List Addr), SE (X.blk s H scope (compEnvC scope cl C X.env) fp) (W0 W.g) elt m l) (hsw : swapsWith (.ListComp elt [⟨tg, iter, ifs, 0⟩] scope pos) (some (.Name y py)) spos.line X.env = pure true) (hal : allg W.g pg al = true := by rfl) (hl : allg W.g (W.g i) (al ++ l) = true := by rfl) (hts : ∀ i ∈ ts, i ∈ own.map (·.2) := by decide)
    (hy : X.N[i]? = some y := by rfl) (hyl : X.env.scope.names.lookup y = some .local := by rfl) (hs : ∀ x, foldedSetIterable iter X.env x = pure x := by intro _; rfl) :
    SS X W H0 Z0 lk (.Assign [.Name y py] (.ListComp elt [⟨tg, iter, ifs, 0⟩] scope pos) spos) (sSet (al ++ l) i (eComp al (own.map (·.2)) it t c m)) :=
  s_setLcG i (allg_of hal) (fun j hj => List.mem_append_right _ hj) (.inr fun j hj => List.mem_append_left _ hj) (allg_of hl) kt hc hN hi ok hg ht he hsw hts hy hyl hs
theorem s_setLcF (i : Nat) {y : Str} {py : Pos} {elt tg iter : Expr} {ifs : List Expr} {scope : Scope} {own : List (Str × Nat)} {pos spos : Pos} {it : Ax} {al l : List Nat} {t : Tt} {c : Tx} {m : Ex} {ts : List Nat} (pg : Nat) (kt : TKeep t) (hc : X.calm = true) (hN : X.N.Nodup) (hi : SI X W tg iter it al) (ok : BlkOk X.N X.env.scope scope own)
    (hg : ∀ (s : Shared) (H : Hp) (C : Addr) (cl : List (Str × Addr)) (fp : List Addr), SG (X.blk s H scope (compEnvC scope cl C X.env) fp) W.g pg tg t ts) (ht : ∀ (s : Shared) (H : Hp) (C : Addr) (cl : List (Str × Addr)) (fp : List Addr), PTs (X.blk s H scope (compEnvC scope cl C X.env) fp) ifs (tT X.K (W0 W.g) c))
    (he : ∀ (s : Shared) (H : Hp) (C : Addr) (cl : List (Str × Addr)) (fp : List Addr), SE (X.blk s H scope (compEnvC scope cl C X.env) fp) (W0 W.g) elt m l) (hsw : swapsWith (.ListComp elt [⟨tg, iter, ifs, 0⟩] scope pos) (some (.Name y py)) spos.line X.env = pure true) (hal : allg W.g pg al = true := by rfl) (hno : l.all (fun j => W.g j != pg) = true := by rfl) (hl : allg W.g (W.g i) l = true := by rfl) (hts : ∀ i ∈ ts, i ∈ own.map (·.2) := by decide)
    (hy : X.N[i]? = some y := by rfl) (hyl : X.env.scope.names.lookup y = some .local := by rfl) (hs : ∀ x, foldedSetIterable iter X.env x = pure x := by intro _; rfl) :
    SS X W H0 Z0 lk (.Assign [.Name y py] (.ListComp elt [⟨tg, iter, ifs, 0⟩] scope pos) spos) (sSet l i (eComp al (own.map (·.2)) it t c m)) :=
  s_setLcG i (allg_of hal) (fun j hj => hj) (.inl fun j hj => by simpa using List.all_eq_true.mp hno j hj) (allg_of hl) kt hc hN hi ok hg ht he hsw hts hy hyl hs
/-- x = y -/
theorem s_move (i j : Nat) {x y : Str} {p p2 : Pos} (hN : X.N.Nodup) (hi : X.N[i]? = some x := by rfl) (hj : X.N[j]? = some y := by rfl) (hx : Loc X.env.scope x := by first | exact Or.inl rfl | exact Or.inr rfl) (hv : Vis X.env.scope y := by first | exact Or.inl rfl | exact Or.inr (Or.inl rfl) | exact Or.inr (Or.inr rfl))
    (hs : swapsWith (.Name y p2) (some (.Name x p)) pos.line X.env = pure false := by rfl) (hd : (y == ("__debug__" : Str)) = false := by decide) (hcd : (y == ("__classdict__" : Str)) = false := by decide) (hf : X.fn x = true ∨ X.env.scope.names.lookup x = some .local := by first | exact .inl rfl | exact .inr rfl | assumption) (hne : j ≠ i := by decide) (hgg : W.g j = W.g i := by rfl) :
    SS X W H0 Z0 lk (.Assign [.Name x p] (.Name y p2) pos) (sMove i j) := by
  refine PS.imp (ps_set hN hi hx (pe_var hj hv hd hcd) hs hf) fun D σ H ⟨Zl, Hb, e, ⟨s0, kp, Z, rt, h1, h2, r⟩, q⟩ => ?_
  unfold sMove at q
  cases ho : e[j]? with
  | none => rw [ho] at q; exact q.elim
  | some o =>
    cases o with
    | none => rw [ho] at q; exact q.elim
    | some s =>
      rw [ho] at q
      cases s with
      | val d =>
        obtain ⟨v, k1, k2⟩ := r.val j d ho
        exact ⟨v, k1, q _ H ⟨s0, kp, Z, rt, h1, h2, r.setVal i (by rw [← hgg]; exact k2)⟩⟩
      | dct t kvs => exact q.elim
      | own ds =>
        obtain ⟨k1, k2, k3, xs, k4, k5⟩ := r.own j ds ho
        have rn := (r.setNone j σ[j]?.join).setOwn i k2 k3 k4 (by rw [← hgg]; exact k5) (fun g u hg he hu hr => by
          rcases set_get he with ⟨_, z, _⟩ | ⟨hgj, he⟩
          · cases z
          · exact hgj (r.injs g j u _ he ho hu trivial hr))
        have es : σ.set j σ[j]?.join = σ := by
          refine List.ext_getElem? fun g => ?_
          rw [List.getElem?_set]
          by_cases hg : j = g
          · subst hg
            rw [if_pos rfl, k1]
            have hl : j < σ.length := (List.getElem?_eq_some_iff.mp k1).1
            rw [if_pos hl]
            rfl
          · rw [if_neg hg]
        rw [es] at rn
        exact ⟨_, k1, q _ H ⟨s0, kp, Z, _, h1, h2, rn⟩⟩
/-- a, b = e -/
theorem s_asg {tg : Expr} {t : Tt} {ts : List Nat} (pg : Nat) (he : SE X W a m l) (hg : SG X W.g pg tg t ts) (hs : swapsWithSole [tg] a pos.line X.env = pure false := by rfl) (hw : swappedStores [tg] a X.env = pure none := by rfl) (h1 : (assignEach [tg] X.env).map (·.2) = [assign tg X.env] := by rfl) (hl : allg W.g pg l = true := by rfl) :
    SS X W H0 Z0 lk (.Assign [tg] a pos) (sAsg l t m) := by
  refine PS.imp (ps_asg he hg.pg hs hw h1) fun D σ H ⟨Zl, Hb, e, ⟨s0, kp, Z, rt, h1, h2, r⟩, q⟩ => ?_
  unfold sAsg at q
  refine tE_go r (fun d hd c o H' sm => by rw [hd] at q; exact (fun z9 => q c o σ H' (s0.trans sm) (z9.mo s0))) (fun hd => by rw [hd] at q; exact q) fun s x H1 hs sm r1 rs => ?_
  rw [hs, R.bind_ok] at q
  obtain ⟨Z', z1, z2, r', rx⟩ := r.hold sm rs pg (allg_of hl)
  refine ⟨_, Z', rt, _, s.d, r', rx, ?_⟩
  cases h : t s.d (keep l s.flat e) with
  | bad => rw [h] at q; exact q.elim
  | ex d => exact (hg.nx _ _ d h).elim
  | ok e' =>
    rw [h, R.bind_ok] at q
    exact fun σ' r2 _ => q σ' H1 (.new s0 kp sm (up1 h1 z1) (up2 h2 z2) r2)
theorem s_drop (he : SE X W a m l) (hs : swapsWith a none pos.line X.env = pure false := by rfl) : SS X W H0 Z0 lk (.Expr a pos) (sDrop m) := by
  refine PS.imp (ps_expr he hs) fun D σ H ⟨Zl, Hb, e, ⟨s0, kp, Z, rt, h1, h2, r⟩, q⟩ => ?_
  unfold sDrop at q
  refine tE_go r (fun d hd c o H' sm => by rw [hd] at q; exact (fun z9 => q c o σ H' (s0.trans sm) (z9.mo s0))) (fun hd => by rw [hd] at q; exact q) fun s x H1 hs sm r1 rs => ?_
  rw [hs, R.bind_ok] at q
  exact q σ H1 (.new s0 kp sm h1 h2 r1)
theorem s_ret (he : SE X W a m l) (hfr : W.fr = false ∨ l.all (fun j => W.g j != 0) = true := by first | exact .inl rfl | exact .inr rfl) : SS X W H0 Z0 lk (.Return (some a) pos) (sRet m) := by
  refine PS.imp (ps_ret he) fun D σ H ⟨Zl, Hb, e, ⟨s0, kp, Z, rt, h1, h2, r⟩, q⟩ => ?_
  unfold sRet at q
  refine tE_go r (fun d hd c o H' sm => by rw [hd] at q; exact (fun z9 => q c o σ H' (s0.trans sm) (z9.mo s0))) (fun hd => by rw [hd] at q; exact q) fun s x H1 hs sm r1 rs => ?_
  rw [hs, R.bind_ok] at q
  refine q x H1 (s0.trans sm) ((rs.back s0).mono fun a n => ?_)
  rcases n with ⟨j, hj, n⟩ | n | n
  · rcases hfr with hfr | hfr
    · exact (h2 _ a n).imp (fun z => ⟨hfr, z⟩) id
    · exact .inr (r.nw _ a (by simpa using List.all_eq_true.mp hfr j hj) n)
  · exact .inr (s0.free n)
  · exact .inr (r.root n).1
theorem s_retN : SS X W H0 Z0 lk (.Return none pos) sRetN := PS.imp ps_retN fun D σ H ⟨Zl, Hb, e, ⟨s0, kp, Z, rt, h1, h2, r⟩, q⟩ => q .non H s0 rfl
theorem s_retV (i : Nat) {x : Str} {p : Pos} (hN : X.N[i]? = some x := by rfl) (hv : Vis X.env.scope x := by first | exact Or.inl rfl | exact Or.inr (Or.inl rfl) | exact Or.inr (Or.inr rfl)) (hd : (x == ("__debug__" : Str)) = false := by decide) (hcd : (x == ("__classdict__" : Str)) = false := by decide) (hfr : W.fr = false ∨ (W.g i != 0) = true := by first | exact .inl rfl | exact .inr rfl) :
    SS X W H0 Z0 lk (.Return (some (.Name x p)) pos) (sRetV i) := by
  refine PS.imp (ps_ret (pe_var hN hv hd hcd)) fun D σ H ⟨Zl, Hb, e, ⟨s0, kp, Z, rt, h1, h2, r⟩, q⟩ => ?_
  unfold sRetV at q
  have up : ∀ a, Z (W.g i) a → (W.fr = false ∧ Z0 a) ∨ H0 a = none := fun a n => by
    rcases hfr with hfr | hfr
    · exact (h2 _ a n).imp (fun z => ⟨hfr, z⟩) id
    · exact .inr (r.nw _ a (by simpa using hfr) n)
  cases ho : e[i]? with
  | none => rw [ho] at q; exact q.elim
  | some o =>
    cases o with
    | none => rw [ho] at q; exact q.elim
    | some s =>
      rw [ho] at q
      cases s with
      | val d =>
        obtain ⟨v, k1, k2⟩ := r.val i d ho
        exact ⟨v, k1, q v H s0 (k2.mono up)⟩
      | own ds =>
        obtain ⟨k1, k2, k3, xs, k4, k5⟩ := r.own i ds ho
        exact ⟨_, k1, q _ H s0 ⟨_, xs, rfl, k2, k4, k5.mono fun a z => ⟨up a z, fun w => k3 _ (w ▸ z)⟩⟩⟩
      | dct t kvs => exact q.elim
theorem s_if {c : Expr} {t : Tx} (hc : ST X W c t) (ha : SB X W H0 Z0 lk body M) (hb : SB X W H0 Z0 lk orelse N) : SS X W H0 Z0 lk (.If c body orelse pos) (sIf t M N) := by
  refine PS.imp (ps_if hc ha hb) fun D σ H ⟨Zl, Hb, e, ⟨s0, kp, Z, rt, h1, h2, r⟩, q⟩ => ?_
  unfold sIf at q
  refine tT_go r (fun d hd c o H' sm => by rw [hd] at q; exact (fun z9 => q c o σ H' (s0.trans sm) (z9.mo s0))) (fun hd => by rw [hd] at q; exact q) fun c H1 hs sm r1 => ?_
  rw [hs, R.bind_ok] at q
  have B := Body.new s0 kp sm h1 h2 r1
  cases c with
  | true => exact ⟨Zl, Hb, e, B, q⟩
  | false => exact ⟨Zl, Hb, e, B, q⟩

/-! loops -/
theorem s_while {c : Expr} {t : Tx} (n : Nat) (hp : PassesOwn (model X.prog X.w) X.A X.env X.xe) (hc : ST X W c t) (hb : SB X W H0 Z0 lk body M) : SS X W H0 Z0 lk (.While c body [] pos) (sWhile n t M) := by
  refine PS.imp (ps_while hp hc hb) fun D σ H ⟨Zl, Hb, e, B, q⟩ => ?_
  refine ⟨fun k σ H => ∃ e, Body X.K W.g H0 Z0 lk Zl Hb e σ H ∧ Out X.K W H0 Z0 lk Zl Hb D (whileL t M k e), ⟨n, e, B, q⟩, ?_⟩
  rintro k σ1 H1 ⟨e1, ⟨s0, kp, Z, rt, h1, h2, r⟩, q1⟩
  cases k with
  | zero => exact q1.elim
  | succ k =>
    have q1 : Out X.K W H0 Z0 lk Zl Hb D ((t e1).bind fun b => match b with
      | true => (M e1).bind fun f => match f with
        | .nx e2 => whileL t M k e2
        | .rt s => .ok (.rt s)
      | false => .ok (.nx e1)) := q1
    refine tT_go r (fun d hd c o H' sm => by rw [hd] at q1; exact (fun z9 => q1 c o σ1 H' (s0.trans sm) (z9.mo s0))) (fun hd => by rw [hd] at q1; exact q1) fun b H2 hs sm r1 => ?_
    rw [hs, R.bind_ok] at q1
    have B2 := Body.new (Z0 := Z0) s0 kp sm h1 h2 r1
    cases b with
    | false =>
      rw [if_neg Bool.false_ne_true]
      exact q1 σ1 H2 B2
    | true =>
      rw [if_pos rfl]
      refine ⟨fun σ H => ∃ e, Body X.K W.g H0 Z0 lk Zl Hb e σ H ∧ Out X.K W H0 Z0 lk Zl Hb D (whileL t M k e), fun σ' H' h' => ⟨k, Nat.lt_succ_self k, h'⟩, Zl, Hb, e1, B2, ?_⟩
      have q1 : Out X.K W H0 Z0 lk Zl Hb D ((M e1).bind fun f => match f with
        | .nx e2 => whileL t M k e2
        | .rt s => .ok (.rt s)) := q1
      cases hm : M e1 with
      | bad => rw [hm] at q1; exact q1.elim
      | ex d => rw [hm] at q1; exact q1
      | ok f =>
        rw [hm, R.bind_ok] at q1
        cases f with
        | rt s => exact q1
        | nx e2 => exact fun σ' H' B' => ⟨e2, B', q1⟩
theorem s_for {tg iter : Expr} {it : Ax} {al : List Nat} {t : Tt} {ts : List Nat} (pg : Nat) (hp : PassesOwn (model X.prog X.w) X.A X.env X.xe) (hc : X.calm = true) (hi : SI X W tg iter it al) (hg : SG X W.g pg tg t ts) (hb : SB X W H0 Z0 (pg :: lk) body M) (hs : ∀ x, foldedSetIterable iter X.env x = pure x := by intro _; rfl) (hal : allg W.g pg al = true := by rfl) :
    SS X W H0 Z0 lk (.For tg iter body [] pos) (sFor al it t M) := by
  refine PS.imp (ps_for hp hc hi hg.pg hb hs) fun D σ H ⟨Zl, Hb, e, ⟨s0, kp, Z, rt, h1, h2, r⟩, q⟩ => ?_
  have hal := allg_of hal
  unfold sFor at q
  refine ⟨_, Z, rt, e, r, ?_⟩
  cases hit : it e with
  | bad => rw [hit] at q; exact q.elim
  | ex d => rw [hit] at q; exact fun c o H' sm => (fun z9 => q c o σ H' (s0.trans sm) (z9.mo s0))
  | ok ds =>
    rw [hit, R.bind_ok] at q
    intro J H1 sm ir
    -- what is walked is held from here on
    let ZG : Nat → Addr → Prop := ZN pg Z e rt al H H1 fun _ => False
    let Zn : Nat → Addr → Prop := fun p a => Zl p a ∨ (p = pg ∧ ZG pg a)
    have r1 : Rel X.K (fun a => H0 a = none) W.g ZG rt (freeze al e) σ H1 := r.grow sm pg al hal _
    have zn : ∀ p a, ZG p a → Z0 a ∨ H0 a = none := fun p a z => by
      rcases z with z | ⟨_, ⟨z, _⟩ | z⟩
      · exact h2 p a z
      · exact .inr (s0.free z)
      · exact .inr (r.root z).1
    have zh : ∀ p a, Zn p a → p ∈ pg :: lk ∧ ZG p a := fun p a z => by
      rcases z with z | ⟨rfl, z⟩
      · exact ⟨List.mem_cons_of_mem _ (h1 p a z).1, .inl (h1 p a z).2⟩
      · exact ⟨List.mem_cons_self, z⟩
    have z1 : ∀ a, (NZ W.g Z e rt al H a ∧ H1 a ≠ none) → ZG pg a := fun a ⟨n, k⟩ => zn_sub hal n (fun z => z) k
    have kpn : ∀ {H2 : Hp}, Kp (fun a => ∃ p, Zn p a) H1 H2 → Kp (fun a => NZ W.g Z e rt al H a ∧ H1 a ≠ none) H1 H2 := fun k => ⟨fun a xs n h => k.1 a xs ⟨pg, .inr ⟨rfl, z1 a n⟩⟩ h, k.2⟩
    have kpl : ∀ {H2 : Hp}, Kp (fun a => ∃ p, Zn p a) H1 H2 → Kp (fun a => ∃ p, Zl p a) Hb H2 := fun k => kp.trans ((same_kp sm).trans ⟨fun a xs ⟨p, z⟩ h => k.1 a xs ⟨p, .inl z⟩ h, k.2⟩)
    -- behind the loop what was held ahead of it is held
    have weak : ∀ {e' : En} {σ' : L2.St} {H' : Hp}, Body X.K W.g H0 Z0 (pg :: lk) Zn H1 e' σ' H' → Body X.K W.g H0 Z0 lk Zl Hb e' σ' H' := fun ⟨a1, a2, Z', rt', a3, a4, a5⟩ => ⟨a1, kpl a2, Z', rt', fun p a z => ⟨(h1 p a z).1, (a3 p a (.inl z)).2⟩, a4, a5⟩
    refine ⟨fun i k σ H => k = ds.length - i ∧ i ≤ ds.length ∧ ∃ e, Body X.K W.g H0 Z0 (pg :: lk) Zn H1 e σ H ∧ Out X.K W H0 Z0 lk Zl Hb D (forL t M (ds.drop i) e), ⟨ds.length, by simp, Nat.zero_le _, _, ⟨s0.trans sm, Kp.refl _ _, ZG, rt, zh, zn, r1⟩, q⟩, ?_⟩
    rintro i k σ2 H2 ⟨rfl, hil, e2, ⟨a1, a2, Z', rt', a3, a4, a5⟩, q2⟩
    by_cases hlt : i < ds.length
    · have hd : ds[i]? = some ds[i] := List.getElem?_eq_getElem hlt
      rw [List.drop_eq_getElem_cons hlt] at q2
      have q2 : Out X.K W H0 Z0 lk Zl Hb D ((t ds[i] e2).bind fun e' => (M e').bind fun f => match f with
        | .nx e3 => forL t M (ds.drop (i + 1)) e3
        | .rt s => .ok (.rt s)) := q2
      refine .inr ⟨ir.go i H2 (kpn a2) hlt, fun σ H => ∃ e, Body X.K W.g H0 Z0 (pg :: lk) Zn H1 e σ H ∧ Out X.K W H0 Z0 lk Zl Hb D (forL t M (ds.drop (i + 1)) e), fun σ' H' h' => ⟨ds.length - (i + 1), by omega, rfl, hlt, h'⟩, fun x H3 hy => ?_⟩
      obtain ⟨sm3, rx⟩ := ir.yld i H2 x H3 ds[i] (kpn a2) hd hy
      refine ⟨_, Z', rt', e2, ds[i], a5.ext sm3, rx.mono fun a z => (a3 pg a (.inr ⟨rfl, z1 a z⟩)).2, ?_⟩
      cases ht : t ds[i] e2 with
      | bad => rw [ht] at q2; exact q2.elim
      | ex d => exact (hg.nx ds[i] e2 d ht).elim
      | ok e3 =>
        rw [ht, R.bind_ok] at q2
        intro σ3 r3 _
        have B3 : Body X.K W.g H0 Z0 (pg :: lk) Zn H1 e3 σ3 H3 := ⟨a1.trans sm3, a2.trans (same_kp sm3), Z', rt', a3, a4, r3⟩
        refine ⟨Zn, H1, e3, B3, ?_⟩
        cases hm : M e3 with
        | bad => rw [hm] at q2; exact q2.elim
        | ex d => rw [hm] at q2; exact q2
        | ok f =>
          rw [hm, R.bind_ok] at q2
          cases f with
          | rt s => exact q2
          | nx e4 => exact fun σ' H' B' => ⟨e4, B', q2⟩
    · have ei : i = ds.length := by omega
      refine .inl ⟨ir.stop i H2 (kpn a2) (by omega) (by omega), ?_⟩
      rw [ei, List.drop_length] at q2
      exact q2 σ2 H2 (weak ⟨a1, a2, Z', rt', a3, a4, a5⟩)
end
end Tg

/-! Tg, part 12: changes of owned lists, methods, further walks, calls, defs. -/
namespace Tg
open PySem PySem.Spec PyProof.Rows L2

section
variable {X : Cx} {W : Wi} {H0 : Hp} {Z0 : Addr → Prop} {lk : List Nat} {a b : Expr} {m n : Ex} {l k : List Nat} {pos : Pos}
/-- a method that changes a list: by values and by data -/
def MtOk (r : V → List V → Hp → VK → Prop) (f : List D → D → R (List D)) : Prop := ∀ (K : PySem.W.Frag) (N : Addr → Prop) (H : Hp) (q : Addr) (xs : List V) (ds ds' : List D) (d : D) (y : V) (Q : VK), H q = some (.lst xs) → RepL K N H ds xs → Rep K N H d y → ¬ N q → f ds d = .ok ds' →
  (∀ xs', RepL K N H ds' xs' → Q .non (upd H q (.lst xs'))) → r (.ref q) [y] H Q
theorem mo_append : MtOk rAppend fAppend := by
  intro K N H q xs ds ds' d y Q hq r rd _ hf k
  unfold fAppend at hf
  split at hf
  · rename_i hl
    cases hf
    exact ⟨q, xs, y, rfl, rfl, hq, by rw [r.length]; exact Nat.lt_of_le_of_lt hl (by decide), k _ (r.append (RepL.one rd))⟩
  · cases hf
theorem mo_extend : MtOk rExtend fExtend := by
  intro K N H q xs ds ds' d y Q hq r rd nq hf k
  cases d <;> first | cases hf | skip
  rename_i es
  obtain ⟨b, zs, rfl, s2, r2⟩ := rd
  have hf : (if ds.length + es.length ≤ LIM then R.ok (ds ++ es) else .bad) = .ok ds' := hf
  split at hf
  · rename_i hl
    cases hf
    exact ⟨q, b, xs, zs, rfl, rfl, hq, s2.2, by rw [r.length, r2.length]; exact lim_line hl, k _ (r.append r2)⟩
  · cases hf
/-- behind a write of what stands at a slot's root -/
theorem Body.wrR {K : PySem.W.Frag} {G : Nat → Nat} {Zl : Nat → Addr → Prop} {Hb : Hp} {e : En} {σ : L2.St} {H H1 : Hp} {Z : Nat → Addr → Prop} {rt : Nat → Addr} {i : Nat} {s u : S} {o : HO} (s0 : Same H0 H) (kp : Kp (fun a => ∃ p, Zl p a) Hb H) (sm : Same H H1) (h1 : ∀ p a, Zl p a → p ∈ lk ∧ Z p a) (h2 : ∀ p a, Z p a → Z0 a ∨ H0 a = none)
    (r : Rel K (fun a => H0 a = none) G Z rt e σ H1) (hi : e[i]? = some (some s)) (hs : s.rooted) (st : Still H1 (upd H1 (rt i) o)) (rr : Rel K (fun a => H0 a = none) G Z rt (e.set i (some u)) σ (upd H1 (rt i) o)) : Body K G H0 Z0 lk Zl Hb (e.set i (some u)) σ (upd H1 (rt i) o) := by
  obtain ⟨j1, j3, j2⟩ := r.live hi hs
  refine ⟨fun b u z => ?_, ?_, Z, rt, h1, h2, rr⟩
  · have nb : b ≠ rt i := fun w => by
      subst w
      have j2' : H0 (rt i) = none := j2
      rw [j2'] at z
      cases z
    rw [upd_ne nb]
    exact (s0.trans sm) _ _ z
  · refine (kp.trans (same_kp sm)).trans ⟨fun a zs ⟨p, z⟩ w => ?_, st⟩
    rw [upd_ne (fun y => j3 p (by rw [← y]; exact (h1 p a z).2))]
    exact w
/-- behind a write of an owned list -/
theorem Body.wr {K : PySem.W.Frag} {G : Nat → Nat} {Zl : Nat → Addr → Prop} {Hb : Hp} {e : En} {σ : L2.St} {H H1 : Hp} {Z : Nat → Addr → Prop} {rt : Nat → Addr} {i : Nat} {ds ds' : List D} {xs' : List V} (s0 : Same H0 H) (kp : Kp (fun a => ∃ p, Zl p a) Hb H) (sm : Same H H1) (h1 : ∀ p a, Zl p a → p ∈ lk ∧ Z p a) (h2 : ∀ p a, Z p a → Z0 a ∨ H0 a = none)
    (r : Rel K (fun a => H0 a = none) G Z rt e σ H1) (hi : e[i]? = some (some (.own ds))) (rr : RepL K (Z (G i)) H1 ds' xs') : Body K G H0 Z0 lk Zl Hb (e.set i (some (.own ds'))) σ (upd H1 (rt i) (.lst xs')) := by
  obtain ⟨j1, j2, j3, ys, j4, j5⟩ := r.own i ds hi
  exact Body.wrR s0 kp sm h1 h2 r hi trivial (still_lst j4) (r.write hi rr)
/-- x.m(e): slot i's own list is changed -/
theorem own_sim {r : V → List V → Hp → VK → Prop} {f : List D → D → R (List D)} (fo : ∀ ds d e, f ds d ≠ .ex e) (o : MtOk r f) {i : Nat} (hl : ∀ j ∈ l, W.g j = W.g i) (D : Ends) (σ : L2.St) (H : Hp) (q : tS X.K W H0 Z0 lk (sOwn l i f m) D σ H) :
    tDrop (tBM X.K "list" r (tVar i) (tCons (tE X.K W m l) tNil)) D σ H := by
  obtain ⟨Zl, Hb, e, ⟨s0, kp, Z, rt, h1, h2, r0⟩, q⟩ := q
  unfold sOwn at q
  cases hi : e[i]? with
  | none => rw [hi] at q; exact q.elim
  | some oo =>
    cases oo with
    | none => rw [hi] at q; exact q.elim
    | some ss =>
      cases ss with
      | val d => rw [hi] at q; exact q.elim
      | dct t kvs => rw [hi] at q; exact q.elim
      | own es =>
        simp only [hi] at q
        obtain ⟨k1, k2, k3, xs, k4, k5⟩ := r0.own i es hi
        refine ⟨_, k1, .inl ⟨rfl, xs, .inl (.inl k4)⟩, ?_⟩
        refine tE_go r0 (fun d hd c o H' sm => by rw [hd] at q; exact (fun z9 => q c o σ H' (s0.trans sm) (z9.mo s0))) (fun hd => by rw [hd] at q; exact q) fun s x H1 hs sm r1 rs => ?_
        rw [hs, R.bind_ok] at q
        obtain ⟨Z', z1, z2, r', rx⟩ := r0.hold sm rs (W.g i) hl
        cases hj : (keep l s.flat e)[i]? with
        | none => rw [hj] at q; exact q.elim
        | some oo =>
          cases oo with
          | none => rw [hj] at q; exact q.elim
          | some ss =>
            cases ss with
            | val d => rw [hj] at q; exact q.elim
            | dct t kvs => rw [hj] at q; exact q.elim
            | own ds =>
              simp only [hj] at q
              cases hf : f ds s.d with
              | bad => rw [hf] at q; exact q.elim
              | ex d => exact (fo _ _ _ hf).elim
              | ok ds' =>
                rw [hf, R.bind_ok] at q
                obtain ⟨j1, j2, j3, ys, j4, j5⟩ := r'.own i ds hj
                refine o X.K (Z' (W.g i)) H1 (rt i) ys ds ds' s.d x _ j4 j5 rx (j3 _) hf fun xs' rr => ?_
                exact q σ _ (Body.wr s0 kp sm (up1 h1 z1) (up2 h2 z2) r' hj rr)
variable {apos cpos p2 epos : Pos} {x : Str}
theorem nx_append : ∀ ds d e, fAppend ds d ≠ .ex e := fun ds d e h => by
  unfold fAppend at h
  split at h <;> cases h
theorem nx_extend : ∀ ds d e, fExtend ds d ≠ .ex e := fun ds d e h => by
  unfold fExtend at h
  split at h <;> (try split at h) <;> cases h
theorem s_append (i : Nat) (ha : SE X W a m l) (hN : X.N[i]? = some x := by rfl) (hv : Vis X.env.scope x := by first | exact Or.inl rfl | exact Or.inr (Or.inl rfl) | exact Or.inr (Or.inr rfl)) (hd : (x == ("__debug__" : Str)) = false := by decide) (hcd : (x == ("__classdict__" : Str)) = false := by decide)
    (hbase : attributeBase (.Name x p2) "append" X.env (eval (.Name x p2) X.env) = eval (.Name x p2) X.env := by rfl)
    (hfew : ((backTo cpos (starEach [a] X.env)).all (fun x => !x.1) && (backToKw cpos (keywordEach [] X.env)).all (fun x => x.1.isSome) && decide ([a].length + ([] : List Keyword).length + (if ([] : List Keyword).isEmpty then 0 else 1) < 30)) = true := by rfl)
    (hline : (apos.endLine == cpos.line) = true := by rfl) (hs : starEach [a] X.env = (false, eval a X.env) :: starEach [] X.env := by rfl) (hplain : (backTo cpos (starEach ([] : List Expr) X.env)).any (·.1) = false := by rfl)
    (hsw : swapsWith (.Call (.Attribute (.Name x p2) "append" apos) [a] [] cpos) none epos.line X.env = pure false := by rfl) (hl : allg W.g (W.g i) l = true := by rfl) :
    SS X W H0 Z0 lk (.Expr (.Call (.Attribute (.Name x p2) "append" apos) [a] [] cpos) epos) (sOwn l i fAppend m) :=
  PS.imp (ps_expr (pe_bm PySem.F.plainAttrs_list PySem.F.slot_list_append PySem.F.type_list_append mt_append (pe_var hN hv hd hcd) (pa_cons ha pa_nil hs) hbase hfew hline hs hplain) hsw) (own_sim nx_append mo_append (allg_of hl))
theorem s_extend (i : Nat) (ha : SE X W a m l) (hN : X.N[i]? = some x := by rfl) (hv : Vis X.env.scope x := by first | exact Or.inl rfl | exact Or.inr (Or.inl rfl) | exact Or.inr (Or.inr rfl)) (hd : (x == ("__debug__" : Str)) = false := by decide) (hcd : (x == ("__classdict__" : Str)) = false := by decide)
    (hbase : attributeBase (.Name x p2) "extend" X.env (eval (.Name x p2) X.env) = eval (.Name x p2) X.env := by rfl)
    (hfew : ((backTo cpos (starEach [a] X.env)).all (fun x => !x.1) && (backToKw cpos (keywordEach [] X.env)).all (fun x => x.1.isSome) && decide ([a].length + ([] : List Keyword).length + (if ([] : List Keyword).isEmpty then 0 else 1) < 30)) = true := by rfl)
    (hline : (apos.endLine == cpos.line) = true := by rfl) (hs : starEach [a] X.env = (false, eval a X.env) :: starEach [] X.env := by rfl) (hplain : (backTo cpos (starEach ([] : List Expr) X.env)).any (·.1) = false := by rfl)
    (hsw : swapsWith (.Call (.Attribute (.Name x p2) "extend" apos) [a] [] cpos) none epos.line X.env = pure false := by rfl) (hl : allg W.g (W.g i) l = true := by rfl) :
    SS X W H0 Z0 lk (.Expr (.Call (.Attribute (.Name x p2) "extend" apos) [a] [] cpos) epos) (sOwn l i fExtend m) :=
  PS.imp (ps_expr (pe_bm PySem.F.plainAttrs_list PySem.F.slot_list_extend PySem.F.type_list_extend mt_extend (pe_var hN hv hd hcd) (pa_cons ha pa_nil hs) hbase hfew hline hs hplain) hsw) (own_sim nx_extend mo_extend (allg_of hl))
/-- x[k] = v -/
theorem s_item (i : Nat) {kx : Expr} {tpos : Pos} (ha : SE X W a m l) (hk : SE X W kx n k) (hN : X.N[i]? = some x := by rfl) (hv : Vis X.env.scope x := by first | exact Or.inl rfl | exact Or.inr (Or.inl rfl) | exact Or.inr (Or.inr rfl)) (hd : (x == ("__debug__" : Str)) = false := by decide) (hcd : (x == ("__classdict__" : Str)) = false := by decide)
    (hs : swapsWithSole [.Subscript (.Name x p2) kx tpos] a pos.line X.env = pure false := by rfl) (hw : swappedStores [.Subscript (.Name x p2) kx tpos] a X.env = pure none := by rfl) (h1 : (assignEach [.Subscript (.Name x p2) kx tpos] X.env).map (·.2) = [assign (.Subscript (.Name x p2) kx tpos) X.env] := by rfl)
    (hsub : ∀ v, assign (.Subscript (.Name x p2) kx tpos) X.env v = (do let ov ← holding [v] (eval (.Name x p2) X.env); let iv ← holding [v, ov] (eval kx X.env); standAt tpos; holding [v, ov, iv] (setItem ov iv v); release [v, ov, iv] []) := by intro _; rfl) (hl : allg W.g (W.g i) l = true := by rfl) :
    SS X W H0 Z0 lk (.Assign [.Subscript (.Name x p2) kx tpos] a pos) (sItem l i m n) := by
  refine PS.imp (ps_asg ha (pg_sub (pe_var hN hv hd hcd) hk set_list hsub) hs hw h1) fun D σ H ⟨Zl, Hb, e, ⟨s0, kp, Z, rt, h1, h2, r0⟩, q⟩ => ?_
  unfold sItem at q
  refine tE_go r0 (fun d hd c o H' sm => by rw [hd] at q; exact (fun z9 => q c o σ H' (s0.trans sm) (z9.mo s0))) (fun hd => by rw [hd] at q; exact q) fun s v H1 hs sm r1 rs => ?_
  rw [hs, R.bind_ok] at q
  obtain ⟨Z', z1, z2, r', rx⟩ := r0.hold sm rs (W.g i) (allg_of hl)
  split at q
  · rename_i j ds hn hj
    obtain ⟨j1, j2, j3, ys, j4, j5⟩ := r'.own i ds hj
    refine ⟨_, j1, ?_⟩
    refine tE_go r1 (fun d hd => by rw [hn] at hd; cases hd) (fun hd => by rw [hn] at hd; cases hd) fun s2 kv H2 hs2 sm2 r2 rs2 => ?_
    rw [hn] at hs2
    cases hs2
    obtain rfl : kv = .int j := rs2
    have r2' := r'.ext sm2
    obtain ⟨_, _, _, ys, j4, j5⟩ := r2'.own i ds hj
    cases hx : ixN ds.length j with
    | none => rw [hx] at q; exact q.elim
    | some g =>
      simp only [hx] at q
      refine ⟨rt i, ys, j, g, rfl, rfl, j4, by rw [j5.length]; exact hx, ?_⟩
      exact q σ _ (Body.wr s0 kp (sm.trans sm2) (up1 h1 z1) (up2 h2 z2) r2' hj (j5.set g (rx.same sm2)))
  · exact q.elim
/-- xs[k], of a list that is written -/
def rGetL : V → V → Hp → VK → Prop := fun o i H Q => ∃ p xs k v, o = .ref p ∧ i = .int k ∧ H p = some (.lst xs) ∧ 0 ≤ k ∧ xs[k.toNat]? = some v ∧ Q v H
theorem get_list : PGet X rGetL := by
  intro pins s σ H o i ov iv Q I ro ri h
  obtain ⟨p, xs, k, v, rfl, rfl, hp, h0, hv, q⟩ := h
  cases ro
  obtain ⟨t, rfl⟩ := ri
  obtain ⟨its, rv, pl, hz⟩ := I.list (xs := xs) (.inl (.inl hp))
  obtain ⟨u, hu, ru⟩ := rv.get hv
  have hk := (List.getElem?_eq_some_iff.mp hv).1
  have sl : sizeLine = 16777216 := by decide
  exact wpAny_getItem_list pl.isList h0 (by omega) (by simpa using hu) ⟨v, H, I, ru, q⟩
theorem ixN_pos {n : Nat} {j : Int} {g : Nat} (h0 : 0 ≤ j) (h : ixN n j = some g) : j.toNat = g := by
  unfold L2.ixN at h
  rw [if_pos h0] at h
  split at h
  · exact Option.some.inj h
  · cases h
theorem s_aug (i : Nat) {kx : Expr} {tpos : Pos} (ha : SE X W a m l) (hk : SE X W kx n k) (hN : X.N[i]? = some x := by rfl) (hv : Vis X.env.scope x := by first | exact Or.inl rfl | exact Or.inr (Or.inl rfl) | exact Or.inr (Or.inr rfl)) (hd : (x == ("__debug__" : Str)) = false := by decide) (hcd : (x == ("__classdict__" : Str)) = false := by decide)
    (hst : ∀ ov iv new, augStore kx ov iv new = (do holding [new, ov, iv] (setItem ov iv new); release [new, ov, iv] []; pure .next) := by intros; rfl) :
    SS X W H0 Z0 lk (.AugAssign (.Subscript (.Name x p2) kx tpos) .Add a pos) (sAug i m n) := by
  refine PS.imp (ps_augS (pe_var hN hv hd hcd) hk get_list ha ip_add set_list hst) fun D σ H ⟨Zl, Hb, e, ⟨s0, kp, Z, rt, h1, h2, r0⟩, q⟩ => ?_
  unfold sAug at q
  split at q
  · rename_i j ds hn hj
    obtain ⟨j1, j2, j3, ys, j4, j5⟩ := r0.own i ds hj
    refine ⟨_, j1, ?_⟩
    refine tE_go r0 (fun d hd => by rw [hn] at hd; cases hd) (fun hd => by rw [hn] at hd; cases hd) fun s2 kv H2 hs2 sm2 r2 rs2 => ?_
    rw [hn] at hs2
    cases hs2
    obtain rfl : kv = .int j := rs2
    cases hx : ixN ds.length j with
    | none => rw [hx] at q; exact q.elim
    | some g =>
      simp only [hx] at q
      split at q
      · rename_i u v hu hv2
        by_cases h0 : 0 ≤ j
        case neg => rw [if_neg h0] at q; exact q.elim
        rw [if_pos h0] at q
        obtain ⟨y, hy, ry⟩ := j5.get hu
        obtain rfl : y = .int u := ry
        refine ⟨rt i, ys, j, .int u, rfl, rfl, sm2 _ _ j4, h0, by rw [ixN_pos h0 hx]; exact hy, ?_⟩
        refine tE_go r2 (fun d hd => by rw [hv2] at hd; cases hd) (fun hd => by rw [hv2] at hd; cases hd) fun s3 w H3 hs3 sm3 r3 rs3 => ?_
        rw [hv2] at hs3
        cases hs3
        obtain rfl : w = .int v := rs3
        obtain ⟨_, _, _, zs, g4, g5⟩ := r3.own i ds hj
        refine ⟨u, v, rfl, rfl, rt i, zs, j, g, rfl, rfl, g4, by rw [g5.length]; exact hx, ?_⟩
        exact q σ _ (Body.wr s0 kp (sm2.trans sm3) h1 h2 r3 hj (g5.set g rfl))
      · exact q.elim
  · exact q.elim
/-- x.clear() -/
theorem s_clear (i : Nat) (hN : X.N[i]? = some x := by rfl) (hv : Vis X.env.scope x := by first | exact Or.inl rfl | exact Or.inr (Or.inl rfl) | exact Or.inr (Or.inr rfl)) (hd : (x == ("__debug__" : Str)) = false := by decide) (hcd : (x == ("__classdict__" : Str)) = false := by decide)
    (hbase : attributeBase (.Name x p2) "clear" X.env (eval (.Name x p2) X.env) = eval (.Name x p2) X.env := by rfl) (hline : (apos.endLine == cpos.line) = true := by rfl)
    (hsw : swapsWith (.Call (.Attribute (.Name x p2) "clear" apos) [] [] cpos) none epos.line X.env = pure false := by rfl) :
    SS X W H0 Z0 lk (.Expr (.Call (.Attribute (.Name x p2) "clear" apos) [] [] cpos) epos) (sClear i) := by
  refine PS.imp (ps_expr (pe_bm0 PySem.F.plainAttrs_list PySem.F.slot_list_clear PySem.F.type_list_clear mt_clear (pe_var hN hv hd hcd) hbase hline) hsw) fun D σ H ⟨Zl, Hb, e, ⟨s0, kp, Z, rt, h1, h2, r0⟩, q⟩ => ?_
  unfold sClear at q
  split at q
  · rename_i ds hj
    obtain ⟨j1, j2, j3, ys, j4, j5⟩ := r0.own i ds hj
    exact ⟨_, j1, .inl ⟨rfl, ys, .inl (.inl j4)⟩, rt i, ys, rfl, rfl, j4, q σ _ (Body.wr s0 kp (Same.refl H) h1 h2 r0 hj RepL.nil)⟩
  · exact q.elim
theorem s_insert (i : Nat) {kx : Expr} (hk : SE X W kx n []) (ha : SE X W a m l) (hN : X.N[i]? = some x := by rfl) (hv : Vis X.env.scope x := by first | exact Or.inl rfl | exact Or.inr (Or.inl rfl) | exact Or.inr (Or.inr rfl)) (hd : (x == ("__debug__" : Str)) = false := by decide) (hcd : (x == ("__classdict__" : Str)) = false := by decide)
    (hbase : attributeBase (.Name x p2) "insert" X.env (eval (.Name x p2) X.env) = eval (.Name x p2) X.env := by rfl)
    (hfew : ((backTo cpos (starEach [kx, a] X.env)).all (fun x => !x.1) && (backToKw cpos (keywordEach [] X.env)).all (fun x => x.1.isSome) && decide ([kx, a].length + ([] : List Keyword).length + (if ([] : List Keyword).isEmpty then 0 else 1) < 30)) = true := by rfl)
    (hline : (apos.endLine == cpos.line) = true := by rfl) (hs : starEach [kx, a] X.env = (false, eval kx X.env) :: starEach [a] X.env := by rfl) (hs2 : starEach [a] X.env = (false, eval a X.env) :: starEach [] X.env := by rfl) (hplain : (backTo cpos (starEach [a] X.env)).any (·.1) = false := by rfl)
    (hsw : swapsWith (.Call (.Attribute (.Name x p2) "insert" apos) [kx, a] [] cpos) none epos.line X.env = pure false := by rfl) (hl : allg W.g (W.g i) l = true := by rfl) :
    SS X W H0 Z0 lk (.Expr (.Call (.Attribute (.Name x p2) "insert" apos) [kx, a] [] cpos) epos) (sInsert l i n m) := by
  refine PS.imp (ps_expr (pe_bm PySem.F.plainAttrs_list PySem.F.slot_list_insert PySem.F.type_list_insert mt_insert (pe_var hN hv hd hcd) (pa_cons hk (pa_cons ha pa_nil hs2) hs) hbase hfew hline hs hplain) hsw) fun D σ H ⟨Zl, Hb, e, ⟨s0, kp, Z, rt, h1, h2, r0⟩, q⟩ => ?_
  unfold sInsert at q
  split at q
  case h_2 => exact q.elim
  rename_i nn es hn hi
  obtain ⟨k1, k2, k3, xs, k4, k5⟩ := r0.own i es hi
  refine ⟨_, k1, .inl ⟨rfl, xs, .inl (.inl k4)⟩, ?_⟩
  refine tE_go r0 (fun d hd => by rw [hn] at hd; cases hd) (fun hd => by rw [hn] at hd; cases hd) fun s2 kv H2 hs2 sm2 r2 rs2 => ?_
  rw [hn] at hs2
  cases hs2
  obtain rfl : kv = .int nn := rs2
  refine tE_go r2 (fun d hd c o H' sm => by rw [hd] at q; exact (fun z9 => q c o σ H' ((s0.trans sm2).trans sm) (z9.mo (s0.trans sm2)))) (fun hd => by rw [hd] at q; exact q) fun s v H3 hs sm3 r3 rs => ?_
  rw [hs, R.bind_ok] at q
  obtain ⟨Z', z1, z2, r', rx⟩ := r2.hold sm3 rs (W.g i) (allg_of hl)
  split at q
  case h_2 => exact q.elim
  rename_i ds hj
  split at q
  case isFalse => exact q.elim
  rename_i hb
  obtain ⟨j1, j2, j3, ys, j4, j5⟩ := r'.own i ds hj
  refine ⟨rt i, ys, nn, v, rfl, rfl, j4, by rw [j5.length]; exact Nat.lt_of_le_of_lt hb.2.2 (by decide), hb.1, by omega, ?_⟩
  exact q σ _ (Body.wr s0 kp (sm2.trans sm3) (up1 h1 z1) (up2 h2 z2) r' hj (((j5.take _).append (RepL.one rx)).append (j5.drop _)))
end
end Tg

/-! Tg, part 13: calls and defs; methods of texts and lists; ranges as values; zip, enumerate; isinstance. -/
namespace Tg
open PySem PySem.Spec PyProof.Rows L2

/-- what a call's pure run is for -/
def OkF (K : PySem.W.Frag) (xr : Hp → D → Value → Option Addr → Hp → Prop) (N : Addr → Prop) (H : Hp) (Q : VK) (E : XK) : R S → Prop
  | .ok s => ∀ x H', Same H H' → RepS K (fun a => N a ∨ H a = none) H H' s x → Q x H'
  | .ex d => ∀ c o H', Same H H' → XC xr H d c o H' → E c o H'
  | .bad => False
/-- a def's promise: it does what the pure function does -/
def spF (K : PySem.W.Frag) (xr : Hp → D → Value → Option Addr → Hp → Prop) (fr : Bool) (F : List D → R S) (n : Nat) : Sp := fun vs H Q E => ∃ (N : Addr → Prop) (ds : List D), vs.length = n ∧ RepL K N H ds vs ∧ OkF K xr (fun a => fr = false ∧ N a) H Q E (F ds)

section
variable {X : Cx} {W : Wi} {x : Str} {e : Expr} {es : List Expr} {m : Ax} {l : List Nat} {p pos : Pos} {f : Addr} {fd : FuncData} {ps : List Str} {k n : Nat} {F : List D → R S} {xr : Hp → D → Value → Option Addr → Hp → Prop}
theorem x_callG {fr : Bool} {lr : List Nat} (hlr : fr = true ∨ ∀ j ∈ l, j ∈ lr) (G : FnOk X.prog X.w X.K X.mg X.base (L2.CX X.prog X.w) k f fd ps (spF X.K xr fr F n)) (hr : Room k X.A) (hm : X.mg x = some (.ref f)) (kp : PySem.W.keepIn X.K (.ref f) = true) (hb : Binds X.K fd ps []) (tk : Takes X W.w) (hxr : ∀ H0 d c o H, xr H0 d c o H → W.xr H0 d c o H) (ha : SA X W (e :: es) m l)
    (hl : ∀ e ds, m e = .ok ds → ds.length = n) (hg : Gl X x := by rfl) (hdb : (x == ("__debug__" : Str)) = false := by decide) (he : starEach (e :: es) X.env = (false, eval e X.env) :: starEach es X.env := by rfl) (hpl : (backTo pos (starEach es X.env)).any (·.1) = false := by rfl) :
    SE X W (.Call (.Name x p) (e :: es) [] pos) (eCall F m) lr := by
  refine PE.imp (pe_callS G hr hg hm kp hb (fun σ => passAt tk σ) ha hdb he hpl) fun σ H Q ⟨B, Z, rt, en, r, q⟩ => ?_
  unfold eCall at q
  refine tA_go r (fun d hd => by rw [hd] at q; exact q) (fun hd => by rw [hd] at q; exact q) fun ds xs H1 hs sm r1 rs => ?_
  rw [hs, R.bind_ok] at q
  refine ⟨NZ W.g Z en rt l H, ds, by rw [rs.length]; exact hl en ds hs, rs, ?_⟩
  cases hF : F ds with
  | bad => rw [hF] at q; exact q.elim
  | ex d =>
    rw [hF] at q
    exact fun c o H' sm' h => q c o H' (sm.trans sm') ((h.imp hxr).mo sm)
  | ok s =>
    rw [hF] at q
    refine fun v H' sm' rv => q v H' (sm.trans sm') ((rv.back sm).mono fun a n => ?_)
    rcases n with ⟨hf, n⟩ | n
    · rcases hlr with h | h
      · rw [hf] at h; cases h
      · exact NZ.mono h n
    · exact .inr (.inl (sm.free n))
end

section
variable {P : Program} {w : World} {K : PySem.W.Frag} {mg : Str → Option Value} {base : Heap} {xr : Hp → D → Value → Option Addr → Hp → Prop}
theorem repL_alloc {N : Addr → Prop} {H : Hp} {ds : List D} {xs : List V} (r : RepL K N H ds xs) : RepL K (fun a => N a ∧ H a ≠ none) H ds xs := RepL.imp (fun a ys n h => ⟨⟨n, by rw [h]; exact nofun⟩, h⟩) (Still.refl H) ds xs r
theorem start_rel {N : List Str} {G : Nat → Nat} {Z : Addr → Prop} {H : Hp} {ds : List D} {vs : List V} (hG : ∀ i, i < ds.length → G i = 0) (rt : Nat → Addr) (r : RepL K Z H ds vs) (hz : ∀ a, Z a → H a ≠ none) : Rel K (fun a => H a = none) G (fun p a => p = 0 ∧ Z a) rt (ds.map (fun d => some (.val d)) ++ List.replicate (N.length - ds.length) none) (start N vs) H := by
  have no : ∀ (i : Nat) (s : S), (ds.map (fun d => some (S.val d)) ++ List.replicate (N.length - ds.length) none)[i]? = some (some s) → ∃ d, ds[i]? = some d ∧ s = .val d := fun i s h => by
    by_cases hi : i < ds.length
    · rw [List.getElem?_append_left (by simpa using hi), List.getElem?_map, List.getElem?_eq_getElem hi] at h
      cases h
      exact ⟨_, List.getElem?_eq_getElem hi, rfl⟩
    · rw [List.getElem?_append_right (by simpa using hi), List.getElem?_replicate] at h
      split at h <;> cases h
  refine ⟨?_, fun i d h => ?_, fun i es h => ?_, fun i t kvs h => ?_, fun i j s u h1 h2 r1 r2 => ?_, fun p a z => hz a z.2, fun p q a z1 z2 => z1.1.trans z2.1.symm, fun p a hp z => absurd z.1 hp, fun a h => h⟩
  · unfold L2.start
    simp only [List.length_append, List.length_map, List.length_replicate, r.length]
  · obtain ⟨d', h1, h2⟩ := no i _ h
    cases h2
    obtain ⟨v, k1, k2⟩ := r.get h1
    have hi := (List.getElem?_eq_some_iff.mp k1).1
    refine ⟨v, ?_, k2.mono fun a z => ⟨hG i (by rw [← r.length]; exact hi), z⟩⟩
    unfold L2.start
    rw [List.getElem?_append_left (by simpa using hi), List.getElem?_map, k1]
    rfl
  · obtain ⟨d', _, h2⟩ := no i _ h
    cases h2
  · obtain ⟨d', _, h2⟩ := no i _ h
    cases h2
  · obtain ⟨d', _, h3⟩ := no i _ h1
    subst h3
    exact r1.elim
/-- THE RULE: a def does what its body's pure run does -/
theorem fun_ok {x qual : Str} {st : Stmt} {f : Addr} {fd : FuncData} {N ps : List Str} {k n : Nat} {M : Sx} {G : Nat → Nat} {fr : Bool} (F : Fun K x qual st f fd) (Sc : FnScope N ps (defScope st)) (hn : ps.length = n) (hG : (List.range n).all (fun i => G i == 0) = true)
    (hb : ∀ (cdv : Value) (A : Around) (outer : List Env) (s : Shared) (H : Hp) (E : XK) (Z0 : Addr → Prop), Room k (A.deeper (envOfC qual (defScope st) s.heap.objs.size f cdv)) →
      SB (cxOf (L2.CX P w) P w K mg base N qual (defScope st) f cdv A outer s H E) ⟨xr, fun c o _ H => E c o H, G, fr⟩ H Z0 [] (defBody st) M) : FnOk P w K mg base (L2.CX P w) (k + 1) f fd ps (spF K xr fr (runB N.length M) n) := by
  refine F.okX Sc (fun vs H Q E ⟨_, _, hl, _⟩ => hl.trans hn.symm) fun cdv A outer s H vs Q E hr ⟨Nn, ds, hl, rep, ok⟩ => ?_
  have hG' : ∀ i, i < ds.length → G i = 0 := fun i hi => by
    have := List.all_eq_true.mp hG i (List.mem_range.mpr (by rw [← hl, rep.length]; exact hi))
    simpa using this
  refine ⟨_, hb cdv A outer s H E (fun a => Nn a ∧ H a ≠ none) hr, fun _ _ => False, H, _, ⟨Same.refl H, Kp.refl _ _, _, fun _ => 0, fun p a z => z.elim, fun p a z => .inl z.2, start_rel hG' _ (repL_alloc rep) fun a z => z.2⟩, ?_⟩
  unfold runB at ok
  cases hM : M (ds.map (fun d => some (S.val d)) ++ List.replicate (N.length - ds.length) none) with
  | bad => rw [hM] at ok; exact ok.elim
  | ex d =>
    rw [hM] at ok
    exact fun c o σ' H' sm h => ok c o H' sm h
  | ok fl =>
    rw [hM] at ok
    cases fl with
    | nx e' => exact fun σ' H' B => ok .non H' B.1 rfl
    | rt s' => exact fun v H' sm rv => ok v H' sm (rv.mono fun a n => n.imp (fun z => ⟨z.1, z.2.1⟩) id)

end
section
variable {X : Cx} {W : Wi} {H0 : Hp} {Z0 : Addr → Prop} {lk : List Nat} {a b c : Expr} {m n : Ex} {l k : List Nat} {pos apos cpos p2 epos : Pos} {x y : Str}
/-- x.append(y.pop(k)) -/
theorem s_appPop (i j : Nat) {kx : Expr} {q1 q2 q3 : Pos} (hk : SE X W kx n k) (hN : X.N[i]? = some x := by rfl) (hv : Vis X.env.scope x := by first | exact Or.inl rfl | exact Or.inr (Or.inl rfl) | exact Or.inr (Or.inr rfl)) (hd : (x == ("__debug__" : Str)) = false := by decide) (hcd : (x == ("__classdict__" : Str)) = false := by decide)
    (hN2 : X.N[j]? = some y := by rfl) (hv2 : Vis X.env.scope y := by first | exact Or.inl rfl | exact Or.inr (Or.inl rfl) | exact Or.inr (Or.inr rfl)) (hd2 : (y == ("__debug__" : Str)) = false := by decide) (hcd2 : (y == ("__classdict__" : Str)) = false := by decide)
    (ib : attributeBase (.Name y q1) "pop" X.env (eval (.Name y q1) X.env) = eval (.Name y q1) X.env := by rfl)
    (if_ : ((backTo q3 (starEach [kx] X.env)).all (fun x => !x.1) && (backToKw q3 (keywordEach [] X.env)).all (fun x => x.1.isSome) && decide ([kx].length + ([] : List Keyword).length + (if ([] : List Keyword).isEmpty then 0 else 1) < 30)) = true := by rfl)
    (il : (q2.endLine == q3.line) = true := by rfl) (is : starEach [kx] X.env = (false, eval kx X.env) :: starEach [] X.env := by rfl) (ip : (backTo q3 (starEach ([] : List Expr) X.env)).any (·.1) = false := by rfl)
    (hbase : attributeBase (.Name x p2) "append" X.env (eval (.Name x p2) X.env) = eval (.Name x p2) X.env := by rfl)
    (hfew : ((backTo cpos (starEach [.Call (.Attribute (.Name y q1) "pop" q2) [kx] [] q3] X.env)).all (fun x => !x.1) && (backToKw cpos (keywordEach [] X.env)).all (fun x => x.1.isSome) && decide ([Expr.Call (.Attribute (.Name y q1) "pop" q2) [kx] [] q3].length + ([] : List Keyword).length + (if ([] : List Keyword).isEmpty then 0 else 1) < 30)) = true := by rfl)
    (hline : (apos.endLine == cpos.line) = true := by rfl) (hs : starEach [.Call (.Attribute (.Name y q1) "pop" q2) [kx] [] q3] X.env = (false, eval (.Call (.Attribute (.Name y q1) "pop" q2) [kx] [] q3) X.env) :: starEach [] X.env := by rfl) (hplain : (backTo cpos (starEach ([] : List Expr) X.env)).any (·.1) = false := by rfl)
    (hsw : swapsWith (.Call (.Attribute (.Name x p2) "append" apos) [.Call (.Attribute (.Name y q1) "pop" q2) [kx] [] q3] [] cpos) none epos.line X.env = pure false := by rfl) (hgg : W.g j = W.g i := by rfl) :
    SS X W H0 Z0 lk (.Expr (.Call (.Attribute (.Name x p2) "append" apos) [.Call (.Attribute (.Name y q1) "pop" q2) [kx] [] q3] [] cpos) epos) (sAppPop i j n) := by
  refine PS.imp (ps_expr (pe_bm PySem.F.plainAttrs_list PySem.F.slot_list_append PySem.F.type_list_append mt_append (pe_var hN hv hd hcd)
    (pa_cons (pe_bm PySem.F.plainAttrs_list PySem.F.slot_list_pop PySem.F.type_list_pop mt_popAt (pe_var hN2 hv2 hd2 hcd2) (pa_cons hk pa_nil is) ib if_ il is ip) pa_nil hs) hbase hfew hline hs hplain) hsw) fun D σ H ⟨Zl, Hb, e, ⟨s0, kp, Z, rt, h1, h2, r0⟩, q⟩ => ?_
  unfold sAppPop at q
  split at q
  case h_2 => exact q.elim
  rename_i nn ds es hn hi hj
  cases hx : ixN es.length nn with
  | none => rw [hx] at q; exact q.elim
  | some g =>
    simp only [hx] at q
    cases hg : es[g]? with
    | none => rw [hg] at q; exact q.elim
    | some d =>
      simp only [hg] at q
      by_cases hc : i ≠ j ∧ ds.length ≤ 65536 ∧ es.length ≤ 65536
      case neg => rw [if_neg hc] at q; exact q.elim
      rw [if_pos hc] at q
      obtain ⟨k1, k2, k3, xs, k4, k5⟩ := r0.own i ds hi
      obtain ⟨j1, j2, j3, ys, j4, j5⟩ := r0.own j es hj
      refine ⟨_, k1, .inl ⟨rfl, xs, .inl (.inl k4)⟩, _, j1, .inl ⟨rfl, ys, .inl (.inl j4)⟩, ?_⟩
      refine tE_go r0 (fun d hd => by rw [hn] at hd; cases hd) (fun hd => by rw [hn] at hd; cases hd) fun s2 kv H2 hs2 sm2 r2 rs2 => ?_
      rw [hn] at hs2
      cases hs2
      obtain rfl : kv = .int nn := rs2
      obtain ⟨_, _, _, ys, j4, j5⟩ := r2.own j es hj
      obtain ⟨v, hv, rv⟩ := j5.get hg
      obtain ⟨sq, b1, b2, b3⟩ := ixN_seq hx
      refine ⟨rt j, ys, nn, g, v, rfl, rfl, j4, by omega, by omega, by rw [j5.length]; exact sq, hv, ?_⟩
      -- the popped list first, then the other one
      have B1 : Body X.K W.g H0 Z0 lk Zl Hb (e.set j (some (.own (es.eraseIdx g)))) σ (upd H2 (rt j) (.lst (ys.eraseIdx g))) := Body.wr s0 kp sm2 h1 h2 r2 hj (j5.eraseIdx g)
      have r3 := r2.write hj (j5.eraseIdx g)
      have hi3 : (e.set j (some (S.own (es.eraseIdx g))))[i]? = some (some (.own ds)) := by rw [List.getElem?_set_ne (fun z => hc.1 z.symm)]; exact hi
      obtain ⟨_, _, g3, zs, g4, g5⟩ := r3.own i ds hi3
      have rv3 : Rep X.K (Z (W.g i)) (upd H2 (rt j) (.lst (ys.eraseIdx g))) d v := by
        obtain ⟨_, _, z3, _, z4, _⟩ := r2.own j es hj
        rw [← hgg]
        refine Rep.imp (fun a ws z w => ⟨z, by rw [upd_ne (fun o => z3 _ (by rw [← o]; exact z))]; exact w⟩) (still_lst j4) d v rv
      refine ⟨rt i, zs, v, rfl, rfl, g4, by rw [g5.length]; exact Nat.lt_of_le_of_lt hc.2.1 (by decide), ?_⟩
      exact q σ _ (Body.wr (s0 := B1.1) B1.2.1 (Same.refl _) h1 h2 r3 hi3 (g5.append (RepL.one rv3)))
end
end Tg

/-! Tg, part 14: methods of texts and lists, ranges as values, zip, enumerate, isinstance. -/
namespace Tg
open PySem PySem.Spec PyProof.Rows L2

section
variable {X : Cx} {W : Wi} {H0 : Hp} {Z0 : Addr → Prop} {a b c : Expr} {m n : Ex} {l k : List Nat} {pos apos : Pos} {p p2 : Pos}
/-! list(range(..)), tuple(range(..)) -/
theorem rg_rep {K : PySem.W.Frag} {N : Addr → Prop} {H : Hp} (i j : Int) : RepL K N H (rangeL i j) (rgV i j) := by
  unfold rangeL L2.rgV
  generalize List.range (j - i).toNat = r
  induction r with
  | nil => rfl
  | cons y r ih => exact ⟨_, _, rfl, rfl, ih⟩
theorem rgok {i j : Int} (h : -1000000 ≤ i ∧ i ≤ 1000000 ∧ -1000000 ≤ j ∧ j ≤ 1000000) : RgOk i j := ⟨by omega, by omega, by omega, by omega, by omega⟩
theorem rg1_sim {mk : List D → S} {R0 : Int → Int → Hp → VK → Prop} (hf : ∀ N i j H Q, RgOk i j → OkR X.K N H Q (.ok (mk (rangeL i j))) → R0 i j H Q) (σ : L2.St) (H : Hp) (Q : VK) (q : tE X.K W (eRg1 mk m) [] σ H Q) : tRg1 (tE X.K W m l) σ H fun i j H1 => R0 i j H1 Q := by
  obtain ⟨B, Z, rt, e, r, q⟩ := q
  unfold eRg1 at q
  refine tE_go r (fun d hd => by rw [hd] at q; exact q) (fun hd => by rw [hd] at q; exact q) fun s x H1 hs sm r1 rs => ?_
  rw [hs, R.bind_ok] at q
  cases hd : s.d with
  | int j =>
    simp only [hd] at q
    obtain rfl := int_of rs hd
    by_cases hb : -1000000 ≤ j ∧ j ≤ 1000000
    · rw [if_pos hb] at q
      exact ⟨j, rfl, hf (fun a => NZ W.g Z e rt [] H a) 0 j H1 Q (rgok ⟨by omega, by omega, hb.1, hb.2⟩) fun x H' sm' rs' => q x H' (sm.trans sm') ((rs'.back sm).mono fun a n => n.elim (fun z => z) fun z => .inr (.inl (sm.free z)))⟩
    · rw [if_neg hb] at q
      exact q.elim
  | non => simp only [hd] at q
  | bl _ => simp only [hd] at q
  | str _ => simp only [hd] at q
  | tup _ => simp only [hd] at q
  | lst _ => simp only [hd] at q
  | scr _ => simp only [hd] at q
  | exc _ _ => simp only [hd] at q
  | jnk => simp only [hd] at q
theorem rg2_sim {mk : List D → S} {R0 : Int → Int → Hp → VK → Prop} (hf : ∀ N i j H Q, RgOk i j → OkR X.K N H Q (.ok (mk (rangeL i j))) → R0 i j H Q) (σ : L2.St) (H : Hp) (Q : VK) (q : tE X.K W (eRg2 mk m n) [] σ H Q) : tRg2 (tE X.K W m l) (tE X.K W n k) σ H fun i j H1 => R0 i j H1 Q := by
  obtain ⟨B, Z, rt, e, r, q⟩ := q
  unfold eRg2 at q
  refine tE_go r (fun d hd => by rw [hd] at q; exact q) (fun hd => by rw [hd] at q; exact q) fun s x H1 hs sm r1 rs => ?_
  rw [hs, R.bind_ok] at q
  refine tE_go r1 (fun d hd c o H' sm' => by rw [hd] at q; exact (fun z9 => q c o H' (sm.trans sm') (z9.mo sm))) (fun hd => by rw [hd] at q; exact q) fun s2 y H2 hs2 sm2 r2 rs2 => ?_
  rw [hs2, R.bind_ok] at q
  cases hd : s.d with
  | int i =>
    cases hd2 : s2.d with
    | int j =>
      simp only [hd, hd2] at q
      obtain rfl := int_of rs hd
      obtain rfl := int_of rs2 hd2
      by_cases hb : -1000000 ≤ i ∧ i ≤ 1000000 ∧ -1000000 ≤ j ∧ j ≤ 1000000
      · rw [if_pos hb] at q
        have sm12 := sm.trans sm2
        exact ⟨i, j, rfl, rfl, hf (fun a => NZ W.g Z e rt [] H a) i j H2 Q (rgok hb) fun x H' sm' rs' => q x H' (sm12.trans sm') ((rs'.back sm12).mono fun a n => n.elim (fun z => z) fun z => .inr (.inl (sm12.free z)))⟩
      · rw [if_neg hb] at q
        exact q.elim
    | non => simp only [hd, hd2] at q
    | bl _ => simp only [hd, hd2] at q
    | str _ => simp only [hd, hd2] at q
    | tup _ => simp only [hd, hd2] at q
    | lst _ => simp only [hd, hd2] at q
    | scr _ => simp only [hd, hd2] at q
    | exc _ _ => simp only [hd, hd2] at q
    | jnk => simp only [hd, hd2] at q
  | non => simp only [hd] at q
  | bl _ => simp only [hd] at q
  | str _ => simp only [hd] at q
  | tup _ => simp only [hd] at q
  | lst _ => simp only [hd] at q
  | scr _ => simp only [hd] at q
  | exc _ _ => simp only [hd] at q
  | jnk => simp only [hd] at q
theorem x_listRg1 {p1 pos1 : Pos} (hc : X.calm = true) (hm : X.mg "list" = none) (hm2 : X.mg "range" = none) (ha : SE X W a m l) (hg : Gl X "list" := by rfl) (hg2 : Gl X "range" := by rfl) (na : starEach [.Call (.Name "range" p1) [a] [] pos1] X.env = (false, eval (.Call (.Name "range" p1) [a] [] pos1) X.env) :: starEach [] X.env := by rfl)
    (na2 : starEach [a] X.env = (false, eval a X.env) :: starEach [] X.env := by rfl) : SE X W (.Call (.Name "list" p) [.Call (.Name "range" p1) [a] [] pos1] [] pos) (eRg1 mkO m) [] :=
  PE.imp (pe_listRg hc hg hm (prg_1 hg2 hm2 ha na2) na) fun σ H Q q => rg1_sim (R0 := fun i j H1 Q => RgOk i j ∧ ∀ q, H1 q = none → Q (.ref q) (upd H1 q (.lst (rgV i j)))) (fun N i j H Q ok h => ⟨ok, fun p hp => ok_own h (rg_rep i j) hp⟩) σ H Q q
theorem x_tupRg1 {p1 pos1 : Pos} (hc : X.calm = true) (hm : X.mg "tuple" = none) (hm2 : X.mg "range" = none) (ha : SE X W a m l) (hg : Gl X "tuple" := by rfl) (hg2 : Gl X "range" := by rfl) (na : starEach [.Call (.Name "range" p1) [a] [] pos1] X.env = (false, eval (.Call (.Name "range" p1) [a] [] pos1) X.env) :: starEach [] X.env := by rfl)
    (na2 : starEach [a] X.env = (false, eval a X.env) :: starEach [] X.env := by rfl) : SE X W (.Call (.Name "tuple" p) [.Call (.Name "range" p1) [a] [] pos1] [] pos) (eRg1 mkT m) [] :=
  PE.imp (pe_tupRg hc hg hm (prg_1 hg2 hm2 ha na2) na) fun σ H Q q => rg1_sim (R0 := fun i j H1 Q => RgOk i j ∧ ∀ q, H1 q = none → Q (.ref q) (upd H1 q (.tup (rgV i j)))) (fun N i j H Q ok h => ⟨ok, fun p hp => ok_tup h (rg_rep i j) hp⟩) σ H Q q
theorem x_listRg2 {p1 pos1 : Pos} (hc : X.calm = true) (hm : X.mg "list" = none) (hm2 : X.mg "range" = none) (ha : SE X W a m l) (hb : SE X W b n k) (hg : Gl X "list" := by rfl) (hg2 : Gl X "range" := by rfl) (na : starEach [.Call (.Name "range" p1) [a, b] [] pos1] X.env = (false, eval (.Call (.Name "range" p1) [a, b] [] pos1) X.env) :: starEach [] X.env := by rfl)
    (na2 : starEach [a, b] X.env = (false, eval a X.env) :: starEach [b] X.env := by rfl) (nb : starEach [b] X.env = (false, eval b X.env) :: starEach [] X.env := by rfl) (hp : (backTo pos1 (starEach [b] X.env)).any (·.1) = false := by rfl) : SE X W (.Call (.Name "list" p) [.Call (.Name "range" p1) [a, b] [] pos1] [] pos) (eRg2 mkO m n) [] :=
  PE.imp (pe_listRg hc hg hm (prg_2 hg2 hm2 ha hb na2 nb hp) na) fun σ H Q q => rg2_sim (R0 := fun i j H1 Q => RgOk i j ∧ ∀ q, H1 q = none → Q (.ref q) (upd H1 q (.lst (rgV i j)))) (fun N i j H Q ok h => ⟨ok, fun p hp => ok_own h (rg_rep i j) hp⟩) σ H Q q

/-! zip, enumerate -/
theorem zipD_len : ∀ ds es : List D, (zipD ds es).length = min ds.length es.length
  | [], _ => by simp [zipD]
  | _ :: _, [] => by simp [zipD]
  | d :: ds, e :: es => by
    simp only [zipD, List.length_cons, zipD_len ds es]
    omega
theorem zipD_get : ∀ (ds es : List D) (i : Nat) (z : D), (zipD ds es)[i]? = some z → ∃ d e, ds[i]? = some d ∧ es[i]? = some e ∧ z = .tup [d, e]
  | [], _, _, _, h => by simp [zipD] at h
  | _ :: _, [], _, _, h => by simp [zipD] at h
  | d :: ds, e :: es, 0, z, h => by
    have h' : D.tup [d, e] = z := by simpa [zipD] using h
    exact ⟨d, e, rfl, rfl, h'.symm⟩
  | d :: ds, e :: es, i + 1, z, h => zipD_get ds es i z (by simpa [zipD] using h)
theorem enumD_len : ∀ (ds : List D) (k : Nat), (enumD k ds).length = ds.length
  | [], _ => rfl
  | d :: r, k => by simp only [enumD, List.length_cons, enumD_len r]
theorem enumD_get : ∀ (ds : List D) (k i : Nat) (z : D), (enumD k ds)[i]? = some z → ∃ d, ds[i]? = some d ∧ z = .tup [.int ((k + i : Nat) : Int), d]
  | [], _, _, _, h => by simp [enumD] at h
  | d :: r, k, 0, z, h => by
    have h' : D.tup [.int k, d] = z := by simpa [enumD] using h
    exact ⟨d, rfl, h'.symm⟩
  | d :: r, k, i + 1, z, h => by
    obtain ⟨c, h1, h2⟩ := enumD_get r (k + 1) i z (by simpa [enumD] using h)
    exact ⟨c, by simpa using h1, by rw [h2, Nat.add_assoc, Nat.add_comm 1 i]⟩
section
variable {K : PySem.W.Frag} {N : Addr → Prop} {H : Hp} {ds es : List D} {u v : Addr} {xs ys : List V}
theorem it_zipL (hn : N u) (hu : H u = some (.lst xs)) (r : RepL K N H ds xs) (hn2 : N v) (hv : H v = some (.lst ys)) (s : RepL K N H es ys) : ItRep K N H (zipD ds es) (Itz K u v) := by
  have at1 : ∀ {H2 : Hp}, Kp N H H2 → SqL K H2 u xs := fun k => .inl (.inl (k.1 _ _ hn hu))
  have at2 : ∀ {H2 : Hp}, Kp N H H2 → SqL K H2 v ys := fun k => .inl (.inl (k.1 _ _ hn2 hv))
  refine ⟨fun i H2 k hi => ?_, fun i H2 x H3 d k hd ⟨T, y1, y2, ex, hT, e3, f1, f2⟩ => ?_, fun i H2 k hi _ => ⟨xs, ys, at1 k, at2 k, ?_⟩⟩
  · rw [zipD_len] at hi
    have h1 : i < xs.length := by rw [r.length]; omega
    have h2 : i < ys.length := by rw [s.length]; omega
    exact ⟨xs, ys, _, _, at1 k, at2 k, List.getElem?_eq_getElem h1, List.getElem?_eq_getElem h2⟩
  · subst ex e3
    obtain ⟨d1, d2, h1, h2, rfl⟩ := zipD_get ds es i d hd
    obtain ⟨w1, g1, k1⟩ := r.get h1
    obtain ⟨w2, g2, k2⟩ := s.get h2
    have e1 := (f1 xs (at1 k)).symm.trans g1
    have e2 := (f2 ys (at2 k)).symm.trans g2
    cases e1
    cases e2
    exact ⟨same_new hT, T, _, rfl, upd_same, _, _, rfl, (k1.kp k).same (same_new hT), _, _, rfl, (k2.kp k).same (same_new hT), rfl⟩
  · rw [zipD_len] at hi
    rw [r.length, s.length]
    omega
theorem it_zipT (hu : H u = some (.tup xs)) (r : RepL K N H ds xs) (hv : H v = some (.tup ys)) (s : RepL K N H es ys) : ItRep K N H (zipD ds es) (RZ.ItzT K u v) := by
  have at1 : ∀ {H2 : Hp}, Kp N H H2 → SqT K H2 u xs := fun k => sqt (k.2.rd hu)
  have at2 : ∀ {H2 : Hp}, Kp N H H2 → SqT K H2 v ys := fun k => sqt (k.2.rd hv)
  refine ⟨fun i H2 k hi => ?_, fun i H2 x H3 d k hd ⟨T, y1, y2, ex, hT, e3, f1, f2⟩ => ?_, fun i H2 k hi _ => ⟨xs, ys, at1 k, at2 k, ?_⟩⟩
  · rw [zipD_len] at hi
    have h1 : i < xs.length := by rw [r.length]; omega
    have h2 : i < ys.length := by rw [s.length]; omega
    exact ⟨xs, ys, _, _, at1 k, at2 k, List.getElem?_eq_getElem h1, List.getElem?_eq_getElem h2⟩
  · subst ex e3
    obtain ⟨d1, d2, h1, h2, rfl⟩ := zipD_get ds es i d hd
    obtain ⟨w1, g1, k1⟩ := r.get h1
    obtain ⟨w2, g2, k2⟩ := s.get h2
    have e1 := (f1 xs (at1 k)).symm.trans g1
    have e2 := (f2 ys (at2 k)).symm.trans g2
    cases e1
    cases e2
    exact ⟨same_new hT, T, _, rfl, upd_same, _, _, rfl, (k1.kp k).same (same_new hT), _, _, rfl, (k2.kp k).same (same_new hT), rfl⟩
  · rw [zipD_len] at hi
    rw [r.length, s.length]
    omega
theorem it_enum (hn : N u) (hu : H u = some (.lst xs)) (r : RepL K N H ds xs) : ItRep K N H (enumD 0 ds) (Ite K u) := by
  have at1 : ∀ {H2 : Hp}, Kp N H H2 → SqL K H2 u xs := fun k => .inl (.inl (k.1 _ _ hn hu))
  refine ⟨fun i H2 k hi => ?_, fun i H2 x H3 d k hd ⟨T, y1, ex, hT, e3, f1⟩ => ?_, fun i H2 k hi _ => ⟨xs, at1 k, ?_⟩⟩
  · rw [enumD_len] at hi
    have h1 : i < xs.length := by rw [r.length]; omega
    exact ⟨xs, _, at1 k, List.getElem?_eq_getElem h1⟩
  · subst ex e3
    obtain ⟨d1, h1, rfl⟩ := enumD_get ds 0 i d hd
    obtain ⟨w1, g1, k1⟩ := r.get h1
    have e1 := (f1 xs (at1 k)).symm.trans g1
    cases e1
    rw [Nat.zero_add]
    exact ⟨same_new hT, T, _, rfl, upd_same, _, _, rfl, rfl, _, _, rfl, (k1.kp k).same (same_new hT), rfl⟩
  · rw [enumD_len] at hi
    rw [r.length]
    exact hi
end
theorem i_zip {elts : List Expr} {kk : Nat} {tpos : Pos} (hm : X.mg "zip" = none) (ha : SE X W a m l) (hb : SE X W b n k) (hg : Gl X "zip" := by rfl) (he : starEach [a, b] X.env = (false, eval a X.env) :: starEach [b] X.env := by rfl) (he2 : starEach [b] X.env = (false, eval b X.env) :: starEach [] X.env := by rfl)
    (hpl : (backTo pos (starEach [b] X.env)).any (·.1) = false := by rfl) : SI X W (.Tuple elts kk tpos) (.Call (.Name "zip" p) [a, b] [] pos) (aZip m n) (l ++ k) := by
  refine PI.imp (RZ.pi_zipA hg hm (pa_cons ha (pa_cons hb pa_nil he2) he) he hpl) fun σ H R0 ⟨B, Z, rt, e, r, q⟩ => ?_
  unfold aZip at q
  refine tE_go r (fun d hd => by rw [hd] at q; exact q) (fun hd => by rw [hd] at q; exact q) fun s x H1 hs sm r1 rs => ?_
  rw [hs, R.bind_ok] at q
  refine tE_go r1 (fun d hd c o H' sm' => by rw [hd] at q; exact (fun z9 => q c o H' (sm.trans sm') (z9.mo sm))) (fun hd => by rw [hd] at q; exact q) fun s2 y H2 hs2 sm2 r2 rs2 => ?_
  rw [hs2, R.bind_ok] at q
  have rd := ((rs.mono fun a z => NZ.mono (l' := l ++ k) (fun i hi => List.mem_append_left _ hi) z).d fun a z => .inr (.inl z)).same sm2
  have rd2 := (rs2.mono fun a z => (NZ.mono (l' := l ++ k) (fun i hi => List.mem_append_right _ hi) z).back sm).d fun a z => .inr (.inl (sm.free z))
  have al : ∀ {ds : List D} {xs : List V}, RepL X.K (NZ W.g Z e rt (l ++ k) H) H2 ds xs → RepL X.K (fun a => NZ W.g Z e rt (l ++ k) H a ∧ H2 a ≠ none) H2 ds xs := fun h => repL_alloc h
  cases hd : s.d <;> cases hd2 : s2.d <;> simp only [hd, hd2] at q
  case lst.lst ds es =>
    rw [hd] at rd
    rw [hd2] at rd2
    obtain ⟨u, xs, rfl, ⟨n1, h1⟩, g1⟩ := rd
    obtain ⟨v, ys, rfl, ⟨n2, h2⟩, g2⟩ := rd2
    exact ⟨u, v, xs, ys, rfl, .inl ⟨.inl (.inl h1), .inl (.inl h2), q _ H2 (sm.trans sm2) (it_zipL ⟨n1, by rw [h1]; exact nofun⟩ h1 (al g1) ⟨n2, by rw [h2]; exact nofun⟩ h2 (al g2))⟩⟩
  case tup.tup ds es =>
    rw [hd] at rd
    rw [hd2] at rd2
    obtain ⟨u, xs, rfl, h1, g1⟩ := rd
    obtain ⟨v, ys, rfl, h2, g2⟩ := rd2
    exact ⟨u, v, xs, ys, rfl, .inr ⟨sqt h1, sqt h2, q _ H2 (sm.trans sm2) (it_zipT h1 (al g1) h2 (al g2))⟩⟩
theorem i_enum {elts : List Expr} {kk : Nat} {tpos : Pos} (hm : X.mg "enumerate" = none) (ha : SE X W a m l) (hg : Gl X "enumerate" := by rfl) (he : starEach [a] X.env = (false, eval a X.env) :: starEach [] X.env := by rfl) (hs : starEach [a] X.env = [(false, eval a X.env)] := by rfl) :
    SI X W (.Tuple elts kk tpos) (.Call (.Name "enumerate" p) [a] [] pos) (aEnum m) l := by
  refine PI.imp (pi_enum hg hm (pa_cons ha pa_nil he) he) fun σ H R0 ⟨B, Z, rt, e, r, q⟩ => ?_
  unfold aEnum at q
  refine tE_go r (fun d hd => by rw [hd] at q; exact q) (fun hd => by rw [hd] at q; exact q) fun s x H1 hs sm r1 rs => ?_
  rw [hs, R.bind_ok] at q
  have rd := rs.d (N := NZ W.g Z e rt l H) fun a z => .inr (.inl z)
  cases hd : s.d <;> simp only [hd] at q
  case lst ds =>
    rw [hd] at rd
    obtain ⟨u, xs, rfl, ⟨n1, h1⟩, g1⟩ := rd
    exact ⟨u, xs, rfl, .inl (.inl h1), q _ H1 sm (it_enum ⟨n1, by rw [h1]; exact nofun⟩ h1 (repL_alloc g1))⟩

/-! isinstance(x, T) -/
def isT (d : D) : Option String := match d with
  | .non => some "NoneType"
  | .bl _ => some "bool"
  | .int _ => some "int"
  | .str _ => some "str"
  | .tup _ => some "tuple"
  | .lst _ => some "list"
  | _ => none
theorem tyx {K : PySem.W.Frag} {N : Addr → Prop} {H : Hp} {d : D} {x : V} (r : Rep K N H d x) {T : String} (h : isT d = some T) : TyX K H x (.type T) := by
  cases d with
  | non => cases h; obtain rfl : x = .non := r; exact .base .non
  | bl b => cases h; obtain rfl : x = .bl b := r; exact .base (.bl b)
  | int i => cases h; obtain rfl : x = .int i := r; exact .base (.int i)
  | str s => cases h; obtain rfl : x = .str ⟨s.toArray⟩ := r; exact .base (.str _)
  | tup ds =>
    cases h
    obtain ⟨a, xs, rfl, hs, _⟩ := r
    exact .base (.tup hs)
  | lst ds => cases h; obtain ⟨a, xs, rfl, ⟨_, hs⟩, _⟩ := r; exact .base (.lst hs)
  | scr ns => cases h
  | exc c fs => cases h
  | jnk => cases h
def eIs (c : String) (m : Ex) : Ex := fun e => (m e).bind fun s => match isT s.d with
  | some T => (match kitB T c with
    | some b => .ok (.val (.bl b))
    | none => .bad)
  | none => .bad
theorem x_is {cn : Str} (cs : String) {pt : Pos} (hm : X.mg "isinstance" = none) (hm2 : X.mg cn = none) (hv2 : bootBuiltins cn = some (.type cs)) (ha : SE X W a m l) (hg : Gl X "isinstance" := by rfl) (hg2 : Gl X cn := by rfl) (hn : cn ≠ "__name__" := by decide) (hdb : (cn == ("__debug__" : Str)) = false := by decide)
    (he : starEach [a, .Name cn pt] X.env = (false, eval a X.env) :: starEach [.Name cn pt] X.env := by rfl) (he2 : starEach [.Name cn pt] X.env = (false, eval (.Name cn pt) X.env) :: starEach [] X.env := by rfl) (hpl : (backTo pos (starEach [.Name cn pt] X.env)).any (·.1) = false := by rfl) :
    SE X W (.Call (.Name "isinstance" p) [a, .Name cn pt] [] pos) (eIs cs m) [] := by
  refine PE.imp (pe_callB call_isi hg hm (by decide +kernel) (pa_cons ha (pa_cons (pe_bltn (v := .ty cs) hg2 hm2 hv2 rfl hn hdb) pa_nil he2) he) (by decide) (by decide) he hpl) fun σ H Q ⟨B, Z, rt, e, r, q⟩ => ?_
  unfold eIs at q
  refine tE_go r (fun d hd => by rw [hd] at q; exact q) (fun hd => by rw [hd] at q; exact q) fun s x H1 hs sm r1 rs => ?_
  rw [hs, R.bind_ok] at q
  have rd := rs.d (N := NZ W.g Z e rt l H) fun a z => .inr (.inl z)
  cases hT : isT s.d with
  | none => simp only [hT] at q
  | some T =>
    simp only [hT] at q
    cases hb : kitB T cs with
    | none => simp only [hb] at q
    | some b =>
      simp only [hb] at q
      exact ⟨x, .ty cs, .type T, .type cs, b, rfl, .ty cs, tyx rd hT, kit_ty hb, q _ H1 sm rfl⟩

end
end Tg

/-! Tg, part 15: defs by name; the law's end. -/
namespace Tg
open PySem PySem.Spec PyProof.Rows L2

/-- what the top has written of a def -/
structure Has (K : PySem.W.Frag) (mg : Str → Option Value) (x : Str) (st : Stmt) (ps : List Str) (f : Addr) (fd : FuncData) : Prop where
  m : mg x = some (.ref f)
  fn : Fun K x x st f fd
  b : Binds K fd ps []
/-- a def that can be called: it does what F does -/
def CalG (fr : Bool) (P : Program) (w : World) (K : PySem.W.Frag) (mg : Str → Option Value) (base : Heap) (xr : Hp → D → Value → Option Addr → Hp → Prop) (k : Nat) (x : Str) (F : List D → R S) (n : Nat) : Prop :=
  ∃ f fd ps, FnOk P w K mg base (L2.CX P w) k f fd ps (spF K xr fr F n) ∧ mg x = some (.ref f) ∧ PySem.W.keepIn K (.ref f) = true ∧ Binds K fd ps []

abbrev Cal := CalG false
/-- whose result shares nothing with what was handed in -/
abbrev CalF := CalG true
section
variable {X : Cx} {W : Wi} {x : Str} {e : Expr} {es : List Expr} {m : Ax} {l : List Nat} {p pos : Pos} {k lev n : Nat} {F : List D → R S} {xr : Hp → D → Value → Option Addr → Hp → Prop}
theorem x_cal (C : Cal X.prog X.w X.K X.mg X.base xr lev x F n) (hr : Room k X.A) (hk : lev ≤ k) (tk : Takes X W.w) (hxr : ∀ H0 d c o H, xr H0 d c o H → W.xr H0 d c o H) (ha : SA X W (e :: es) m l)
    (hl : ∀ e ds, m e = .ok ds → ds.length = n) (hg : Gl X x := by rfl) (hdb : (x == ("__debug__" : Str)) = false := by decide) (he : starEach (e :: es) X.env = (false, eval e X.env) :: starEach es X.env := by rfl) (hpl : (backTo pos (starEach es X.env)).any (·.1) = false := by rfl) :
    SE X W (.Call (.Name x p) (e :: es) [] pos) (eCall F m) l := by
  obtain ⟨f, fd, ps, G, hm, kp, hb⟩ := C
  exact x_callG (.inr fun j hj => hj) G (hr.mono hk) hm kp hb tk hxr ha hl hg hdb he hpl
theorem x_calF (C : CalF X.prog X.w X.K X.mg X.base xr lev x F n) (hr : Room k X.A) (hk : lev ≤ k) (tk : Takes X W.w) (hxr : ∀ H0 d c o H, xr H0 d c o H → W.xr H0 d c o H) (ha : SA X W (e :: es) m l)
    (hl : ∀ e ds, m e = .ok ds → ds.length = n) (hg : Gl X x := by rfl) (hdb : (x == ("__debug__" : Str)) = false := by decide) (he : starEach (e :: es) X.env = (false, eval e X.env) :: starEach es X.env := by rfl) (hpl : (backTo pos (starEach es X.env)).any (·.1) = false := by rfl) :
    SE X W (.Call (.Name x p) (e :: es) [] pos) (eCall F m) [] := by
  obtain ⟨f, fd, ps, G, hm, kp, hb⟩ := C
  exact x_callG (.inl rfl) G (hr.mono hk) hm kp hb tk hxr ha hl hg hdb he hpl
end
section
variable {P : Program} {w : World} {K : PySem.W.Frag} {mg : Str → Option Value} {base : Heap} {xr : Hp → D → Value → Option Addr → Hp → Prop}
theorem def_calG {x : Str} {st : Stmt} {f : Addr} {fd : FuncData} {N ps : List Str} {k n : Nat} {M : Sx} (G : Nat → Nat) (fr : Bool) (h : Has K mg x st ps f fd) (Sc : FnScope N ps (defScope st)) (hn : ps.length = n) (hG : (List.range n).all (fun i => G i == 0) = true)
    (hb : ∀ (cdv : Value) (A : Around) (outer : List Env) (s : Shared) (H : Hp) (E : XK) (Z0 : Addr → Prop), Room k (A.deeper (envOfC x (defScope st) s.heap.objs.size f cdv)) →
      SB (cxOf (L2.CX P w) P w K mg base N x (defScope st) f cdv A outer s H E) ⟨xr, fun c o _ H => E c o H, G, fr⟩ H Z0 [] (defBody st) M) : CalG fr P w K mg base xr (k + 1) x (runB N.length M) n :=
  ⟨f, fd, ps, fun_ok h.fn Sc hn hG hb, h.m, h.fn.kp, h.b⟩
theorem def_cal {x : Str} {st : Stmt} {f : Addr} {fd : FuncData} {N ps : List Str} {k n : Nat} {M : Sx} (h : Has K mg x st ps f fd) (Sc : FnScope N ps (defScope st)) (hn : ps.length = n)
    (hb : ∀ (cdv : Value) (A : Around) (outer : List Env) (s : Shared) (H : Hp) (E : XK) (Z0 : Addr → Prop), Room k (A.deeper (envOfC x (defScope st) s.heap.objs.size f cdv)) →
      SB (cxOf (L2.CX P w) P w K mg base N x (defScope st) f cdv A outer s H E) ⟨xr, fun c o _ H => E c o H, fun _ => 0, false⟩ H Z0 [] (defBody st) M) : Cal P w K mg base xr (k + 1) x (runB N.length M) n :=
  def_calG (fun _ => 0) false h Sc hn (List.all_eq_true.mpr fun i _ => rfl) hb
/-- nothing is promised -/
theorem bad_cal {fr : Bool} {x : Str} {st : Stmt} {f : Addr} {fd : FuncData} {ps : List Str} {n : Nat} (h : Has K mg x st ps f fd) (hn : ps.length = n) : CalG fr P w K mg base xr 0 x (fun _ => .bad) n :=
  ⟨f, fd, ps, ⟨fun vs H Q E ⟨_, _, hl, _⟩ => hl.trans hn.symm, fun A outer s H args us vs Q E hr he hb hv ⟨_, _, _, _, q⟩ => q.elim⟩, h.m, h.fn.kp, h.b⟩
theorem CalG.congr {fr : Bool} {x : Str} {k n : Nat} {F G : List D → R S} (h : ∀ ds, F ds = G ds) (C : CalG fr P w K mg base xr k x F n) : CalG fr P w K mg base xr k x G n := by
  have e : F = G := funext h
  rw [← e]
  exact C
theorem CalG.mono {fr : Bool} {x : Str} {j k n : Nat} {F : List D → R S} (C : CalG fr P w K mg base xr j x F n) (h : j ≤ k) : CalG fr P w K mg base xr k x F n := by
  obtain ⟨f, fd, ps, G, hm, kp, hb⟩ := C
  exact ⟨f, fd, ps, G.mono h, hm, kp, hb⟩
end
theorem has_of {K : PySem.W.Frag} {h : Heap} {mg : Str → Option Value} (X : K.In h) (G : h.Ns mainGlobals mg) {x : Str} {st : Stmt} {ps : List Str} {f : Addr} {od an : Option Addr} {sl : Array (Option Value)} {oc kV dc pm cd ct : Value}
    (a : PySem.W.nsIn K mainGlobals x = some (some (.ref f))) (l : K.lookup f = some ⟨oc, od, .func (PySem.W.fnOf x x (defArgs st) (defBody st) (defScope st) .none kV dc pm an cd ct), sl⟩) (c : PySem.W.codeIn K cd x = true) (k : PySem.W.keepIn K (.ref f) = true)
    (b : Fun K x x st f (PySem.W.fnOf x x (defArgs st) (defBody st) (defScope st) .none kV dc pm an cd ct) → Binds K (PySem.W.fnOf x x (defArgs st) (defBody st) (defScope st) .none kV dc pm an cd ct) ps []) :
    Has K mg x st ps f (PySem.W.fnOf x x (defArgs st) (defBody st) (defScope st) .none kV dc pm an cd ct) :=
  ⟨PySem.W.mg_of X G a, fun_mk l c k, b (fun_mk l c k)⟩

theorem Hu {k : Nat} {A : Around} (r : Room k A) : A.units + 65 < cLine := by have := r.un; omega
theorem cx_end {P : Program} {w : World} {H : Hp} {s : Shared} {e : Value} {s' : Shared} (h : L2.CX P w [] H s (fun _ _ _ => False) e s') : False := by
  obtain ⟨_, _, _, _, _, _, _, _, _, _, _, _, z⟩ := h
  exact z
/-- which exceptions may leave a def: own ones; what their fields bear is younger than H0 -/
def XR (K : PySem.W.Frag) (H0 : Hp) (d : D) (c : Value) (o : Option Addr) (H : Hp) : Prop := match d with
  | .exc nm fs => (∃ C, c = .ref C ∧ PySem.W.nsIn K mainGlobals (Str.ofString nm) = some (some (.ref C))) ∧ ((fs = [] ∧ (o = none ∨ ∃ dd gs, o = some dd ∧ H dd = some (.xd gs))) ∨ (fs ≠ [] ∧ ∃ dd xs, o = some dd ∧ H dd = some (.xd ((fnames nm).zip xs)) ∧ RepL K (fun a => H0 a = none) H fs xs))
  | _ => False
/-- what the law promises -/
def spLaw (K : PySem.W.Frag) : Sp := fun vs H Q _ => ∃ (a : Addr) (ns : List Int), vs = [.ref a] ∧ Scr K H a (ns.map V.int) ∧ ns.length ≤ 63 ∧ ∀ H', Q (.bl true) H'
theorem law_fn {P : Program} {w : World} {K : PySem.W.Frag} {mg : Str → Option Value} {base : Heap} {xr : Hp → D → Value → Option Addr → Hp → Prop} {x : Str} {st : Stmt} {f : Addr} {fd : FuncData} {N ps : List Str} {k : Nat} {M : Sx} {G : Nat → Nat} (h : Has K mg x st ps f fd) (Sc : FnScope N ps (defScope st)) (hn : ps.length = 1) (hG : (G 0 == 0) = true)
    (hb : ∀ (cdv : Value) (A : Around) (outer : List Env) (s : Shared) (H : Hp) (E : XK) (Z0 : Addr → Prop), Room k (A.deeper (envOfC x (defScope st) s.heap.objs.size f cdv)) →
      SB (cxOf (L2.CX P w) P w K mg base N x (defScope st) f cdv A outer s H E) ⟨xr, fun c o _ H => E c o H, G, false⟩ H Z0 [] (defBody st) M)
    (T : ∀ ns : List Int, ns.length ≤ 63 → runB N.length M [.scr ns] = .ok (.val (.bl true))) : FnOk P w K mg base (L2.CX P w) (k + 1) f fd ps (spLaw K) := by
  refine (fun_ok h.fn Sc hn (by simpa using hG) hb).imp fun vs H Q E ⟨a, ns, e, hS, hl, q⟩ => ?_
  subst e
  refine ⟨fun _ => False, [.scr ns], rfl, ⟨_, _, rfl, ⟨a, rfl, hS⟩, rfl⟩, ?_⟩
  rw [T ns hl]
  intro v H' sm rs
  obtain rfl : v = .bl true := rs
  exact q H'
theorem law_in {K : PySem.W.Frag} {H : Hp} {a : Addr} {ns : List Int} (hl : ns.length ≤ 63) (hO : L2.Only H) (hS : SqL K H a (ns.map V.int)) : spLaw K [.ref a] H (fun v _ => v = .bl true) fun _ _ _ => False := by
  refine ⟨a, ns, rfl, ?_, hl, fun _ => rfl⟩
  rcases hS with (h | h) | h
  · rcases hO a with o | ⟨o, xs, e⟩
    · rw [o] at h; cases h
    · rw [e] at h; cases h
  · exact .inl h
  · exact .inr h
end Tg

/-! Tg, part 15b: join, find, index; reads of constant dicts. -/
namespace Tg
open PySem PySem.Spec PyProof.Rows L2

def D.isS : D → Bool
  | .str _ => true
  | _ => false
def D.isL : D → Bool
  | .lst _ => true
  | _ => false
/-- a method of one argument: what it is asked of is looked at first -/
def eM (g : D → Bool) (f : D → D → R S) (a b : Ex) : Ex := fun e => (a e).bind fun x => if g x.d = true then (b e).bind fun y => f x.d y.d else .bad

section
variable {X : Cx} {W : Wi} {a b c : Expr} {m n : Ex} {l k : List Nat} {pos apos cpos : Pos}
theorem simM {g : D → Bool} {T : V → Hp → Prop} {r : R2} {f : D → D → R S} (o : Op2 X.K r f) (hx : NoEx2 f) (hT : ∀ N H d x, g d = true → Rep X.K N H d x → T x H) (σ : L2.St) (H : Hp) (Q : VK) (q : tE X.K W (eM g f m n) (l ++ k) σ H Q) :
    tE X.K W m l σ H fun x H1 => T x H1 ∧ tE X.K W n k σ H1 fun y H2 => r x y H2 Q := by
  obtain ⟨B, Z, rt, e, r0, q⟩ := q
  unfold eM at q
  refine tE_go r0 (fun d hd => by rw [hd] at q; exact q) (fun hd => by rw [hd] at q; exact q) fun s x H1 hs sm1 r1 rs => ?_
  rw [hs, R.bind_ok] at q
  by_cases hg : g s.d = true
  case neg => rw [if_neg hg] at q; exact q.elim
  rw [if_pos hg] at q
  have e0 : Rep X.K (NZ W.g Z e rt (l ++ k) H) H1 s.d x := (rs.mono fun a z => NZ.mono (fun i hi => List.mem_append_left _ hi) z).d fun a z => .inr (.inl z)
  refine ⟨hT _ _ _ _ hg e0, ?_⟩
  refine tE_go r1 (fun d hd c o H' sm => by
    rw [hd] at q
    exact (fun z9 => q c o H' (sm1.trans sm) (z9.mo sm1))) (fun hd => by rw [hd] at q; exact q) fun s2 y H2 hs2 sm2 r2 rs2 => ?_
  rw [hs2, R.bind_ok] at q
  have e1 : Rep X.K (NZ W.g Z e rt (l ++ k) H) H2 s.d x := e0.same sm2
  have e2 : Rep X.K (NZ W.g Z e rt (l ++ k) H) H2 s2.d y := (rs2.mono fun a z => (NZ.mono (fun i hi => List.mem_append_right _ hi) z).back sm1).d fun a z => .inr (.inl (sm1.free z))
  refine o _ H2 _ _ x y Q e1 e2 (okR_of (N' := NZ W.g Z e rt (l ++ k) H) (fun h => by rw [h] at q; exact q) (hx _ _) (fun a z => ?_) fun s3 h3 x3 H3 sm3 rs3 => ?_)
  · rcases z with z | z
    · exact z
    · exact .inr (.inl ((sm1.trans sm2).free z))
  · rw [h3] at q
    exact q x3 H3 ((sm1.trans sm2).trans sm3) (rs3.back (sm1.trans sm2))
theorem fl_eM {g : D → Bool} {f : D → D → R S} (h : Fl2 f) : ∀ e s, eM g f m n e = .ok s → ∃ d, s = .val d ∧ d.flat = true := fun e s q => by
  unfold eM at q
  cases hm : m e with
  | bad => rw [hm] at q; cases q
  | ex d => rw [hm] at q; cases q
  | ok x =>
    rw [hm, R.bind_ok] at q
    split at q
    · cases hn : n e with
      | bad => rw [hn] at q; cases q
      | ex d => rw [hn] at q; cases q
      | ok y =>
        rw [hn, R.bind_ok] at q
        exact h _ _ _ q
    · cases q
theorem str_is : ∀ (N : Addr → Prop) (H : Hp) (d : D) (x : V), D.isS d = true → Rep X.K N H d x → ∃ a, x = .str a := fun N H d x h r => by
  cases d <;> first | cases h | skip
  exact ⟨_, r⟩
theorem lst_is : ∀ (N : Addr → Prop) (H : Hp) (d : D) (x : V), D.isL d = true → Rep X.K N H d x → tyV X.K "list" x H := fun N H d x h r => by
  cases d <;> first | cases h | skip
  obtain ⟨a, xs, rfl, ⟨_, hs⟩, _⟩ := r
  exact .inl ⟨rfl, xs, .inl (.inl hs)⟩

/-! sep.join(xs) -/
theorem tl_mk (s : List Nat) : TL.tl (⟨s.toArray⟩ : Str) = s := rfl
theorem joinL_eq (sep : List Nat) : ∀ xs : List (List Nat), TL.joinL sep xs = joinL sep xs
  | [] => rfl
  | [x] => rfl
  | x :: y :: r => by
    show x ++ (sep ++ TL.joinL sep (y :: r)) = x ++ sep ++ joinL sep (y :: r)
    rw [joinL_eq sep (y :: r), List.append_assoc]
theorem txt_join (sep : List Nat) (xs : List (List Nat)) : Txt.join ⟨sep.toArray⟩ (xs.map fun s => (⟨s.toArray⟩ : Str)) = ⟨(joinL sep xs).toArray⟩ := by
  have h : TL.tl (Txt.join ⟨sep.toArray⟩ (xs.map fun s => (⟨s.toArray⟩ : Str))) = joinL sep xs := by
    rw [TL.join_eq, TL.tl_join, tl_mk, List.map_map, ← joinL_eq]
    congr 1
    induction xs with
    | nil => rfl
    | cons x r ih => rw [List.map_cons, ih]; rfl
  generalize Txt.join ⟨sep.toArray⟩ (xs.map fun s => (⟨s.toArray⟩ : Str)) = z at h
  cases z with
  | mk cps => cases cps; cases h; rfl
theorem strs_rep {K : PySem.W.Frag} {N : Addr → Prop} {H : Hp} : ∀ {ss : List (List Nat)} {xs : List V}, RepL K N H (ss.map D.str) xs → xs = (ss.map fun s => (⟨s.toArray⟩ : Str)).map V.str
  | [], xs, h => h
  | s :: r, xs, h => by
    obtain ⟨y, ys, rfl, h1, h2⟩ := h
    rw [strs_rep h2]
    cases h1
    rfl
theorem lens_le : ∀ xs : List (List Nat), (∀ x ∈ xs, x.length ≤ 1000) → ((xs.map fun s => (⟨s.toArray⟩ : Str)).map (·.length)).sum ≤ xs.length * 1000
  | [], _ => Nat.le_refl _
  | x :: r, h => by
    have ih := lens_le r fun y hy => h y (List.mem_cons_of_mem _ hy)
    have hx : (⟨x.toArray⟩ : Str).length ≤ 1000 := h x List.mem_cons_self
    simp only [List.map_cons, List.sum_cons, List.length_cons]
    omega
theorem o_join {K : PySem.W.Frag} : Op2 K (fun x y H Q => ∃ a p, ∃ ys : List Str, x = .str a ∧ [y] = [.ref p] ∧ (SqL K H p (ys.map V.str) ∨ SqT K H p (ys.map V.str)) ∧
      (ys.map (·.length)).sum + ys.length * a.length ≤ 16777216 ∧ Q (.str (Txt.join a ys)) H) oJoin := by
  intro N H d c x y Q rd rc h
  cases d <;> first | exact False.elim h | skip
  rename_i sep
  cases c <;> first | exact False.elim h | skip
  rename_i ds
  obtain rfl : x = .str ⟨sep.toArray⟩ := rd
  obtain ⟨p, xs, rfl, ⟨_, hs⟩, hr⟩ := rc
  unfold oJoin at h
  cases hd : D.strs ds with
  | none => simp only [hd] at h; exact h.elim
  | some ss =>
    simp only [hd] at h
    by_cases hc : ss.length ≤ 1000 ∧ (∀ x ∈ ss, x.length ≤ 1000) ∧ sep.length ≤ 1000
    case neg => rw [if_neg hc] at h; exact h.elim
    rw [if_pos hc] at h
    have e := strs_some hd
    subst e
    have ex := strs_rep hr
    subst ex
    refine ⟨_, p, _, rfl, rfl, .inl (.inl (.inl hs)), ?_, h _ H (Same.refl H) ?_⟩
    · have h1 := lens_le ss hc.2.1
      have h2 : (⟨sep.toArray⟩ : Str).length ≤ 1000 := hc.2.2
      have h3 : (ss.map fun s => (⟨s.toArray⟩ : Str)).length * (⟨sep.toArray⟩ : Str).length ≤ 1000 * 1000 := Nat.mul_le_mul (by rw [List.length_map]; exact hc.1) h2
      have h4 : ss.length * 1000 ≤ 1000 * 1000 := Nat.mul_le_mul_right _ hc.1
      omega
    · show V.str _ = _
      rw [txt_join]
theorem nx_join : NoEx2 oJoin := by
  intro d c e h
  unfold oJoin at h
  split at h <;> (try split at h) <;> (try split at h) <;> cases h
theorem fl_join : Fl2 oJoin := by
  intro d c s h
  unfold oJoin at h
  split at h <;> (try split at h) <;> (try split at h) <;> cases h <;> exact ⟨_, rfl, rfl⟩
theorem x_join (ha : SE X W a m l) (hb : SE X W b n k) (hs : starEach [b] X.env = [(false, eval b X.env)] := by rfl) (hbase : attributeBase a "join" X.env (eval a X.env) = eval a X.env := by rfl) (hline : (apos.endLine == pos.line) = true := by rfl) :
    SE X W (.Call (.Attribute a "join" apos) [b] [] pos) (eM D.isS oJoin m n) [] :=
  x_flat (PE.imp (pe_join ha hb hs hbase hline) fun σ H Q q => simM o_join nx_join str_is σ H Q q) (fl_eM fl_join)

/-! s.find(c), c one sign -/
theorem findN_spec (c : Nat) : ∀ (s : List Nat) (k : Nat), (findN c k s = -1 ∧ ∀ i : Nat, s[i]? ≠ some c) ∨ ∃ i : Nat, findN c k s = ((k + i : Nat) : Int) ∧ s[i]? = some c ∧ ∀ j, j < i → s[j]? ≠ some c
  | [], k => .inl ⟨rfl, fun i => by simp⟩
  | x :: r, k => by
    by_cases h : x = c
    · refine .inr ⟨0, by rw [findN, if_pos h]; rfl, by rw [h]; rfl, fun j hj => by omega⟩
    · rcases findN_spec c r (k + 1) with ⟨h1, h2⟩ | ⟨i, h1, h2, h3⟩
      · refine .inl ⟨by rw [findN, if_neg h, h1], fun i => ?_⟩
        cases i with
        | zero => simpa using h
        | succ i => simpa using h2 i
      · refine .inr ⟨i + 1, by rw [findN, if_neg h, h1]; congr 1; omega, by simpa using h2, fun j hj => ?_⟩
        cases j with
        | zero => simpa using h
        | succ j => simpa using h3 j (by omega)
theorem txt_find (s : List Nat) (c : Nat) : (Txt.find (⟨s.toArray⟩ : Str) ⟨#[c]⟩ : Int) = findN c 0 s := by
  have at_iff : ∀ i, StrLaws.At (⟨s.toArray⟩ : Str) ⟨#[c]⟩ (⟨s.toArray⟩ : Str).length i ↔ s[i]? = some c := fun i => StrLaws.subAt_one (⟨s.toArray⟩ : Str) c i
  unfold Txt.find
  rcases StrLaws.occ_head (⟨s.toArray⟩ : Str) ⟨#[c]⟩ 1 (Nat.le_refl 1) with ⟨h1, h2⟩ | ⟨i, r, h1, h2, h3⟩
  · rcases findN_spec c s 0 with ⟨g1, g2⟩ | ⟨i, g1, g2, g3⟩
    · rw [g1]
      rw [h1]
    · exact absurd ((at_iff i).mpr g2) (h2 i)
  · rcases findN_spec c s 0 with ⟨g1, g2⟩ | ⟨j, g1, g2, g3⟩
    · exact absurd ((at_iff i).mp h2) (g2 i)
    · rw [g1]
      have e : i = 0 + j := by
        have a1 : ¬ i < j := fun q => g3 i q ((at_iff i).mp h2)
        have a2 : ¬ j < i := fun q => h3 j q ((at_iff j).mpr g2)
        omega
      rw [h1, ← e]
theorem o_find {K : PySem.W.Frag} : Op2 K (fun x y H Q => ∃ a b, x = .str a ∧ [y] = [.str b] ∧ Q (.int (Txt.find a b)) H) oFind := by
  intro N H d c x y Q rd rc h
  cases d <;> first | exact False.elim h | skip
  rename_i s
  cases c <;> first | exact False.elim h | skip
  rename_i t
  cases t with
  | nil => exact h.elim
  | cons c t =>
    cases t with
    | cons _ _ => exact h.elim
    | nil =>
      obtain rfl : x = .str ⟨s.toArray⟩ := rd
      obtain rfl : y = .str ⟨#[c]⟩ := rc
      refine ⟨_, _, rfl, rfl, ?_⟩
      have h' : OkR K N H Q (if s.length ≤ LIM then .ok (.val (.int (findN c 0 s))) else .bad) := h
      by_cases hl : s.length ≤ LIM
      · rw [if_pos hl] at h'
        exact h' _ H (Same.refl H) (by show V.int _ = _; rw [txt_find])
      · rw [if_neg hl] at h'
        exact h'.elim
theorem nx_find : NoEx2 oFind := by
  intro d c e h
  unfold oFind at h
  split at h <;> (try split at h) <;> cases h
theorem fl_find : Fl2 oFind := by
  intro d c s h
  unfold oFind at h
  split at h <;> (try split at h) <;> cases h <;> exact ⟨_, rfl, rfl⟩
theorem x_find (ha : SE X W a m l) (hb : SE X W b n k) (hs : starEach [b] X.env = [(false, eval b X.env)] := by rfl) (hbase : attributeBase a "find" X.env (eval a X.env) = eval a X.env := by rfl) (hline : (apos.endLine == pos.line) = true := by rfl) :
    SE X W (.Call (.Attribute a "find" apos) [b] [] pos) (eM D.isS oFind m n) [] :=
  x_flat (PE.imp (pe_m1 F.slot_str_find F.type_str_find mt_find ha hb hs hbase hline) fun σ H Q q => simM o_find nx_find str_is σ H Q q) (fl_eM fl_find)

/-! xs.index(y) -/
theorem idxN_spec (p : D) : ∀ (ds : List D) (k i : Nat), idxN p k ds = some i → ∃ j z, i = k + j ∧ ds[j]? = some z ∧ PyData.eqv z.py p.py = true ∧ ∀ (n : Nat) (z' : D), n < j → ds[n]? = some z' → PyData.eqv z'.py p.py = false
  | [], k, i, h => by cases h
  | x :: r, k, i, h => by
    by_cases hx : PyData.eqv x.py p.py = true
    · rw [idxN, if_pos hx] at h
      cases h
      exact ⟨0, x, rfl, rfl, hx, fun n z' hn => by omega⟩
    · rw [idxN, if_neg hx] at h
      obtain ⟨j, z, h1, h2, h3, h4⟩ := idxN_spec p r (k + 1) i h
      refine ⟨j + 1, z, by omega, h2, h3, fun n z' hn hz => ?_⟩
      cases n with
      | zero =>
        have e : x = z' := by simpa using hz
        rw [← e]
        simpa using hx
      | succ n => exact h4 n z' (by omega) (by simpa using hz)
theorem pyL_get : ∀ (ds : List D) (j : Nat), (D.pyL ds)[j]? = (ds[j]?).map D.py
  | [], j => by simp [D.pyL]
  | d :: r, 0 => by simp [D.pyL]
  | d :: r, j + 1 => by simpa [D.pyL] using pyL_get r j
theorem o_index {K : PySem.W.Frag} : Op2 K (fun x y H Q => rIndexD K x [y] H Q) oIndex := by
  intro N H d c x y Q rd rc h
  cases d <;> first | exact False.elim h | skip
  rename_i ds
  have h' : OkR K N H Q (if c.shp DEP && D.shpL DEP ds then (match idxN c 0 ds with | some k => .ok (.val (.int k)) | none => .bad) else .bad) := h
  obtain ⟨hl, h'⟩ := ok_if h'
  rw [Bool.and_eq_true] at hl
  obtain ⟨a, xs, rfl, s1, r1⟩ := rd
  cases hi : idxN c 0 ds with
  | none => rw [hi] at h'; exact h'.elim
  | some i =>
    rw [hi] at h'
    obtain ⟨j, z, e, h2, h3, h4⟩ := idxN_spec c ds 0 i hi
    rw [Nat.zero_add] at e
    subst e
    refine ⟨a, y, c.py, D.pyL ds, i, z.py, rfl, rfl, .lst (.inl (.inl s1.2)) (RepL.dp _ _ xs hl.2 r1), Rep.dp _ _ y hl.1 rc, shp_shaped (n := DEP + 1) (d := .lst ds) (by decide) hl.2, shp_shaped (by decide) hl.1, by rw [pyL_get, h2]; rfl, h3, fun n z' hn hz => ?_, h' _ H (Same.refl H) rfl⟩
    rw [pyL_get] at hz
    cases hq : ds[n]? with
    | none => rw [hq] at hz; cases hz
    | some w =>
      rw [hq] at hz
      cases hz
      exact h4 n w hn hq
theorem nx_index : NoEx2 oIndex := by
  intro d c e h
  unfold oIndex at h
  split at h <;> (try split at h) <;> (try split at h) <;> cases h
theorem fl_index : Fl2 oIndex := by
  intro d c s h
  unfold oIndex at h
  split at h <;> (try split at h) <;> (try split at h) <;> cases h <;> exact ⟨_, rfl, rfl⟩
theorem x_index (hu : X.A.units + 65 < cLine) (ha : SE X W a m l) (hb : SE X W b n k)
    (hbase : attributeBase a "index" X.env (eval a X.env) = eval a X.env := by rfl)
    (hfew : ((backTo cpos (starEach [b] X.env)).all (fun x => !x.1) && (backToKw cpos (keywordEach [] X.env)).all (fun x => x.1.isSome) && decide ([b].length + ([] : List Keyword).length + (if ([] : List Keyword).isEmpty then 0 else 1) < 30)) = true := by rfl)
    (hline : (apos.endLine == cpos.line) = true := by rfl) (hs : starEach [b] X.env = (false, eval b X.env) :: starEach [] X.env := by rfl) (hplain : (backTo cpos (starEach ([] : List Expr) X.env)).any (·.1) = false := by rfl) :
    SE X W (.Call (.Attribute a "index" apos) [b] [] cpos) (eM D.isL oIndex m n) [] :=
  x_flat (PE.imp (pe_bm PySem.F.plainAttrs_list PySem.F.slot_list_index PySem.F.type_list_index (mt_indexD hu) ha (pa_cons hb pa_nil hs) hbase hfew hline hs hplain) fun σ H Q q => simM (T := tyV X.K "list") o_index nx_index lst_is σ H Q q) (fl_eM fl_index)

/-! {'W': 'L', ..}[x]: a display of constants, read at once -/
def kcv : List Nat × D → Key × V
  | (s, .str t) => (.inr ⟨s.toArray⟩, .str ⟨t.toArray⟩)
  | (s, .int i) => (.inr ⟨s.toArray⟩, .int i)
  | (s, _) => (.inr ⟨s.toArray⟩, .non)
/-- the last pair of a key counts -/
def lookD (kvs : List (List Nat × D)) (s : List Nat) : Option D := (kvs.find? fun p => p.1 == s).map (·.2)
def eDic (kvs : List (List Nat × D)) (k : Ex) : Ex := fun e => (k e).bind fun x => match x.d with
  | .str s => (match lookD kvs s with
    | some d => .ok (.val d)
    | none => .bad)
  | _ => .bad
/-- what is shown of the constants: keys unlike, values texts or ints -/
def dicOk (kvs : List (List Nat × D)) : Bool := decide (kvs.length ≤ 15) && kvs.all (fun p => match p.2 with | .str _ => true | .int _ => true | _ => false) && kvs.all (fun p => decide (valV (mergeK [] (kvs.map kcv)) (kcv p).1 = some (kcv p).2))
theorem tPairs_const : ∀ (kvs : List (Key × V)) (σ : L2.St) (H : Hp) (Q : List (V × V) → Hp → Prop), Q (kvs.map fun kv => (kV kv.1, kv.2)) H → tPairs (kvs.map fun kv => (tC (kV kv.1), tC kv.2)) σ H Q
  | [], _, _, _, q => q
  | p :: r, σ, H, Q, q => tPairs_const r σ H _ q
theorem x_dic {keys : List (Option Expr)} {values : List Expr} {p1 : Pos} (kvs : List (List Nat × D)) (hu : X.A.units + 65 < cLine) (h : PPs X p1 keys values ((kvs.map kcv).map fun kv => (tC (kV kv.1), tC kv.2))) (hb : SE X W b n k) (ok : dicOk kvs = true := by decide +kernel)
    (hall : keys.all (·.isSome) = true := by rfl) (hl : keys.length = values.length := by rfl) (h0 : keys ≠ [] := by exact List.cons_ne_nil _ _) (h15 : keys.length ≤ 15 := by decide) (hs : NoSl b := by exact fun _ _ => rfl) :
    SE X W (.Subscript (.Dict keys values p1) b pos) (eDic kvs n) [] := by
  refine x_flat (l := []) (PE.imp (pe_dget (by omega) (pe_disp h hall hl h0 h15) hb hs) fun σ H Q ⟨B, Z, rt, e, r, q⟩ => ?_) fun e s q => ?_
  · unfold eDic at q
    simp only [dicOk, Bool.and_eq_true, decide_eq_true_eq] at ok
    obtain ⟨⟨ok1, ok2⟩, ok3⟩ := ok
    intro p hp
    refine tPairs_const _ σ _ _ ⟨upd_same, _, rfl, by rw [List.length_map]; exact ok1, ?_⟩
    rw [upd_upd]
    have sm : Same H (upd H p (.dK (mergeK [] (kvs.map kcv)))) := same_new hp
    refine tE_go (r.ext sm) (fun d hd c o H' sm' => by rw [hd] at q; exact (fun z9 => q c o H' (sm.trans sm') (z9.mo sm))) (fun hd => by rw [hd] at q; exact q) fun s y H2 hs2 sm2 r2 rs => ?_
    rw [hs2, R.bind_ok] at q
    have rd := rs.d (N := NZ W.g Z e rt k (upd H p (.dK (mergeK [] (kvs.map kcv))))) fun a z => .inr (.inl z)
    cases hd : s.d <;> simp only [hd] at q
    rename_i t
    cases hk : lookD kvs t with
    | none => simp only [hk] at q
    | some d =>
      simp only [hk] at q
      rw [hd] at rd
      obtain rfl : y = .str ⟨t.toArray⟩ := rd
      unfold lookD at hk
      cases hf : kvs.find? fun p => p.1 == t with
      | none => rw [hf] at hk; cases hk
      | some kd =>
        rw [hf] at hk
        cases hk
        have hm := List.mem_of_find?_eq_some hf
        have hp1 : kd.1 = t := by simpa using List.find?_some hf
        have hv := of_decide_eq_true (List.all_eq_true.mp ok3 kd hm)
        have hval := List.all_eq_true.mp ok2 kd hm
        refine ⟨p, (kcv kd).2, rfl, .inl ⟨_, (kcv kd).1, .inl (sm2 _ _ upd_same), ?_, hv.symm⟩, q _ H2 (sm.trans sm2) ?_⟩
        · obtain ⟨s1, d1⟩ := kd
          cases hp1
          cases d1 <;> rfl
        · obtain ⟨s1, d1⟩ := kd
          cases d1 <;> first | (simp at hval; done) | rfl
  · unfold eDic at q
    simp only [dicOk, Bool.and_eq_true, decide_eq_true_eq] at ok
    obtain ⟨⟨ok1, ok2⟩, ok3⟩ := ok
    cases hn : n e with
    | bad => rw [hn] at q; cases q
    | ex d => rw [hn] at q; cases q
    | ok x =>
      rw [hn, R.bind_ok] at q
      cases hd : x.d <;> simp only [hd] at q <;> first | cases q | skip
      rename_i t
      cases hk : lookD kvs t with
      | none => simp only [hk] at q; cases q
      | some d =>
        simp only [hk] at q
        cases q
        unfold lookD at hk
        cases hf : kvs.find? fun p => p.1 == t with
        | none => rw [hf] at hk; cases hk
        | some kd =>
          rw [hf] at hk
          cases hk
          have hval := List.all_eq_true.mp ok2 kd (List.mem_of_find?_eq_some hf)
          refine ⟨_, rfl, ?_⟩
          obtain ⟨s1, d1⟩ := kd
          cases d1 <;> first | (simp at hval; done) | rfl
theorem pe_strC {i : Str} (s : List Nat) {j p} (h : i = ⟨s.toArray⟩ := by decide +kernel) : PE X (.Constant (.str i) j p) (tC (.str ⟨s.toArray⟩)) := by
  rw [← h]
  exact pe_str
end
end Tg

/-! Tg, part 15c: raise; try .. except E as e: c = e, the exception tracked behind the clause; isinstance of it. -/
namespace Tg
open PySem PySem.Spec PyProof.Rows L2

theorem ext_ok {P : Program} {w : World} {H : Hp} {h : Heap} {a : Addr} {cls : Value} {d : Option Addr} {oe : Obj} {vs : Array Value} (e : h.get? a = some oe) (z : Zc cls d oe) (hd : oe.data = .fields vs) : ObjOk P w H h a (ExT cls d a) :=
  ⟨⟨oe, vs, e, z, hd⟩, ⟨oe, e⟩, fun _ _ ⟨o, v, q, r⟩ k => ⟨o, v, k o q, r⟩⟩
section
variable {X : Cx} {pins : List (Addr × Obj)} {σ : L2.St} {H : Hp} {sI s' : Shared} {B : Heap}
/-- an exception that has landed is tracked from now on -/
theorem land_track {a : Addr} {cls : Value} {d : Option Addr} {oe : Obj} {vs : Array Value} (I : Inv X pins σ H sI) (gr : ∀ b o, sI.heap.get? b = some o → b ∉ frs X.stack → B.get? b = some o) (st : B.StaysIn s'.heap) (up : sI.heap.UpToSlots s'.heap)
    (os : s'.os = sI.os) (ag : AllBare s'.gens) (new : sI.heap.get? a = none) (na : H a = none) (he : s'.heap.get? a = some oe) (hz : Zc cls d oe) (hd : oe.data = .fields vs) : Inv X pins σ (upd H a (ExT cls d a)) s' := by
  have inF : ∀ b ∈ frs X.stack, ∀ o, sI.heap.get? b = some o → ∃ sl, s'.heap.get? b = some { o with slots := sl } := fun b hb o e => by
    obtain ⟨_, o2, e2, nd⟩ := I.stack.mem hb
    rw [e] at e2
    cases e2
    exact up b o e nd
  have hk : HOk X.prog X.w (upd H a (ExT cls d a)) s'.heap := HOk.laidN ((I.inGround gr).kept st) (fun _ _ q => q) na (ext_ok he hz hd)
  have ne : ∀ {b : Addr} {u : HO}, H b = some u → b ≠ a := fun {b u} e z => by
    rw [z, na] at e
    cases e
  have J := I.call (ch := []) (h' := s'.heap) (g' := s'.gens) (t' := s'.toks) (d' := s'.drawn) (H' := upd H a (ExT cls d a))
    ⟨fun b o e _ nb _ => st b o (gr b o e nb), fun b o e _ hb _ => inF b hb o e, fun b o e q _ => by
      rw [upd_ne (fun z => by rw [z, new] at e; cases e)]
      exact q, fun b o e _ => by
      by_cases hb : b ∈ frs X.stack
      · obtain ⟨_, q⟩ := inF b hb o e
        exact ⟨_, q⟩
      · exact ⟨o, st b o (gr b o e hb)⟩, fun b xs e => by rw [upd_ne (ne e)]; exact e, fun b o u e => by rw [upd_ne (ne e)]; exact e, fun b ps e => ⟨#[], by rw [upd_ne (ne e), e]; simp⟩⟩
    hk ag (fun _ z => nomatch z)
  obtain ⟨b1, b2, b3, b4, b5⟩ := s'
  have e5 : b5 = sI.os := os
  subst e5
  exact J
theorem suite0 {s : Shared} (I : Inv X pins σ H s) (a : Addr) : Inv (X.suite a (X.pn ++ pins)) [] σ H s :=
  ⟨I.ok.suite _ _, I.os, I.bare, I.base, I.loc, I.cell, I.free, I.freeC, fun p hp => I.pin p (by rw [List.append_nil] at hp; exact hp), I.hok, I.len⟩
theorem unsuite0 {s : Shared} {a : Addr} {pn2 : List (Addr × Obj)} (I : Inv (X.suite a (X.pn ++ pins)) pn2 σ H s) (ok : X.Ok) : Inv X pins σ H s :=
  ⟨ok, I.os, I.bare, I.base, I.loc, I.cell, I.free, I.freeC, fun p hp => I.pin p (List.mem_append_left _ hp), I.hok, I.len⟩
end
/-- what the clause wishes of an exception of the body -/
def wTr (K : PySem.W.Frag) (c : Value) (i : Nat) (ts : TS) (Wo : WX) (D : Ends) : WX := fun cls d σ H =>
  ∃ b, PySem.W.exmOne K cls c = some b ∧ (b = true → ∀ a, H a = none → ts { nx := fun σ2 H2 => D.nx (σ2.set i none) H2, rt := D.rt, bk := fun σ2 H2 => D.bk (σ2.set i none) H2, ct := fun σ2 H2 => D.ct (σ2.set i none) H2 } (σ.set i (some (.ref a))) (upd H a (ExT cls d a))) ∧ (b = false → Wo cls d σ H)
section
variable {X : Cx} {x n : Str} {c : Value} {i : Nat} {body suite : List Stmt} {b0 : Stmt} {np pos pos2 : Pos} {tb : WX → TS} {ts : TS} {Wo : WX}
theorem ps_try_tr (hs : X.stack = X.env :: X.outer) (hf : X.env.frame = some X.env.locals) (hN : X.N.Nodup) (hi : X.N[i]? = some n) (hln : X.env.kindOf n = some .local) (hc : Names X x c) (tk : Takes X Wo)
    (hb : ∀ (W : WX) (pn : List (Addr × Obj)) (xe : Value → Shared → Prop), Takes (X.tr pn xe) W → PassesOwn (model X.prog X.w) X.A X.env xe → PSs (X.tr pn xe) body (tb W))
    (hsu : ∀ (a : Addr) (pn : List (Addr × Obj)), PSs (X.suite a pn) (b0 :: suite) ts) :
    PS X (.Try body [.ExceptHandler (some (.Name x np)) (some n) (b0 :: suite) pos2] [] [] pos) (fun D σ H => tb (wTr X.K c i ts Wo D) D σ H) := by
  refine ⟨fun pins s σ H D I h => ?_⟩
  have ok := I.ok
  have frm : X.A.frames = some (X.env :: X.outer) := by rw [ok.frames, hs]
  refine wpAny_Try_except ?_
  refine wpAny_mono ((hb (wTr X.K c i ts Wo D) (X.pn ++ pins) (fun e s1 => wpAny (model X.prog X.w) X.A (noteFrame e X.env) (fun _ s2 => wpAny (model X.prog X.w) X.A (setFlight e none) (fun _ s3 =>
    wpAny (model X.prog X.w) X.A (handleBy e X.env [.ExceptHandler (some (.Name x np)) (some n) (b0 :: suite) pos2]) (L2.SP X pins D) X.xe s3) X.xe s2) X.xe s1) (fun u s' fly => ?_) PassesOwn.looking).run [] s σ H D (I.toTry _) h) (fun f s1 hsp => ?_) (fun e s1 he => he)
  · obtain ⟨a, B, sI, pins2, τ, G, cls, d, rfl, J2, gr, up, sky, na, os, ag, b, hb1, yes, no⟩ := fly
    have J : Inv X pins τ G sI := J2.ofTry ok
    have sky2 : Sky B (X.env :: X.outer) a (Zc cls d) X.env.locals s'.heap := by rw [← hs]; exact sky
    show wpAny (model X.prog X.w) X.A (noteFrame (.ref a) X.env) _ _ _
    refine Sky.land Zc.steady frm hf sky2 fun h3 fl3 up3 => ?_
    have J3 : Inv X pins τ G { s' with heap := h3 } := J.landed gr fl3.1 (up.trans up3) os ag
    obtain ⟨oe3, vs3, he3, hz3, hd3⟩ := fl3.there
    have out : ∀ {h : Heap} {o : Obj} {vs : Array Value}, h.FunFrames B (X.env :: X.outer) → h.get? a = some o → o.data = .fields vs → a ∉ frs (X.env :: X.outer) := fun {h o vs} ff e dd hm => by
      obtain ⟨_, o2, e2, hnf⟩ := ff.mem hm
      rw [e] at e2
      cases e2
      exact hnf _ dd
    have nfr := out fl3.2.2.1 he3 hd3
    have new : sI.heap.get? a = none := by
      cases e : sI.heap.get? a with
      | none => rfl
      | some o =>
        have z := gr a o e (by rw [hs]; exact nfr)
        have z2 : B.get? a = none := fl3.2.1
        rw [z2] at z
        cases z
    have nL : a ≠ X.env.locals := fun z => nfr (List.mem_filterMap.mpr ⟨X.env, List.mem_cons_self, by rw [hf, z]⟩)
    have nF : a ∉ X.fs := fun hm => by
      obtain ⟨e, he, q⟩ := List.mem_filterMap.mp hm
      exact nfr (List.mem_filterMap.mpr ⟨e, List.mem_cons_of_mem _ he, q⟩)
    have S3 := J3.suite he3 hd3 na nL nF
    refine wpAny_handleBy_cons (codeAny_handlers_test ?_) (by intro q; cases q)
    have LT : PySem.W.Looks (model X.prog X.w) h3 (typeOf (.ref a)) cls := fun A Q E s k q => wpAny_typeOf_ref (k _ _ he3) (by rw [hz3.1]; exact q)
    have LM := PySem.W.exm_one (M := model X.prog X.w) (J3.kIn) LT hb1
    have test : ∀ {Q : Value → Shared → Prop} {E : Value → Shared → Prop}, Q c { s' with heap := h3 } → wpAny (model X.prog X.w) (X.A.mark (some (.ref a))) (eval (.Name x np) X.env) Q E { s' with heap := h3 } := fun {Q E} q => by
      obtain ⟨hg, hdbg, hm | ⟨hm, hv, hnn⟩⟩ := hc
      · exact ld_glob (X := X.suite a ((a, oe3) :: (X.pn ++ pins))) S3 hg hm q hdbg
      · exact ld_blt (X := X.suite a ((a, oe3) :: (X.pn ++ pins))) S3 hg hm hv q hnn hdbg
    refine test (LM.here ?_)
    cases b with
    | true =>
      refine codeAny_handlers_suite_as ?_
      refine HandSPX.lands_againZ fl3 fun h4 fl4 up4 => ?_
      obtain ⟨oe4, vs4, he4, hz4, hd4⟩ := fl4.there
      have S4 := suite0 (land_track (s' := { s' with heap := h4 }) J gr fl4.1 ((up.trans up3).trans up4) os ag new na he4 hz4 hd4) a
      refine store_ok (X := X.suite a (X.pn ++ pins)) (v := .ref a) S4 hN hi (.inl hln) rfl (fun s5 S5 => ?_) (.inr hln)
      refine wpAny_mono ((hsu a (X.pn ++ pins)).run [] s5 _ _ _ S5 (yes rfl a na)) (fun f s6 hsp => ?_) (fun _ _ z => False.elim z)
      have fin : ∀ {τ6 : L2.St} {G6 : Hp} {Q : Shared → Prop}, Inv (X.suite a (X.pn ++ pins)) [] τ6 G6 s6 → (∀ s7, Inv X pins (τ6.set i none) G6 s7 → Q s7) →
          wpAny (model X.prog X.w) X.A (do bindName X.env n .none; unbindBehindTheSuite X.env n pos2) (fun _ s7 => Q s7) X.xe s6 := fun {τ6 G6 Q} S6 hq => gone_ok (unsuite0 S6 ok) hN hi hln hq
      cases f with
      | next =>
        obtain ⟨τ6, G6, S6, q6⟩ := hsp
        exact fin S6 fun s7 J7 => ⟨_, _, J7, q6⟩
      | brk =>
        obtain ⟨τ6, G6, S6, q6⟩ := hsp
        exact fin S6 fun s7 J7 => ⟨_, _, J7, q6⟩
      | cont =>
        obtain ⟨τ6, G6, S6, q6⟩ := hsp
        exact fin S6 fun s7 J7 => ⟨_, _, J7, q6⟩
      | ret u =>
        obtain ⟨v6, τ6, G6, S6, r6, q6⟩ := hsp
        exact fin S6 fun s7 J7 => ⟨_, _, _, J7, r6, q6⟩
    | false =>
      show wpAny _ X.A (handleBy (.ref a) X.env []) _ _ _
      refine wpAny_handleBy_nil ?_
      obtain ⟨k1, k2, k3, oe, vs, T, oT, ts', he, hz, hd, h1, hr⟩ := id fl3
      unfold PySem.passOn
      refine wpAny_bind (wpAny_field he hd h1 ?_)
      rw [if_neg (show ¬ ((Value.ref T == Value.none) = true) from by simp)]
      have fin : wpAny (model X.prog X.w) X.A (setFlight (.ref a) X.env.frame) (fun _ s4 => wpAny (model X.prog X.w) X.A (throw (.ref a) : Sem Flow) (L2.SP X pins D) X.xe s4) X.xe { s' with heap := h3 } := by
        rw [hf]
        refine HandSPX.setFlight_upZ fl3 fun h4 hh4 up4 => wpAny_throw (tk _ _ ?_)
        exact ⟨a, B, sI, pins, τ, G, cls, d, rfl, J, gr, (up.trans up3).trans up4, .inr (.inr (by rw [hs]; exact hh4)), na, os, ag, no rfl⟩
      first
        | exact wpAny_bind (wpAny_pure (wpAny_bind fin))
        | exact wpAny_bind fin
  · cases f with
    | next =>
      obtain ⟨τ, G, J, q⟩ := hsp
      exact wpAny_execs_nil ⟨τ, G, J.ofTry ok, q⟩
    | brk =>
      obtain ⟨τ, G, J, q⟩ := hsp
      exact ⟨τ, G, J.ofTry ok, q⟩
    | cont =>
      obtain ⟨τ, G, J, q⟩ := hsp
      exact ⟨τ, G, J.ofTry ok, q⟩
    | ret u =>
      obtain ⟨v, τ, G, J, r, q⟩ := hsp
      exact ⟨v, τ, G, J.ofTry ok, r, q⟩
end

/-! own exceptions -/
structure Exc1 (K : PySem.W.Frag) (mg : Str → Option Value) (nm : String) (C : Addr) : Prop where
  g : mg (Str.ofString nm) = some (.ref C)
  ns : PySem.W.nsIn K mainGlobals (Str.ofString nm) = some (some (.ref C))
  x : PySem.W.excIn K C [.type "ValueError", .type "Exception", .type "BaseException", .type "object"] "ValueError.__new__" = true
  k : PySem.W.keepIn K (.ref C) = true
  b : PySem.W.subIn K (.ref C) (.type "BaseException") = some true
  t : PySem.W.typeIn K (.ref C) = some (.type "type")
/-- isinstance(e, D), except D: by the subclass looks -/
theorem kitE_own {K : PySem.W.Frag} {C D : Addr} {b : Bool} (ss : PySem.W.subIn K (.ref C) (.ref C) = some true) (i : PySem.W.isClsIn K D = true) (t : PySem.W.typeIn K (.ref D) = some (.type "type")) (s : PySem.W.subIn K (.ref C) (.ref D) = some b) : PySem.W.kitOne K (.ref C) (.ref D) = some b := by
  unfold PySem.W.kitOne
  by_cases h : C = D
  · subst h
    rw [ss] at s
    cases s
    simp
  · have hf : ¬ ((Value.ref C == Value.ref D) = true) := by simpa using h
    rw [if_neg hf]
    have i2 : (PySem.W.clsIn K D).isSome = true := i
    show (if ((PySem.W.clsIn K D).isSome && PySem.W.typeIn K (.ref D) == some (.type "type")) = true then PySem.W.subIn K (.ref C) (.ref D) else none) = some b
    rw [i2, t, if_pos (by rfl)]
    exact s
theorem kitE_val {K : PySem.W.Frag} {C : Addr} {T : String} {b : Bool} (hm : PySem.W.kitMeta T = true) (s : PySem.W.subIn K (.ref C) (.type T) = some b) : PySem.W.kitOne K (.ref C) (.type T) = some b := by
  unfold PySem.W.kitOne
  have hf : ¬ ((Value.ref C == Value.type T) = true) := by simp
  rw [if_neg hf]
  show (if PySem.W.kitMeta T = true then PySem.W.subIn K (.ref C) (.type T) else none) = some b
  rw [if_pos hm]
  exact s
theorem exm_own {K : PySem.W.Frag} {C D : Addr} (db : PySem.W.subIn K (.ref D) (.type "BaseException") = some true) (i : PySem.W.isClsIn K D = true) (t : PySem.W.typeIn K (.ref D) = some (.type "type")) (s : PySem.W.subIn K (.ref C) (.ref D) = some true) : PySem.W.exmOne K (.ref C) (.ref D) = some true := by
  unfold PySem.W.exmOne
  rw [db, if_pos (by rfl)]
  have i2 : (PySem.W.clsIn K D).isSome = true := i
  show (if ((PySem.W.clsIn K D).isSome && PySem.W.typeIn K (.ref D) == some (.type "type")) = true then PySem.W.subIn K (.ref C) (.ref D) else none) = some true
  rw [i2, t, if_pos (by rfl)]
  exact s
def sRaise (nm : String) : Sx := fun _ => .ex (.exc nm [])
section
variable {X : Cx} {W : Wi} {H0 : Hp} {Z0 : Addr → Prop} {lk : List Nat}
theorem s_raise {nm : String} {C : Addr} {x m : Str} {j : Nat} {p p2 pos pos2 : Pos} (E : Exc1 X.K X.mg nm C) (hc : X.calm = true) (tk : Takes X W.w) (hxr : ∀ H0 d c o H, XR X.K H0 d c o H → W.xr H0 d c o H) (hx : x = Str.ofString nm := by rfl) (hg : Gl X x := by rfl)
    (hdb : (x == ("__debug__" : Str)) = false := by decide) : SS X W H0 Z0 lk (.Raise (some (.Call (.Name x p) [.Constant (.str m) j p2] [] pos)) none pos2) (sRaise nm) := by
  subst hx
  exact PS.imp (ps_raise hc tk (pmk_own PySem.F.excBase_ValueError E.x E.g E.k (raises_own E.b E.t) hg hdb)) fun D σ H ⟨Zl, Hb, e, ⟨s0, _⟩, q⟩ => q (.ref C) none σ H s0 ⟨H0, Same.refl _, hxr _ _ _ _ _ ⟨⟨C, rfl, E.ns⟩, .inl ⟨rfl, .inl rfl⟩⟩⟩

/-! isinstance of a caught exception -/
def eIsX (tab : List (String × Bool)) (m : Ex) : Ex := fun e => (m e).bind fun s => match s.d with
  | .exc nm _ => (match tab.lookup nm with
    | some b => .ok (.val (.bl b))
    | none => .bad)
  | _ => .bad
def rIsX (K : PySem.W.Frag) : List V → Hp → VK → Prop := fun xs H Q => ∃ (a D : Addr) (c : V) (cv : Value) (b : Bool), xs = [.ref a, c] ∧ XO H a D ∧ ExcC K D ∧ (∀ u, RelV c u → u = cv) ∧ PySem.W.kitOne K (.ref D) cv = some b ∧ Q (.bl b) H
theorem call_isX : CallR X (.builtin "isinstance") (rIsX X.K) := by
  intro pins s σ H xs us Q I r h
  obtain ⟨a, D, c, cv, b, rfl, ha, C, hcv, e, q⟩ := h
  cases r with
  | cons rx rr =>
    cases rr with
    | cons rt rr =>
      cases rr
      cases rx
      have ec := hcv _ rt
      subst ec
      obtain ⟨oe, od, J⟩ : ∃ oe od, PySem.W.InstAt s.heap a oe D od := by
        rcases ha with ha | ⟨dd, gs, ha, hd⟩
        · obtain ⟨⟨oe, vs, hget, hz, hv⟩, _⟩ := (show ObjOk X.prog X.w H s.heap a (ExT (.ref D) none a) from I.hok a _ ha)
          refine ⟨oe, none, ?_⟩
          obtain ⟨oc, od, oda, osl⟩ := oe
          obtain ⟨h1, h2⟩ := hz
          dsimp only at h1 h2 hv
          subst h1 h2 hv
          exact ⟨hget, rfl, rfl, trivial⟩
        · obtain ⟨⟨oe, vs, hget, hz, hv⟩, _⟩ := (show ObjOk X.prog X.w H s.heap a (ExT (.ref D) (some dd) a) from I.hok a _ ha)
          obtain ⟨mA, hns, _⟩ := (show ObjOk X.prog X.w H s.heap dd (.xd gs) from I.hok dd _ hd)
          obtain ⟨od, ho, _⟩ := lookIn_ns hns
          refine ⟨oe, some od, ?_⟩
          obtain ⟨oc, od', oda, osl⟩ := oe
          obtain ⟨h1, h2⟩ := hz
          dsimp only at h1 h2 hv
          subst h1 h2 hv
          exact ⟨hget, rfl, rfl, ho⟩
      have hcl : (PySem.W.clsIn X.K D).isSome = true := by
        obtain ⟨cd, hc, _⟩ := PySem.W.any_some C.hd
        rw [hc]; rfl
      exact PySem.W.kia_one (PySem.W.kitx_exc hcl C.hg C.hk C.hs C.ha C.hn C.ht C.hm) I.kIn J e (fun z => nomatch z) fun tk => ⟨.bl b, H, I.kept (t' := tk) fun _ _ z => z, rfl, q⟩
/-- what is known of the classes that may be caught, against the class that is asked for -/
def TabOk (K : PySem.W.Frag) (cv : Value) (tab : List (String × Bool)) : Prop := ∀ nm b, tab.lookup nm = some b → ∀ C, PySem.W.nsIn K mainGlobals (Str.ofString nm) = some (some (.ref C)) → ExcC K C ∧ PySem.W.kitOne K (.ref C) cv = some b
theorem tab_nil {K : PySem.W.Frag} {cv : Value} : TabOk K cv [] := fun _ _ h => nomatch h
theorem tab_cons {K : PySem.W.Frag} {cv : Value} {nm : String} {b : Bool} {C : Addr} {r : List (String × Bool)} (ns : PySem.W.nsIn K mainGlobals (Str.ofString nm) = some (some (.ref C))) (e : ExcC K C) (k : PySem.W.kitOne K (.ref C) cv = some b) (h : TabOk K cv r) : TabOk K cv ((nm, b) :: r) := fun n c hl D hD => by
  by_cases hn : n = nm
  · subst hn
    rw [ns] at hD
    cases hD
    have hb : b = c := by simpa [List.lookup] using hl
    subst hb
    exact ⟨e, k⟩
  · have hl2 : r.lookup n = some c := by
      rw [List.lookup] at hl
      have q : (n == nm) = false := by simpa using hn
      rw [q] at hl
      exact hl
    exact h n c hl2 D hD
variable {a : Expr} {m : Ex} {l : List Nat} {p pos : Pos}
theorem isX_sim {cx : Expr} {c : V} {cv : Value} {tab : List (String × Bool)} (T : TabOk X.K cv tab) (hcv : ∀ u, RelV c u → u = cv) (σ : L2.St) (H : Hp) (Q : VK) (q : tE X.K W (eIsX tab m) [] σ H Q) :
    tCB (rIsX X.K) (tCons (tE X.K W m l) (tCons (tC c) tNil)) σ H Q := by
  obtain ⟨B, Z, rt, e, r, q⟩ := q
  unfold eIsX at q
  refine tE_go r (fun d hd => by rw [hd] at q; exact q) (fun hd => by rw [hd] at q; exact q) fun s x H1 hs sm r1 rs => ?_
  rw [hs, R.bind_ok] at q
  have rd := rs.d (N := NZ W.g Z e rt l H) fun a z => .inr (.inl z)
  cases hd : s.d with
  | exc nm fs =>
    simp only [hd] at q
    cases hl : tab.lookup nm with
    | none => simp only [hl] at q
    | some b =>
      simp only [hl] at q
      rw [hd] at rd
      obtain ⟨a, C, rfl, hns, h⟩ := rd
      obtain ⟨t1, t2⟩ := T nm b hl C hns
      rcases h with ⟨_, h⟩ | ⟨dd, xs, h0, h1, h2, _⟩
      · exact ⟨a, C, c, cv, b, rfl, h, t1, hcv, t2, q _ H1 sm rfl⟩
      · exact ⟨a, C, c, cv, b, rfl, .inr ⟨dd, _, h1, h2⟩, t1, hcv, t2, q _ H1 sm rfl⟩
  | _ => simp only [hd] at q
theorem fl_isX {tab : List (String × Bool)} : ∀ e s, eIsX tab m e = .ok s → ∃ d, s = .val d ∧ d.flat = true := fun e s q => by
  unfold eIsX at q
  cases hm : m e with
  | bad => rw [hm] at q; cases q
  | ex d => rw [hm] at q; cases q
  | ok x =>
    rw [hm, R.bind_ok] at q
    cases hd : x.d with
    | exc nm fs =>
      simp only [hd] at q
      cases hl : tab.lookup nm with
      | none => simp only [hl] at q; cases q
      | some b => simp only [hl] at q; cases q; exact ⟨_, rfl, rfl⟩
    | _ => simp only [hd] at q; cases q
/-- isinstance(e, C), C an own class -/
theorem x_isO {x : Str} {C : Addr} {pt : Pos} (tab : List (String × Bool)) (T : TabOk X.K (.ref C) tab) (hm : X.mg "isinstance" = none) (hC : X.mg x = some (.ref C)) (ha : SE X W a m l) (hg : Gl X "isinstance" := by rfl) (hg2 : Gl X x := by rfl) (hdb : (x == ("__debug__" : Str)) = false := by decide)
    (he : starEach [a, .Name x pt] X.env = (false, eval a X.env) :: starEach [.Name x pt] X.env := by rfl) (he2 : starEach [.Name x pt] X.env = (false, eval (.Name x pt) X.env) :: starEach [] X.env := by rfl) (hpl : (backTo pos (starEach [.Name x pt] X.env)).any (·.1) = false := by rfl) :
    SE X W (.Call (.Name "isinstance" p) [a, .Name x pt] [] pos) (eIsX tab m) [] :=
  PE.imp (pe_callB call_isX hg hm (by decide +kernel) (pa_cons ha (pa_cons (pe_glob (v := .ref C) hg2 hC rfl hdb) pa_nil he2) he) (by decide) (by decide) he hpl) fun σ H Q q => isX_sim (c := .ref C) (cx := a) T (fun u h => h) σ H Q q
/-- isinstance(e, ValueError) -/
theorem x_isV {x : Str} (T0 : String) {pt : Pos} (tab : List (String × Bool)) (T : TabOk X.K (.type T0) tab) (hm : X.mg "isinstance" = none) (hm2 : X.mg x = none) (hv2 : bootBuiltins x = some (.type T0)) (ha : SE X W a m l) (hg : Gl X "isinstance" := by rfl) (hg2 : Gl X x := by rfl) (hn : x ≠ "__name__" := by decide) (hdb : (x == ("__debug__" : Str)) = false := by decide)
    (he : starEach [a, .Name x pt] X.env = (false, eval a X.env) :: starEach [.Name x pt] X.env := by rfl) (he2 : starEach [.Name x pt] X.env = (false, eval (.Name x pt) X.env) :: starEach [] X.env := by rfl) (hpl : (backTo pos (starEach [.Name x pt] X.env)).any (·.1) = false := by rfl) :
    SE X W (.Call (.Name "isinstance" p) [a, .Name x pt] [] pos) (eIsX tab m) [] :=
  PE.imp (pe_callB call_isX hg hm (by decide +kernel) (pa_cons ha (pa_cons (pe_bltn (v := .ty T0) hg2 hm2 hv2 rfl hn hdb) pa_nil he2) he) (by decide) (by decide) he hpl) fun σ H Q q => isX_sim (c := .ty T0) (cx := a) T (fun u h => h) σ H Q q

/-! try: .. except E as i: j = i -/
/-- a body of which an exception leaves the slots as they were -/
def tX (K : PySem.W.Frag) (W : Wi) (H0 : Hp) (Z0 : Addr → Prop) (lk : List Nat) (m : Sx) : TS := fun D σ H => ∃ (Zl : Nat → Addr → Prop) (Hb : Hp) (e : En), Body K W.g H0 Z0 lk Zl Hb e σ H ∧ match m e with
  | .ex d => ∀ c o H', Same H H' → XC W.xr H d c o H' → W.w c o σ H'
  | r => Out K W H0 Z0 lk Zl Hb D r
abbrev SY (X : Cx) (W : Wi) (H0 : Hp) (Z0 : Addr → Prop) (lk : List Nat) (st : Stmt) (m : Sx) : Prop := PS X st (tX X.K W H0 Z0 lk m)
variable {st : Stmt} {body orelse : List Stmt} {M N : Sx} {n : Ex}
theorem y_set (i : Nat) {x : Str} {p : Pos} (hN : X.N.Nodup) (he : SE X W a m l) (hi : X.N[i]? = some x := by rfl) (hx : Loc X.env.scope x := by first | exact Or.inl rfl | exact Or.inr rfl) (hs : swapsWith a (some (.Name x p)) pos.line X.env = pure false := by rfl) (hf : X.fn x = true ∨ X.env.scope.names.lookup x = some .local := by first | exact .inl rfl | exact .inr rfl | assumption) (hl : allg W.g (W.g i) l = true := by rfl) :
    SY X W H0 Z0 lk (.Assign [.Name x p] a pos) (sSet l i m) := PS.imp (ps_set hN hi hx he hs hf) fun D σ H ⟨Zl, Hb, e, ⟨s0, kp, Z, rt, h1, h2, r⟩, q⟩ => by
  unfold sSet at q
  refine tE_go r (fun d hd c o H' sm => by rw [hd] at q; exact q c o H' sm) (fun hd => by rw [hd] at q; exact q) fun s x H1 hs sm r1 rs => ?_
  rw [hs, R.bind_ok] at q
  obtain ⟨Z', rt', z1, z2, r'⟩ := r.put sm rs i (allg_of hl)
  exact q _ H1 (.new s0 kp sm (up1 h1 z1) (up2 h2 z2) r')
theorem y_drop (he : SE X W a m l) (hs : swapsWith a none pos.line X.env = pure false := by rfl) : SY X W H0 Z0 lk (.Expr a pos) (sDrop m) := by
  refine PS.imp (ps_expr he hs) fun D σ H ⟨Zl, Hb, e, ⟨s0, kp, Z, rt, h1, h2, r⟩, q⟩ => ?_
  unfold sDrop at q
  refine tE_go r (fun d hd c o H' sm => by rw [hd] at q; exact q c o H' sm) (fun hd => by rw [hd] at q; exact q) fun s x H1 hs sm r1 rs => ?_
  rw [hs, R.bind_ok] at q
  exact q σ H1 (.new s0 kp sm h1 h2 r1)
theorem y_if {c : Expr} {t : Tx} {s1 s2 : Stmt} (hc : ST X W c t) (ha : SY X W H0 Z0 lk s1 M) (hb : SY X W H0 Z0 lk s2 N) : SY X W H0 Z0 lk (.If c [s1] [s2] pos) (sIf t M N) := by
  refine PS.imp (ps_if hc (pss_one ha) (pss_one hb)) fun D σ H ⟨Zl, Hb, e, ⟨s0, kp, Z, rt, h1, h2, r⟩, q⟩ => ?_
  unfold sIf at q
  refine tT_go r (fun d hd c o H' sm => by rw [hd] at q; exact q c o H' sm) (fun hd => by rw [hd] at q; exact q) fun c H1 hs sm r1 => ?_
  rw [hs, R.bind_ok] at q
  have B := Body.new (e := e) (Zl := Zl) (Hb := Hb) s0 kp sm h1 h2 r1
  cases c with
  | true =>
    rw [if_pos rfl] at q ⊢
    refine ⟨Zl, Hb, e, B, ?_⟩
    cases hM : M e with
    | ex d => rw [hM] at q; exact fun c o H' sm2 => (fun z9 => q c o H' (sm.trans sm2) (z9.mo sm))
    | ok f => rw [hM] at q; exact q
    | bad => rw [hM] at q; exact q.elim
  | false =>
    rw [if_neg Bool.false_ne_true] at q ⊢
    refine ⟨Zl, Hb, e, B, ?_⟩
    cases hM : N e with
    | ex d => rw [hM] at q; exact fun c o H' sm2 => (fun z9 => q c o H' (sm.trans sm2) (z9.mo sm))
    | ok f => rw [hM] at q; exact q
    | bad => rw [hM] at q; exact q.elim
/-- cs: the classes that may be caught here -/
def sTry (i j : Nat) (cs : List String) (M : Sx) : Sx := fun e => match M e with
  | .ok f => .ok f
  | .ex (.exc nm fs) => if nm ∈ cs ∧ i < e.length then .ok (.nx (((e.set i none).set j (some (.val (.exc nm fs)))).set i none)) else .bad
  | .ex _ => .bad
  | .bad => .bad
/-- each of them is caught -/
def CatOk (K : PySem.W.Frag) (c : Value) (cs : List String) : Prop := ∀ nm ∈ cs, ∀ C, PySem.W.nsIn K mainGlobals (Str.ofString nm) = some (some (.ref C)) → PySem.W.exmOne K (.ref C) c = some true
theorem cat_nil {K : PySem.W.Frag} {c : Value} : CatOk K c [] := fun _ h => nomatch h
theorem cat_cons {K : PySem.W.Frag} {c : Value} {nm : String} {C : Addr} {r : List String} (ns : PySem.W.nsIn K mainGlobals (Str.ofString nm) = some (some (.ref C))) (k : PySem.W.exmOne K (.ref C) c = some true) (h : CatOk K c r) : CatOk K c (nm :: r) := fun n hn D hD => by
  rcases List.mem_cons.mp hn with e | hn
  · subst e
    rw [ns] at hD
    cases hD
    exact k
  · exact h n hn D hD
theorem s_try {x n y : Str} {c : Value} (i j : Nat) {np yp np2 pa pos2 : Pos} (cs : List String) (hs : X.stack = X.env :: X.outer) (hf : X.env.frame = some X.env.locals) (hN : X.N.Nodup) (hc : Names X x c) (tk : Takes X W.w) (T : CatOk X.K c cs)
    (hb : ∀ (w : WX) (pn : List (Addr × Obj)) (xe : Value → Shared → Prop), Takes (X.tr pn xe) w → SY (X.tr pn xe) ⟨XR X.K, w, W.g, W.fr⟩ H0 Z0 lk st M)
    (hi : X.N[i]? = some n := by rfl) (hln : X.env.kindOf n = some .local := by rfl) (hj : X.N[j]? = some y := by rfl) (hjl : X.env.scope.names.lookup y = some .local := by rfl) (hne : i ≠ j := by decide) (hsw : ∀ a pn, swapsWith (.Name n np2) (some (.Name y yp)) pa.line (X.suite a pn).env = pure false := by intro _ _; rfl)
    (hd : (n == ("__debug__" : Str)) = false := by decide) (hcd : (n == ("__classdict__" : Str)) = false := by decide) (hv : Vis X.env.scope n := by exact Or.inl rfl) :
    SS X W H0 Z0 lk (.Try [st] [.ExceptHandler (some (.Name x np)) (some n) [.Assign [.Name y yp] (.Name n np2) pa] pos2] [] [] pos) (sTry i j cs M) := by
  refine PS.imp (ps_try_tr hs hf hN hi hln hc tk (tb := fun w => tX X.K ⟨XR X.K, w, W.g, W.fr⟩ H0 Z0 lk M) (fun w pn xe tk2 _ => pss_one (hb w pn xe tk2)) (fun a pn => pss_one (ps_set (X := X.suite a pn) hN hj (.inl hjl) (pe_var (X := X.suite a pn) hi hv hd hcd) (hsw a pn) (.inr hjl)))) fun D σ H ⟨Zl, Hb, e, B, q⟩ => ?_
  refine ⟨Zl, Hb, e, B, ?_⟩
  unfold sTry at q
  cases hM : M e with
  | bad => rw [hM] at q; exact q.elim
  | ok f => rw [hM] at q; cases f <;> exact q
  | ex d =>
    rw [hM] at q
    cases d with
    | exc nm fs =>
      have q2 : Out X.K W H0 Z0 lk Zl Hb D (if nm ∈ cs ∧ i < e.length then .ok (.nx (((e.set i none).set j (some (.val (.exc nm fs)))).set i none)) else .bad) := q
      by_cases hm : nm ∈ cs ∧ i < e.length
      case neg => rw [if_neg hm] at q2; exact q2.elim
      rw [if_pos hm] at q2
      intro cc o G sm ⟨H2, sm9, ⟨C, hC, hns⟩, ho⟩
      subst hC
      refine ⟨true, T nm hm.1 C hns, fun _ a na => ?_, fun z => nomatch z⟩
      obtain ⟨s0, kp, Z, rt, h1, h2, r⟩ := B
      have smn : Same G (upd G a (ExT (.ref C) o a)) := same_new na
      have sm2 : Same H (upd G a (ExT (.ref C) o a)) := sm.trans smn
      have rep : Rep X.K (fun b => H b = none) (upd G a (ExT (.ref C) o a)) (.exc nm fs) (.ref a) := by
        refine ⟨a, C, rfl, hns, ?_⟩
        rcases ho with ⟨rfl, ho⟩ | ⟨h0, dd, xs, rfl, hd, hr⟩
        · refine .inl ⟨rfl, ?_⟩
          rcases ho with rfl | ⟨dd, gs, rfl, hd⟩
          · exact .inl upd_same
          · exact .inr ⟨dd, gs, upd_same, smn _ _ hd⟩
        · exact .inr ⟨dd, xs, h0, upd_same, smn _ _ hd, (hr.same smn).mono fun b z => sm9.free z⟩
      have il : i < σ.length := by rw [← r.len]; exact hm.2
      refine ⟨.ref a, List.getElem?_set_self il, ?_⟩
      obtain ⟨Z', rt', z1, z2, r'⟩ := (r.setNone i (some (.ref a))).put sm2 (l := []) (v := .val (.exc nm fs)) (x := .ref a) (rep.mono fun b z => .inr (.inl z)) j (fun _ z => nomatch z)
      rw [show keep [] (S.val (.exc nm fs)).flat (e.set i none) = e.set i none from keep_nil _ _] at r'
      refine q2 _ _ ⟨s0.trans sm2, kp.trans (same_kp sm2), Z', rt', up1 h1 z1, up2 h2 z2, r'.setNone i none⟩
    | _ => exact q.elim
end
end Tg

/-! Tg, part 18: dicts of slots. -/
namespace Tg
open PySem PySem.Spec PyProof.Rows L2

def lookI (kvs : List (List Int × D)) (k : List Int) : Option D := (kvs.find? fun p => decide (p.1 = k)).map (·.2)
def putI (kvs : List (List Int × D)) (k : List Int) (d : D) : List (List Int × D) := if (kvs.any fun p => decide (p.1 = k)) = true then kvs.map (fun p => if p.1 = k then (p.1, d) else p) else kvs ++ [(k, d)]
def keyOf : Nat → D → Option (List Int)
  | 0, .int i => some [i]
  | 1, .tup ds => D.ints ds
  | _ + 2, .str s => some (s.map Int.ofNat)
  | _, _ => none
theorem keyOf_ok {t : Nat} {d : D} {k : List Int} (h : keyOf t d = some k) : okK t k = true := by
  match t with
  | 0 => cases d <;> first | (cases h; done) | (cases h; rfl)
  | 1 => rfl
  | n + 2 =>
    cases d <;> first | (cases h; done) | skip
    cases h
    show List.all _ _ = true
    rw [List.all_eq_true]
    intro i hi
    obtain ⟨j, _, rfl⟩ := List.mem_map.mp hi
    exact decide_eq_true (Int.natCast_nonneg j)
/-- the keys' places in the heap -/
def Emb {κ : Type} (f : List Int → κ) (t : Nat) : Prop := ∀ k k', okK t k = true → okK t k' = true → f k = f k' → k = k'
theorem emb_K : Emb fK 0 := fun k k' h h' e => by
  match k, h with
  | [a], _ => match k', h' with
    | [b], _ => injection e with e; rw [show a = b from e]
theorem emb_S {n : Nat} : Emb fS (n + 2) := fun k k' h h' e => by
  have e2 : k.map Int.toNat = k'.map Int.toNat := by
    unfold fS at e
    simpa using e
  have h : (k.all fun i => decide (0 ≤ i)) = true := h
  have h' : (k'.all fun i => decide (0 ≤ i)) = true := h'
  clear e
  induction k generalizing k' with
  | nil => cases k' with
    | nil => rfl
    | cons _ _ => cases e2
  | cons a k ih => cases k' with
    | nil => cases e2
    | cons b k' =>
      rw [List.map_cons, List.map_cons] at e2
      injection e2 with e3 e4
      rw [List.all_cons, Bool.and_eq_true, decide_eq_true_eq] at h h'
      rw [ih k' h.2 h'.2 e4 h.2 h'.2, show a = b by omega]
theorem emb_T : Emb fT 1 := fun k k' _ _ e => by
  have : ∀ (a b : List Int), a.map (Sum.inl : Int → Key) = b.map Sum.inl → a = b := by
    intro a
    induction a with
    | nil => intro b h; cases b with
      | nil => rfl
      | cons _ _ => cases h
    | cons x a ih => intro b h; cases b with
      | nil => cases h
      | cons y b =>
        rw [List.map_cons, List.map_cons] at h
        injection h with h1 h2
        injection h1 with h1
        rw [h1, ih b h2]
  exact this _ _ e
section
variable {κ : Type} [DecidableEq κ] {f : List Int → κ} {t : Nat} {K : PySem.W.Frag} {H : Hp}
theorem DR.length {kvs : List (List Int × D)} {ks : List (κ × V)} (h : DR f K H kvs ks) : ks.length = kvs.length := by
  induction h with
  | nil => rfl
  | cons _ _ _ ih => rw [List.length_cons, List.length_cons, ih]
theorem DR.look (E : Emb f t) {kvs : List (List Int × D)} {ks : List (κ × V)} (h : DR f K H kvs ks) (ok : ∀ p ∈ kvs, okK t p.1 = true) {k : List Int} (hk : okK t k = true) :
    (lookI kvs k = none ∧ valV ks (f k) = none) ∨ ∃ d y, lookI kvs k = some d ∧ valV ks (f k) = some y ∧ Rep K (fun _ => False) H d y ∧ d.flat = true := by
  induction h with
  | nil => exact .inl ⟨rfl, rfl⟩
  | @cons k0 d y r s h1 h2 h3 ih =>
    have ok0 := ok _ List.mem_cons_self
    by_cases e : k0 = k
    · subst e
      exact .inr ⟨d, y, by simp [lookI], valV_pos rfl, h1, h2⟩
    · have ne : ¬ f k0 = f k := fun z => e (E k0 k ok0 hk z)
      have e2 : lookI ((k0, d) :: r) k = lookI r k := by simp [lookI, List.find?_cons, e]
      rw [e2, valV_neg ne]
      exact ih fun p hp => ok p (List.mem_cons_of_mem _ hp)
theorem DR.any (E : Emb f t) {kvs : List (List Int × D)} {ks : List (κ × V)} (h : DR f K H kvs ks) (ok : ∀ p ∈ kvs, okK t p.1 = true) {k : List Int} (hk : okK t k = true) :
    (ks.any fun kv => decide (kv.1 = f k)) = kvs.any fun p => decide (p.1 = k) := by
  induction h with
  | nil => rfl
  | @cons k0 d y r s h1 h2 h3 ih =>
    have ok0 := ok _ List.mem_cons_self
    rw [List.any_cons, List.any_cons, ih fun p hp => ok p (List.mem_cons_of_mem _ hp)]
    congr 1
    rw [decide_eq_decide]
    exact ⟨fun z => E k0 k ok0 hk z, fun z => by show f k0 = f k; rw [show k0 = k from z]⟩
theorem DR.snoc {kvs : List (List Int × D)} {ks : List (κ × V)} (h : DR f K H kvs ks) {k : List Int} {d : D} {y : V} (h1 : Rep K (fun _ => False) H d y) (h2 : d.flat = true) : DR f K H (kvs ++ [(k, d)]) (ks ++ [(f k, y)]) := by
  induction h with
  | nil => exact .cons h1 h2 .nil
  | cons g1 g2 _ ih => exact .cons g1 g2 ih
theorem DR.upd (E : Emb f t) {kvs : List (List Int × D)} {ks : List (κ × V)} (h : DR f K H kvs ks) (ok : ∀ p ∈ kvs, okK t p.1 = true) {k : List Int} (hk : okK t k = true) {d : D} {y : V} (h1 : Rep K (fun _ => False) H d y) (h2 : d.flat = true) :
    DR f K H (kvs.map fun p => if p.1 = k then (p.1, d) else p) (ks.map fun kv => if kv.1 = f k then (kv.1, y) else kv) := by
  induction h with
  | nil => exact .nil
  | @cons k0 d0 y0 r s g1 g2 _ ih =>
    have ok0 := ok _ List.mem_cons_self
    have ih := ih fun p hp => ok p (List.mem_cons_of_mem _ hp)
    rw [List.map_cons, List.map_cons]
    by_cases e : k0 = k
    · subst e
      rw [if_pos rfl, if_pos rfl]
      exact .cons h1 h2 ih
    · rw [if_neg e, if_neg (fun z => e (E k0 k ok0 hk z))]
      exact .cons g1 g2 ih
theorem DR.put (E : Emb f t) {kvs : List (List Int × D)} {ks : List (κ × V)} (h : DR f K H kvs ks) (ok : ∀ p ∈ kvs, okK t p.1 = true) {k : List Int} (hk : okK t k = true) {d : D} {y : V} (h1 : Rep K (fun _ => False) H d y) (h2 : d.flat = true) :
    DR f K H (putI kvs k d) (putK ks (f k) y) := by
  unfold putI putK
  rw [h.any E ok hk]
  split
  · exact h.upd E ok hk h1 h2
  · exact h.snoc h1 h2
end
theorem putI_ok {t : Nat} {kvs : List (List Int × D)} (ok : ∀ p ∈ kvs, okK t p.1 = true) {k : List Int} (hk : okK t k = true) (d : D) : ∀ p ∈ putI kvs k d, okK t p.1 = true := by
  intro p hp
  unfold putI at hp
  split at hp
  · obtain ⟨q, hq, e⟩ := List.mem_map.mp hp
    have := ok q hq
    split at e <;> subst e <;> exact this
  · rcases List.mem_append.mp hp with hp | hp
    · exact ok p hp
    · rw [List.mem_singleton.mp hp]; exact hk
theorem putI_len (kvs : List (List Int × D)) (k : List Int) (d : D) : (putI kvs k d).length ≤ kvs.length + 1 := by
  unfold putI
  split <;> simp
theorem RepL.keys {K : PySem.W.Frag} {N : Addr → Prop} {H : Hp} {ns : List Int} {xs : List V} (h : RepL K N H (ns.map D.int) xs) : xs = (fT ns).map kV := by
  rw [h.ints]
  unfold fT
  rw [List.map_map]
  rfl
/-- a dict of a slot, asked at a key -/
theorem dob_get {K : PySem.W.Frag} {N : Addr → Prop} {H : Hp} {a : Addr} {t : Nat} {kvs : List (List Int × D)} {o : HO} (ho : H a = some o) (h : DOb K H t kvs o) {c : D} {x : V} {k : List Int} (hc : keyOf t c = some k) (r : Rep K N H c x) :
    (lookI kvs k = none ∧ DGet H a x none) ∨ ∃ d y, lookI kvs k = some d ∧ DGet H a x (some y) ∧ Rep K (fun _ => False) H d y ∧ d.flat = true := by
  have hk := keyOf_ok hc
  match t, h with
  | 0, h =>
    obtain ⟨ks, e, q⟩ := h.2
    subst e
    cases c <;> first | cases hc | skip
    rename_i i
    obtain rfl : x = .int i := r
    have g := DGet.k (k := fK [i]) ho
    rcases q.look emb_K h.1 hk with ⟨h1, h2⟩ | ⟨d, y, h1, h2, h3⟩
    · rw [h2] at g
      exact .inl ⟨h1, g⟩
    · rw [h2] at g
      exact .inr ⟨d, y, h1, g, h3⟩
  | 1, h =>
    obtain ⟨ks, e, q⟩ := h.2
    subst e
    cases c <;> first | cases hc | skip
    rename_i ds
    have hc : D.ints ds = some k := hc
    have := ints_some hc
    subst this
    obtain ⟨b, xs, rfl, hb, rr⟩ := r
    rw [rr.keys] at hb
    have g := DGet.t (k := fT k) ho hb
    rcases q.look emb_T h.1 hk with ⟨h1, h2⟩ | ⟨d, y, h1, h2, h3⟩
    · rw [h2] at g
      exact .inl ⟨h1, g⟩
    · rw [h2] at g
      exact .inr ⟨d, y, h1, g, h3⟩
  | n + 2, h =>
    obtain ⟨ks, e, q⟩ := h.2
    subst e
    cases c <;> first | cases hc | skip
    rename_i s
    obtain rfl : x = .str ⟨s.toArray⟩ := r
    have ek : (.inr ⟨s.toArray⟩ : Key) = fS (s.map Int.ofNat) := by
      unfold fS
      rw [List.map_map]
      have : (Int.toNat ∘ Int.ofNat) = (id : Nat → Nat) := by funext n; rfl
      rw [this, List.map_id]
    have g := DGet.k (k := (.inr ⟨s.toArray⟩ : Key)) ho
    rw [ek] at g
    rcases q.look emb_S h.1 hk with ⟨h1, h2⟩ | ⟨d, y, h1, h2, h3⟩
    · rw [h2] at g
      exact .inl ⟨h1, by rw [show kV (fS (s.map Int.ofNat)) = V.str ⟨s.toArray⟩ by rw [← ek]; rfl] at g; exact g⟩
    · rw [h2] at g
      exact .inr ⟨d, y, h1, by rw [show kV (fS (s.map Int.ofNat)) = V.str ⟨s.toArray⟩ by rw [← ek]; rfl] at g; exact g, h3⟩

def dctAt (e : En) (i : Nat) : Option (Nat × List (List Int × D)) := match e[i]? with
  | some (some (.dct t kvs)) => some (t, kvs)
  | _ => none
theorem dctAt_some {e : En} {i : Nat} {p : Nat × List (List Int × D)} (h : dctAt e i = some p) : e[i]? = some (some (.dct p.1 p.2)) := by
  unfold dctAt at h
  split at h
  · rename_i t kvs hi
    cases h
    exact hi
  · cases h
/-- x[k], k in x, len(x) of a dict slot -/
def kDGet (t : Nat) (kvs : List (List Int × D)) (k : S) : R S := match keyOf t k.d with
  | some q => (match lookI kvs q with
    | some d => .ok (.val d)
    | none => .bad)
  | none => .bad
def eDGet (i : Nat) (n : Ex) : Ex := fun e => match dctAt e i with
  | some (t, kvs) => (n e).bind (kDGet t kvs)
  | _ => .bad
/-- x.get(k, v) -/
def kDGetD (t : Nat) (kvs : List (List Int × D)) (v : D) (k : S) : R S := match keyOf t k.d with
  | some q => .ok (.val ((lookI kvs q).getD v))
  | none => .bad
def kDIn (neg : Bool) (t : Nat) (kvs : List (List Int × D)) (k : S) : R S := match keyOf t k.d with
    | some q => .ok (.val (.bl (if neg then !(lookI kvs q).isSome else (lookI kvs q).isSome)))
    | none => .bad
def eDIn (neg : Bool) (i : Nat) (n : Ex) : Ex := fun e => match dctAt e i with
  | some (t, kvs) => (n e).bind (kDIn neg t kvs)
  | _ => .bad
def eDLen (i : Nat) : Ex := fun e => match dctAt e i with
  | some (_, kvs) => .ok (.val (.int kvs.length))
  | _ => .bad
/-- x = {}, x[k] = v -/
def sDNew (t : Nat) (i : Nat) : Sx := fun e => .ok (.nx (e.set i (some (.dct t []))))
def kDPut2 (t : Nat) (kvs : List (List Int × D)) (i : Nat) (e : En) (v k : S) : R Fl := match keyOf t k.d with
    | some q => if v.d.flat = true ∧ kvs.length ≤ 60000 then .ok (.nx (e.set i (some (.dct t (putI kvs q v.d))))) else .bad
    | none => .bad
def kDPut (t : Nat) (kvs : List (List Int × D)) (i : Nat) (n : Ex) (e : En) (v : S) : R Fl := (n e).bind (kDPut2 t kvs i e v)
def sDPut (i : Nat) (a n : Ex) : Sx := fun e => match dctAt e i with
  | some (t, kvs) => (a e).bind (kDPut t kvs i n e)
  | _ => .bad

section
variable {X : Cx} {W : Wi} {H0 : Hp} {Z0 : Addr → Prop} {lk : List Nat} {a b : Expr} {m n : Ex} {l k : List Nat} {pos p2 apos epos : Pos} {x : Str}
theorem get_sim {i : Nat} (σ : L2.St) (H : Hp) (Q : VK) (q : tE X.K W (eDGet i n) [] σ H Q) : L2.tDGet (tVar i) (tE X.K W n k) σ H Q := by
  obtain ⟨B, Z, rt, e, r, q⟩ := q
  unfold eDGet at q
  cases hp : dctAt e i with
  | none => rw [hp] at q; exact q.elim
  | some p =>
  obtain ⟨t, kvs⟩ := p
  have hi := dctAt_some hp
  simp only [hp] at q
  obtain ⟨h1, h2, h3, o, h4, h5⟩ := r.dct i t kvs hi
  refine ⟨_, h1, ?_⟩
  refine tE_go r (fun d hd => by rw [hd] at q; exact q) (fun hd => by rw [hd] at q; exact q) fun s y H1 hs sm r1 rs => ?_
  rw [hs, R.bind_ok] at q
  unfold kDGet at q
  have rd := rs.d (N := NZ W.g Z e rt k H) fun a z => .inr (.inl z)
  cases hk : keyOf t s.d with
  | none => simp only [hk] at q
  | some g =>
    simp only [hk] at q
    rcases dob_get (sm _ _ h4) (h5.still (Same.still sm)) hk rd with ⟨g1, _⟩ | ⟨d, v, g1, g2, g3, g4⟩
    · simp only [g1] at q
    · simp only [g1] at q
      exact ⟨rt i, v, rfl, g2, q v H1 sm (Rep.flat (Still.refl _) d v g4 g3)⟩
theorem x_dget (hu : X.A.units + 65 < cLine) (i : Nat) (hk : SE X W b n k) (hN : X.N[i]? = some x := by rfl) (hv : Vis X.env.scope x := by first | exact Or.inl rfl | exact Or.inr (Or.inl rfl) | exact Or.inr (Or.inr rfl)) (hd : (x == ("__debug__" : Str)) = false := by decide) (hcd : (x == ("__classdict__" : Str)) = false := by decide) (hs : NoSl b := by exact fun _ _ => rfl) :
    SE X W (.Subscript (.Name x p2) b pos) (eDGet i n) [] := PE.imp (pe_dget (by omega) (pe_var hN hv hd hcd) hk hs) get_sim
theorem in_sim {i : Nat} (neg : Bool) (σ : L2.St) (H : Hp) (Q : VK) (q : tE X.K W (eDIn neg i n) [] σ H Q) : tE X.K W n k σ H fun y H1 => tVar i σ H1 fun x H2 => ∃ a o, x = .ref a ∧ DGet H2 a y o ∧ Q (.bl (if neg then !o.isSome else o.isSome)) H2 := by
  obtain ⟨B, Z, rt, e, r, q⟩ := q
  unfold eDIn at q
  cases hp : dctAt e i with
  | none => rw [hp] at q; exact q.elim
  | some p =>
  obtain ⟨t, kvs⟩ := p
  have hi := dctAt_some hp
  simp only [hp] at q
  obtain ⟨h1, h2, h3, o, h4, h5⟩ := r.dct i t kvs hi
  refine tE_go r (fun d hd => by rw [hd] at q; exact q) (fun hd => by rw [hd] at q; exact q) fun s y H1 hs sm r1 rs => ?_
  refine ⟨_, h1, ?_⟩
  rw [hs, R.bind_ok] at q
  unfold kDIn at q
  have rd := rs.d (N := NZ W.g Z e rt k H) fun a z => .inr (.inl z)
  cases hk : keyOf t s.d with
  | none => simp only [hk] at q
  | some g =>
    simp only [hk] at q
    rcases dob_get (sm _ _ h4) (h5.still (Same.still sm)) hk rd with ⟨g1, g2⟩ | ⟨d, v, g1, g2, g3, g4⟩
    · simp only [g1] at q
      exact ⟨rt i, _, rfl, g2, q _ H1 sm rfl⟩
    · simp only [g1] at q
      exact ⟨rt i, _, rfl, g2, q _ H1 sm rfl⟩
theorem fl_din {neg : Bool} {i : Nat} : ∀ e s, eDIn neg i n e = .ok s → ∃ d, s = .val d ∧ d.flat = true := fun e s h => by
  unfold eDIn at h
  cases hp : dctAt e i with
  | none => rw [hp] at h; cases h
  | some p =>
  simp only [hp] at h
  cases hn : n e with
  | ok g =>
    rw [hn, R.bind_ok] at h
    unfold kDIn at h
    split at h
    · cases h; exact ⟨_, rfl, rfl⟩
    · cases h
  | ex d => rw [hn] at h; cases h
  | bad => rw [hn] at h; cases h
theorem x_din (hu : X.A.units + 65 < cLine) (i : Nat) (hk : SE X W b n k) (hN : X.N[i]? = some x := by rfl) (hv : Vis X.env.scope x := by first | exact Or.inl rfl | exact Or.inr (Or.inl rfl) | exact Or.inr (Or.inr rfl)) (hd : (x == ("__debug__" : Str)) = false := by decide) (hcd : (x == ("__classdict__" : Str)) = false := by decide) :
    SE X W (.Compare b [.In] [.Name x p2] pos) (eDIn false i n) [] := PE.imp (pe_cmp (pc_din (by omega) hk (pe_var hN hv hd hcd))) (in_sim false)
theorem x_dnotIn (hu : X.A.units + 65 < cLine) (i : Nat) (hk : SE X W b n k) (hN : X.N[i]? = some x := by rfl) (hv : Vis X.env.scope x := by first | exact Or.inl rfl | exact Or.inr (Or.inl rfl) | exact Or.inr (Or.inr rfl)) (hd : (x == ("__debug__" : Str)) = false := by decide) (hcd : (x == ("__classdict__" : Str)) = false := by decide) :
    SE X W (.Compare b [.NotIn] [.Name x p2] pos) (eDIn true i n) [] := PE.imp (pe_cmp (pc_dnotin (by omega) hk (pe_var hN hv hd hcd))) (in_sim true)
theorem t_din (hu : X.A.units + 65 < cLine) (i : Nat) (hk : SE X W b n k) (hN : X.N[i]? = some x := by rfl) (hv : Vis X.env.scope x := by first | exact Or.inl rfl | exact Or.inr (Or.inl rfl) | exact Or.inr (Or.inr rfl)) (hd : (x == ("__debug__" : Str)) = false := by decide) (hcd : (x == ("__classdict__" : Str)) = false := by decide) :
    ST X W (.Compare b [.In] [.Name x p2] pos) (tVal (eDIn false i n)) := PT.imp (pt_cmp (pc_din (by omega) hk (pe_var hN hv hd hcd))) fun σ H Q q => in_sim false σ H _ (tVal_tE q)
theorem t_dnotIn (hu : X.A.units + 65 < cLine) (i : Nat) (hk : SE X W b n k) (hN : X.N[i]? = some x := by rfl) (hv : Vis X.env.scope x := by first | exact Or.inl rfl | exact Or.inr (Or.inl rfl) | exact Or.inr (Or.inr rfl)) (hd : (x == ("__debug__" : Str)) = false := by decide) (hcd : (x == ("__classdict__" : Str)) = false := by decide) :
    ST X W (.Compare b [.NotIn] [.Name x p2] pos) (tVal (eDIn true i n)) := PT.imp (pt_cmp (pc_dnotin (by omega) hk (pe_var hN hv hd hcd))) fun σ H Q q => in_sim true σ H _ (tVal_tE q)
theorem x_dlen (i : Nat) (hm : X.mg "len" = none) (hN : X.N[i]? = some x := by rfl) (hv : Vis X.env.scope x := by first | exact Or.inl rfl | exact Or.inr (Or.inl rfl) | exact Or.inr (Or.inr rfl)) (hd : (x == ("__debug__" : Str)) = false := by decide) (hcd : (x == ("__classdict__" : Str)) = false := by decide) (hg : Gl X "len" := by rfl)
    (he : starEach [.Name x p2] X.env = (false, eval (.Name x p2) X.env) :: starEach [] X.env := by rfl) (hpl : (backTo pos (starEach ([] : List Expr) X.env)).any (·.1) = false := by rfl) :
    SE X W (.Call (.Name "len" apos) [.Name x p2] [] pos) (eDLen i) [] := by
  refine PE.imp (pe_callB (call_lenD.or call_len_dT) hg hm boot_len (pa_cons (pe_var hN hv hd hcd) pa_nil he) (by decide) (by decide) he hpl) fun σ H Q ⟨B, Z, rt, e, r, q⟩ => ?_
  unfold eDLen at q
  cases hp : dctAt e i with
  | none => rw [hp] at q; exact q.elim
  | some p =>
  obtain ⟨t, kvs⟩ := p
  have hi := dctAt_some hp
  simp only [hp] at q
  obtain ⟨h1, h2, h3, o, h4, h5⟩ := r.dct i t kvs hi
  refine ⟨_, h1, ?_⟩
  match t, h5 with
  | 0, h5 =>
    obtain ⟨ks, e, q2⟩ := h5.2
    subst e
    refine .inl ⟨rt i, ks, rfl, h4, ?_⟩
    rw [q2.length]
    exact q _ H (Same.refl H) rfl
  | 1, h5 =>
    obtain ⟨ks, e, q2⟩ := h5.2
    subst e
    refine .inr ⟨rt i, ks, rfl, h4, ?_⟩
    rw [q2.length]
    exact q _ H (Same.refl H) rfl
  | n + 2, h5 =>
    obtain ⟨ks, e, q2⟩ := h5.2
    subst e
    refine .inl ⟨rt i, ks, rfl, h4, ?_⟩
    rw [q2.length]
    exact q _ H (Same.refl H) rfl
theorem s_dnew (i : Nat) (t : Nat) {p : Pos} (hN : X.N.Nodup) (hi : X.N[i]? = some x := by rfl) (hx : Loc X.env.scope x := by first | exact Or.inl rfl | exact Or.inr rfl) (hs : swapsWith (.Dict [] [] p2) (some (.Name x p)) pos.line X.env = pure false := by rfl) (hf : X.fn x = true ∨ X.env.scope.names.lookup x = some .local := by first | exact .inl rfl | exact .inr rfl | assumption) :
    SS X W H0 Z0 lk (.Assign [.Name x p] (.Dict [] [] p2) pos) (sDNew t i) := by
  have main : ∀ (o : HO), (∀ H, DOb X.K H t [] o) → ∀ (D : Ends) (σ : L2.St) (H : Hp), tS X.K W H0 Z0 lk (sDNew t i) D σ H → tAsg (fun _ H Q => ∀ p, H p = none → Q (.ref p) (upd H p o)) (L2.gName i) D σ H := by
    rintro o ho D σ H ⟨Zl, Hb, e, ⟨s0, kp, Z, rt, h1, h2, r⟩, q⟩ p hp
    have sm : Same H (upd H p o) := same_new hp
    have r1 := r.ext sm
    have r2 := r1.setRoot i (s := .dct t []) trivial (q := p) (r.yg p hp) (fun g z => r.al g p z hp) (fun ds e => nomatch e) (fun t' kvs e => by cases e; exact ⟨o, upd_same, ho _⟩) (fun j u _ k hu z => (r.live k hu).1 (by rw [z]; exact hp))
    exact q _ _ (.new s0 kp sm h1 h2 r2)
  match t, main with
  | 0, main => exact PS.imp (ps_set hN hi hx pe_dnewK hs hf) (main (.dK []) fun H => ⟨fun p hp => (List.not_mem_nil hp).elim, ⟨[], rfl, .nil⟩⟩)
  | 1, main => exact PS.imp (ps_set hN hi hx pe_dnewT hs hf) (main (.dT []) fun H => ⟨fun p hp => (List.not_mem_nil hp).elim, ⟨[], rfl, .nil⟩⟩)
  | n + 2, main => exact PS.imp (ps_set hN hi hx pe_dnewK hs hf) (main (.dK []) fun H => ⟨fun p hp => (List.not_mem_nil hp).elim, ⟨[], rfl, .nil⟩⟩)
theorem still_d {H : Hp} {a : Addr} {o o' : HO} (ha : H a = some o) (h1 : ∀ xs, o ≠ .tup xs) (h2 : ¬ Fx o) : Still H (upd H a o') := ⟨fun b zs h => by
  rw [upd_ne (fun w => by subst w; rw [ha] at h; cases h; exact h1 _ rfl)]
  exact h, fun b u f h => by
    rw [upd_ne (fun w => by subst w; rw [ha] at h; cases h; exact h2 f)]
    exact h⟩
theorem s_dput (hu : X.A.units + 65 < cLine) (i : Nat) {tpos : Pos} (ha : SE X W a m l) (hk : SE X W b n k) (hN : X.N[i]? = some x := by rfl) (hv : Vis X.env.scope x := by first | exact Or.inl rfl | exact Or.inr (Or.inl rfl) | exact Or.inr (Or.inr rfl)) (hd : (x == ("__debug__" : Str)) = false := by decide) (hcd : (x == ("__classdict__" : Str)) = false := by decide)
    (hs : swapsWith a (some (.Subscript (.Name x p2) b tpos)) pos.line X.env = pure false := by rfl) :
    SS X W H0 Z0 lk (.Assign [.Subscript (.Name x p2) b tpos] a pos) (sDPut i m n) := by
  refine PS.imp (ps_dput (by omega) (pe_var hN hv hd hcd) hk ha hs) fun D σ H ⟨Zl, Hb, e, ⟨s0, kp, Z, rt, h1, h2, r0⟩, q⟩ => ?_
  unfold sDPut at q
  cases hp : dctAt e i with
  | none => rw [hp] at q; exact q.elim
  | some p =>
  obtain ⟨t, kvs⟩ := p
  have hi := dctAt_some hp
  simp only [hp] at q
  refine tE_go r0 (fun d hd c o H' sm => by rw [hd] at q; exact (fun z9 => q c o σ H' (s0.trans sm) (z9.mo s0))) (fun hd => by rw [hd] at q; exact q) fun s v H1 hs1 sm1 r1 rs1 => ?_
  rw [hs1, R.bind_ok] at q
  unfold kDPut at q
  obtain ⟨j1, _⟩ := r0.dct i t kvs hi
  refine ⟨_, j1, ?_⟩
  refine tE_go r1 (fun d hd c o H' sm => by rw [hd] at q; exact (fun z9 => q c o σ H' ((s0.trans sm1).trans sm) (z9.mo (s0.trans sm1)))) (fun hd => by rw [hd] at q; exact q) fun s2 y H2 hs2 sm2 r2 rs2 => ?_
  rw [hs2, R.bind_ok] at q
  unfold kDPut2 at q
  cases hkey : keyOf t s2.d with
  | none => simp only [hkey] at q; exact q.elim
  | some g =>
    simp only [hkey] at q
    split at q
    case isFalse => exact q.elim
    rename_i hf
    obtain ⟨j1, j2, j3, o, j4, j5⟩ := r2.dct i t kvs hi
    have hgk := keyOf_ok hkey
    have rv : Rep X.K (fun _ => False) H2 s.d v := Rep.flat (Still.refl _) s.d v hf.1 ((rs1.d (N := NZ W.g Z e rt l H) fun a z => .inr (.inl z)).same sm2)
    have rk := rs2.d (N := NZ W.g Z e rt k H1) fun a z => .inr (.inl z)
    have fin : ∀ o', DOb X.K H2 t (putI kvs g s.d) o' → (∀ xs, o ≠ .tup xs) → ¬ Fx o → D.nx σ (upd H2 (rt i) o') := fun o' ho n1 n2 => by
      have st := still_d (o' := o') j4 n1 n2
      have rw' := r2.writeRoot hi trivial (s := .dct t (putI kvs g s.d)) trivial st (fun ds e => nomatch e) (fun t' kvs' e => by cases e; exact ho) j1
      exact q σ _ (Body.wrR s0 kp (sm1.trans sm2) h1 h2 r2 hi trivial st rw')
    have okp := putI_ok j5.1 hgk s.d
    match t, j5, hkey, okp, fin with
    | 0, j5, hkey, okp, fin =>
      obtain ⟨ks, e2, q2⟩ := j5.2
      subst e2
      have hdp := q2.put emb_K j5.1 hgk rv hf.1
      cases hc : s2.d with
      | int i0 =>
        rw [hc] at hkey rk
        cases hkey
        obtain rfl : y = .int i0 := rk
        refine ⟨rt i, _, rfl, DPut.k (k := fK [i0]) (v := v) j4 (by rw [q2.length]; exact Nat.lt_of_le_of_lt hf.2 (by decide)), fin _ ⟨okp, ⟨_, rfl, hdp⟩⟩ (fun xs h => nomatch h) fun h => ?_⟩
        rcases h with ⟨_, _, h⟩ | ⟨_, h⟩ | ⟨_, h⟩ <;> cases h
      | _ => rw [hc] at hkey; cases hkey
    | 1, j5, hkey, okp, fin =>
      obtain ⟨ks, e2, q2⟩ := j5.2
      subst e2
      have hdp := q2.put emb_T j5.1 hgk rv hf.1
      cases hc : s2.d with
      | tup ds =>
        rw [hc] at hkey rk
        have hkey : Tg.D.ints ds = some g := hkey
        have := ints_some hkey
        subst this
        obtain ⟨b, xs, rfl, hb, rr⟩ := rk
        rw [rr.keys] at hb
        refine ⟨rt i, _, rfl, DPut.t (k := fT g) (v := v) j4 hb (by rw [q2.length]; exact Nat.lt_of_le_of_lt hf.2 (by decide)), fin _ ⟨okp, ⟨_, rfl, hdp⟩⟩ (fun xs h => nomatch h) fun h => ?_⟩
        rcases h with ⟨_, _, h⟩ | ⟨_, h⟩ | ⟨_, h⟩ <;> cases h
      | _ => rw [hc] at hkey; cases hkey
    | n + 2, j5, hkey, okp, fin =>
      cases hc : s2.d with
      | str z =>
        rw [hc] at hkey rk
        cases hkey
        obtain ⟨ks, e2, q2⟩ := j5.2
        subst e2
        have hdp := q2.put emb_S j5.1 hgk rv hf.1
        obtain rfl : y = .str ⟨z.toArray⟩ := rk
        have ek : (.inr ⟨z.toArray⟩ : Key) = fS (z.map Int.ofNat) := by
          unfold fS
          rw [List.map_map]
          have : (Int.toNat ∘ Int.ofNat) = (id : Nat → Nat) := by funext n; rfl
          rw [this, List.map_id]
        refine ⟨rt i, _, rfl, DPut.k (k := (.inr ⟨z.toArray⟩ : Key)) (v := v) j4 (by rw [q2.length]; exact Nat.lt_of_le_of_lt hf.2 (by decide)), fin _ ⟨okp, ⟨_, by rw [ek], hdp⟩⟩ (fun xs h => nomatch h) fun h => ?_⟩
        rcases h with ⟨_, _, h⟩ | ⟨_, h⟩ | ⟨_, h⟩ <;> cases h
      | _ => rw [hc] at hkey; cases hkey
end
end Tg

/-! Tg, part 19: zip of two things of any kinds. -/
namespace Tg
open PySem PySem.Spec PyProof.Rows L2

inductive Src where
  | L (a : Addr) | T (a : Addr) | X (z : Str)
def Src.v : Src → V
  | .L a => .ref a
  | .T a => .ref a
  | .X z => .str z
def Src.has (K : PySem.W.Frag) (H : Hp) : Src → List V → Prop
  | .L a, xs => SqL K H a xs
  | .T a, xs => SqT K H a xs
  | .X z, xs => xs = z.cps.toList.map fun c => V.str ⟨#[c]⟩
/-- the iterator over it, at its place -/
def Src.st (it : Addr) : Src → Nat → Heap → Prop
  | .L a, i, h => h.IsListIter it a i
  | .T a, i, h => h.IsTupleIter it a i
  | .X z, i, h => ∃ t, h.IsStrIter it (strIterType z) z t i
/-- the iterator is no part of what it walks -/
def Src.off (it : Addr) : Src → Prop
  | .L a => a ≠ it
  | .T a => a ≠ it
  | .X _ => True
def Src.no (x : Addr) : Src → Prop
  | .L a => x ≠ a
  | .T a => x ≠ a
  | .X _ => True
theorem Src.st_get {it : Addr} {S : Src} {i : Nat} {h : Heap} (q : S.st it i h) : ∃ o, h.get? it = some o ∧ ∀ v, o.data ≠ .cell v := by
  cases S with
  | L a => obtain ⟨o, e, _, d⟩ := q; exact ⟨o, e, fun v z => by rw [d] at z; cases z⟩
  | T a => obtain ⟨o, e, _, d⟩ := q; exact ⟨o, e, fun v z => by rw [d] at z; cases z⟩
  | X z => obtain ⟨t, o, e, _, d⟩ := q; exact ⟨o, e, fun v z => by rw [d] at z; cases z⟩
theorem Src.st_keep {it : Addr} {S : Src} {i : Nat} {h h' : Heap} (q : S.st it i h) (k : ∀ o, h.get? it = some o → h'.get? it = some o) : S.st it i h' := by
  cases S with
  | L a => exact q.at fun o e => k o e
  | T a => exact q.at fun o e => k o e
  | X z => obtain ⟨t, o, e, r⟩ := q; exact ⟨t, o, k o e, r⟩
/-- it draws the things that its source has -/
theorem Src.draws {X : Cx} {pins : List (Addr × Obj)} {σ : L2.St} {H : Hp} {s : Shared} (I : Inv X pins σ H s) (hc : X.calm = true) {it : Addr} {S : Src} {xs : List V} (hx : S.has X.K H xs) (ho : S.off it) {i : Nat} (q : S.st it i s.heap) :
    ∃ (fp : List Addr) (P : Nat → Value → Prop) (StF : Nat → Heap → Prop), Draws X.prog X.w X.A.in1 it fp xs.length P StF ∧ StF i s.heap ∧ (∀ j h, StF j h → S.st it j h) ∧ (∀ j u, P j u → ∃ x, xs[j]? = some x ∧ RelV x u) ∧ it ∈ fp ∧ ∀ y, y ∈ fp → y = it ∨ ¬ S.no y := by
  have hh : X.A.in1.handled = none := I.ok.hd hc
  cases S with
  | L a =>
    obtain ⟨its, rv, p, _⟩ := I.list hx
    have D := Draws.list (prog := X.prog) (w := X.w) hh it a ho its.toArray
    rw [show its.toArray.size = xs.length by simp [rv.length]] at D
    refine ⟨[it, a], _, _, D, ⟨q, p.isList⟩, fun j h z => z.1, fun j u z => ?_, by simp, fun y hy => ?_⟩
    · have z : its.toArray[j]? = some u := z
      have z : its[j]? = some u := by simpa using z
      have hj : j < xs.length := by rw [rv.length]; exact (List.getElem?_eq_some_iff.mp z).1
      obtain ⟨u2, h1, h2⟩ := rv.get (List.getElem?_eq_getElem hj)
      rw [z] at h1
      cases h1
      exact ⟨_, List.getElem?_eq_getElem hj, h2⟩
    · have : y = it ∨ y = a := by simpa using hy
      exact this.imp id fun e z => z e
  | T a =>
    obtain ⟨its, rv, p, _⟩ := I.tuple hx
    have D := Draws.tuple (prog := X.prog) (w := X.w) hh it a ho its.toArray
    rw [show its.toArray.size = xs.length by simp [rv.length]] at D
    refine ⟨[it, a], _, _, D, ⟨q, p⟩, fun j h z => z.1, fun j u z => ?_, by simp, fun y hy => ?_⟩
    · have z : its.toArray[j]? = some u := z
      have z : its[j]? = some u := by simpa using z
      have hj : j < xs.length := by rw [rv.length]; exact (List.getElem?_eq_some_iff.mp z).1
      obtain ⟨u2, h1, h2⟩ := rv.get (List.getElem?_eq_getElem hj)
      rw [z] at h1
      cases h1
      exact ⟨_, List.getElem?_eq_getElem hj, h2⟩
    · have : y = it ∨ y = a := by simpa using hy
      exact this.imp id fun e z => z e
  | X z =>
    obtain ⟨t, q⟩ := q
    have hx : xs = z.cps.toList.map fun c => V.str ⟨#[c]⟩ := hx
    subst hx
    have D := Draws.text (prog := X.prog) (w := X.w) hh it z t
    rw [show z.cps.size = (z.cps.toList.map fun c => V.str ⟨#[c]⟩).length by simp] at D
    refine ⟨[it], _, _, D, q, fun j h k => ⟨t, k⟩, fun j u k => ?_, by simp, fun y hy => .inl (by simpa using hy)⟩
    obtain ⟨c, tk, h1, rfl⟩ := k
    refine ⟨.str ⟨#[c]⟩, ?_, tk, rfl⟩
    rw [List.getElem?_map]
    have : z.cps.toList[j]? = some c := by simpa using h1
    rw [this]
    rfl
theorem Src.has_inj {X : Cx} {pins : List (Addr × Obj)} {σ : L2.St} {H : Hp} {s : Shared} (I : Inv X pins σ H s) {S : Src} {xs ys : List V} (h : S.has X.K H xs) (h' : S.has X.K H ys) : xs = ys := by
  cases S with
  | L a => exact I.list_inj h h'
  | T a => exact I.tuple_inj h h'
  | X z => exact (show xs = _ from h).trans (show ys = _ from h').symm
/-- the two of them, the things in new pairs -/
def ItzM (K : PySem.W.Frag) (S1 S2 : Src) : It :=
  ⟨fun i H => ∃ (xs ys : List V) (x y : V), S1.has K H xs ∧ S2.has K H ys ∧ xs[i]? = some x ∧ ys[i]? = some y,
    fun i H v H' => ∃ T x y, v = .ref T ∧ H T = none ∧ H' = upd H T (.tup [x, y]) ∧ (∀ xs, S1.has K H xs → xs[i]? = some x) ∧ ∀ ys, S2.has K H ys → ys[i]? = some y,
    fun i H => ∃ xs ys : List V, S1.has K H xs ∧ S2.has K H ys ∧ i ≤ xs.length ∧ i ≤ ys.length ∧ (xs.length = i ∨ ys.length = i)⟩
structure Apart (z TI TO i1 i2 : Addr) (S1 S2 : Src) : Prop where
  TIz : TI ≠ z
  TOz : TO ≠ z
  TITO : TI ≠ TO
  TIi1 : TI ≠ i1
  TIi2 : TI ≠ i2
  zi1 : z ≠ i1
  zi2 : z ≠ i2
  Ti1 : TO ≠ i1
  Ti2 : TO ≠ i2
  i12 : i1 ≠ i2
  off1 : S1.off i1
  off2 : S2.off i2
  z1 : S1.no z
  z2 : S2.no z
  T1 : S1.no TO
  T2 : S2.no TO
  i1' : S2.no i1
  i2' : S1.no i2
theorem turn_zipM {P : Program} {w : World} {K : PySem.W.Frag} {elts : List Expr} {kk : Nat} {tpos : Pos} {S1 S2 : Src} {z TI TO i1 i2 : Addr} (D : Apart z TI TO i1 i2 S1 S2) :
    Turn P w K (.Tuple elts kk tpos) (ItzM K S1 S2) [z, TI, TO, i1, i2] z (fun i h => IsZip h z TI TO .none ∧ IsPair h TI (.ref i1) (.ref i2) ∧ (∃ x y, IsPair h TO x y) ∧ S1.st i1 i h ∧ S2.st i2 i h) where
  mem := by simp
  obj := fun i h st c hc => by
    obtain ⟨hz, hTI, ⟨x, y, hTO⟩, q1, q2⟩ := st
    have e' : c = z ∨ c = TI ∨ c = TO ∨ c = i1 ∨ c = i2 := by simpa using hc
    rcases e' with q | q | q | q | q
    · rw [q]; exact ⟨_, hz, fun v q => nomatch q⟩
    · rw [q]; exact ⟨_, hTI, fun v q => nomatch q⟩
    · rw [q]; exact ⟨_, hTO, fun v q => nomatch q⟩
    · rw [q]; exact Src.st_get q1
    · rw [q]; exact Src.st_get q2
  keep := fun i h h' st k => by
    obtain ⟨hz, hTI, ⟨x, y, hTO⟩, h1, h2⟩ := st
    exact ⟨k z (by simp) _ hz, k TI (by simp) _ hTI, ⟨x, y, k TO (by simp) _ hTO⟩, Src.st_keep h1 fun o q => k i1 (by simp) o q, Src.st_keep h2 fun o q => k i2 (by simp) o q⟩
  item := by
    intro X hP hw hK hc i pins s σ H E I hf st hg
    subst hP hw hK
    obtain ⟨hz, hTI, ⟨x0, y0, hTO⟩, h1, h2⟩ := st
    obtain ⟨xs, ys, x, y, hqx, hqy, hx, hy⟩ := hg
    obtain ⟨fp1, P1, F1, D1, g1, b1, c1, m1, f1⟩ := Src.draws I hc hqx D.off1 h1
    obtain ⟨fp2, P2, F2, D2, g2, b2, c2, m2, f2⟩ := Src.draws I hc hqy D.off2 h2
    have sep : ZipSep2 z TI TO i1 i2 fp1 fp2 := ⟨D.TIz, D.TOz, D.TITO, D.TIi1, m1, fun q => (f1 z q).elim D.zi1 fun r => r D.z1, fun q => (f1 TO q).elim D.Ti1 fun r => r D.T1, D.TIi2, m2, fun q => (f2 z q).elim D.zi2 fun r => r D.z2, fun q => (f2 TO q).elim D.Ti2 fun r => r D.T2, fun q => (f2 i1 q).elim D.i12 fun r => r D.i1', fun q => (f1 i2 q).elim D.i12.symm fun r => r D.i2'⟩
    have hlx := (List.getElem?_eq_some_iff.mp hx).1
    have hly := (List.getElem?_eq_some_iff.mp hy).1
    have hzl : z < s.heap.objs.size := Heap.lt_size hz
    refine wpAny_pyNext_zipD2_item sep D1 D2 hz hTI hTO g1 g2 hlx hly fun u u2 h' tk p1 p2 z' TO' h1' h2' hT hsz hk => ?_
    obtain ⟨x', ex, ru⟩ := c1 i u p1
    obtain ⟨y', ey, ru2⟩ := c2 i u2 p2
    rw [hx] at ex
    rw [hy] at ey
    cases ex
    cases ey
    refine ⟨_, rfl, wpAny_letOwnedTupleGo_zip (s := { s with heap := h', toks := tk }) z' fun h'' z'' sb => ?_⟩
    have hT2 : h''.get? s.heap.objs.size = some { cls := .type "tuple", data := .seq #[u, u2] } := (sb.2 _ (Nat.ne_of_gt hzl)).trans hT
    have new : ObjOk X.prog X.w (upd H s.heap.objs.size (.tup [x, y])) h'' s.heap.objs.size (.tup [x, y]) :=
      ⟨by show 2 ≤ sizeLine; decide, [u, u2], .cons ru (.cons ru2 .nil), ⟨_, hT2, rfl, _, rfl⟩⟩
    have I1 : Inv X pins σ (upd H s.heap.objs.size (.tup [x, y])) { s with heap := h'', toks := tk } :=
      I.turnedNew (t' := tk) (ch := [z, TI, TO, i1, i2]) (fun c o hb q => (sb.2 c (fun q' => hb (by simp [q']))).trans (hk c o (fun q' => hb (by simp [q'])) (fun q' => hb (by simp [q'])) (fun q' => hb (by simp [q'])) (fun q' => hb (by simp [q'])) q)) hf (Nat.le_refl _) new
    refine ⟨.ref s.heap.objs.size, _, I1, rfl, ⟨_, x, y, rfl, I.hok.fresh (Nat.le_refl _), rfl, fun l hl => by rw [Src.has_inj I hl hqx]; exact hx, fun l hl => by rw [Src.has_inj I hl hqy]; exact hy⟩, ⟨z'', ?_, ⟨u, u2, ?_⟩, ?_, ?_⟩, fun c hcm => ?_⟩
    · exact (sb.2 _ D.TIz).trans (hk _ _ D.TIz D.TITO D.TIi1 D.TIi2 hTI)
    · exact (sb.2 _ D.TOz).trans TO'
    · exact Src.st_keep (b1 _ _ h1') fun o q => (sb.2 _ D.zi1.symm).trans q
    · exact Src.st_keep (b2 _ _ h2') fun o q => (sb.2 _ D.zi2.symm).trans q
    · have hlt : c < s.heap.objs.size := by
        have e' : c = z ∨ c = TI ∨ c = TO ∨ c = i1 ∨ c = i2 := by simpa using hcm
        rcases e' with q | q | q | q | q
        · rw [q]; exact hzl
        · rw [q]; exact Heap.lt_size hTI
        · rw [q]; exact Heap.lt_size hTO
        · rw [q]; obtain ⟨_, e1, _⟩ := Src.st_get h1; exact Heap.lt_size e1
        · rw [q]; obtain ⟨_, e2, _⟩ := Src.st_get h2; exact Heap.lt_size e2
      rw [upd_ne (Nat.ne_of_lt hlt)]
      exact (hf c hcm).1
  done := by
    intro X hP hw hK hc i pins s σ H E I hf st hg
    subst hP hw hK
    obtain ⟨hz, hTI, ⟨x0, y0, hTO⟩, h1, h2⟩ := st
    obtain ⟨xs, ys, hqx, hqy, hl1, hl2, hend⟩ := hg
    obtain ⟨fp1, P1, F1, D1, g1, b1, c1, m1, f1⟩ := Src.draws I hc hqx D.off1 h1
    obtain ⟨fp2, P2, F2, D2, g2, b2, c2, m2, f2⟩ := Src.draws I hc hqy D.off2 h2
    have sep : ZipSep2 z TI TO i1 i2 fp1 fp2 := ⟨D.TIz, D.TOz, D.TITO, D.TIi1, m1, fun q => (f1 z q).elim D.zi1 fun r => r D.z1, fun q => (f1 TO q).elim D.Ti1 fun r => r D.T1, D.TIi2, m2, fun q => (f2 z q).elim D.zi2 fun r => r D.z2, fun q => (f2 TO q).elim D.Ti2 fun r => r D.T2, fun q => (f2 i1 q).elim D.i12 fun r => r D.i1', fun q => (f1 i2 q).elim D.i12.symm fun r => r D.i2'⟩
    exact wpAny_pyNext_zipD2_end sep D1 D2 hz hTI hTO g1 g2 hl1 hl2 (hend.imp Eq.symm Eq.symm) fun h' tk hk => ⟨rfl, I.turnedL (t' := tk) (ch := [z, TI, TO, i1, i2]) (fun c o hb q =>
      hk c o (fun q' => hb (by simp [q'])) (fun q' => hb (by simp [q'])) (fun q' => hb (by simp [q'])) (fun q' => hb (by simp [q'])) q) hf⟩
  self := fun A i s Q E st h => wpAny_pyIter_zip st.1 h
/-- iter(v) of a source -/
theorem Src.begins {X : Cx} {pins : List (Addr × Obj)} {σ : L2.St} {H : Hp} {s : Shared} (I : Inv X pins σ H s) {S : Src} {xs : List V} (hx : S.has X.K H xs) {u : Value} (r : RelV S.v u) :
    ∃ (o : Obj) (HH : Heap → Prop), Begins u o HH ∧ HH s.heap ∧ (∀ it h, h.get? it = some o → S.st it 0 h) ∧ ∀ it, s.heap.objs.size ≤ it → S.off it ∧ S.no it := by
  cases S with
  | L a =>
    obtain ⟨its, rv, p, _⟩ := I.list hx
    cases r
    have hl := p.lt
    exact ⟨_, _, begins_list a its.toArray, p.isList, fun it h e => ⟨_, e, rfl, rfl⟩, fun it h => ⟨Nat.ne_of_lt (Nat.lt_of_lt_of_le hl h), Nat.ne_of_gt (Nat.lt_of_lt_of_le hl h)⟩⟩
  | T a =>
    obtain ⟨its, rv, p, _⟩ := I.tuple hx
    cases r
    have hl : a < s.heap.objs.size := by
      obtain ⟨o1, ho1, _⟩ := id p
      exact Heap.lt_size ho1
    exact ⟨_, _, begins_tuple a its.toArray, p, fun it h e => ⟨_, e, rfl, rfl⟩, fun it h => ⟨Nat.ne_of_lt (Nat.lt_of_lt_of_le hl h), Nat.ne_of_gt (Nat.lt_of_lt_of_le hl h)⟩⟩
  | X z =>
    obtain ⟨t, rfl⟩ := r
    exact ⟨_, _, begins_text z t, trivial, fun it h e => ⟨t, _, e, rfl, rfl⟩, fun it h => ⟨trivial, trivial⟩⟩
def iZipM (K : PySem.W.Frag) (ta : TA) : TI := fun σ H R => ta σ H fun vs H1 => ∃ S1 S2 xs ys, vs = [Src.v S1, Src.v S2] ∧ S1.has K H1 xs ∧ S2.has K H1 ys ∧ R (ItzM K S1 S2) H1
theorem pi_zipM {X : Cx} {e e2 : Expr} {ta : TA} {p pos tpos : Pos} {elts : List Expr} {kk : Nat} (hg : Gl X "zip") (hm : X.mg "zip" = none) (ha : PA X [e, e2] ta)
    (hs : starEach [e, e2] X.env = (false, eval e X.env) :: starEach [e2] X.env := by rfl) (hpl : (backTo pos (starEach [e2] X.env)).any (·.1) = false := by rfl) :
    PI X (.Tuple elts kk tpos) (.Call (.Name "zip" p) [e, e2] [] pos) (iZipM X.K ta) := by
  refine ⟨fun pins s σ H R I h => ?_⟩
  refine Call_ (ld_blt I hg hm PyProof.Rows.boot_zip (PyProof.Rows.callWith_type1 (thn (ha.run pos pins s σ H _ I h) fun us s1 ⟨vs, H1, I1, r1, q1⟩ => ?_) hs hpl))
  obtain ⟨S1, S2, xs, ys, ex, hqx, hqy, q⟩ := q1
  subst ex
  cases r1 with
  | cons r rr =>
    cases rr with
    | cons r' rr =>
      cases rr
      have fresh5 : ∀ c, c ∈ [s1.heap.objs.size + 4, s1.heap.objs.size + 2, s1.heap.objs.size + 3, s1.heap.objs.size, s1.heap.objs.size + 1] → FpOk X pins H1 c := fun c hcm => by
        have e' : c = s1.heap.objs.size + 4 ∨ c = s1.heap.objs.size + 2 ∨ c = s1.heap.objs.size + 3 ∨ c = s1.heap.objs.size ∨ c = s1.heap.objs.size + 1 := by simpa using hcm
        have hle : s1.heap.objs.size ≤ c := by
          rcases e' with z | z | z | z | z
          · rw [z]; exact Nat.le_add_right _ _
          · rw [z]; exact Nat.le_add_right _ _
          · rw [z]; exact Nat.le_add_right _ _
          · rw [z]; exact Nat.le_refl _
          · rw [z]; exact Nat.le_add_right _ _
        exact I1.fpOk hle (I1.hok.fresh hle)
      obtain ⟨o1, HH1, B1, k1, st1, n1⟩ := Src.begins I1 hqx r
      obtain ⟨o2, HH2, B2, k2, st2, n2⟩ := Src.begins I1 hqy r'
      refine zip_begins2 B1 B2 k1 k2 fun h' hz hTI hTO g1 g2 hsz hk => wpAny_pyIter_zip hz ?_
      have I2 : Inv X pins σ H1 { s1 with heap := h' } := I1.kept (t' := s1.toks) hk
      have ap : Apart (s1.heap.objs.size + 4) (s1.heap.objs.size + 2) (s1.heap.objs.size + 3) s1.heap.objs.size (s1.heap.objs.size + 1) S1 S2 := by
        generalize s1.heap.objs.size = N at n1 n2
        refine ⟨?_, ?_, ?_, ?_, ?_, ?_, ?_, ?_, ?_, ?_, (n1 N (Nat.le_refl _)).1, (n2 (N + 1) (Nat.le_add_right _ _)).1, (n1 (N + 4) (Nat.le_add_right _ _)).2, (n2 (N + 4) (Nat.le_add_right _ _)).2, (n1 (N + 3) (Nat.le_add_right _ _)).2, (n2 (N + 3) (Nat.le_add_right _ _)).2, (n2 N (Nat.le_refl _)).2, (n1 (N + 1) (Nat.le_add_right _ _)).2⟩ <;> (intro e; have e : (_ : Nat) = _ := e; omega)
      exact ⟨s1.heap.objs.size + 4, [s1.heap.objs.size + 4, s1.heap.objs.size + 2, s1.heap.objs.size + 3, s1.heap.objs.size, s1.heap.objs.size + 1], _, _, H1, rfl, I2, turn_zipM ap, ⟨hz, hTI, ⟨_, _, hTO⟩, st1 _ _ g1, st2 _ _ g2⟩, fresh5, q⟩
/-! the reading -/
def seqOf : D → Option (List D)
  | .lst ds => some ds
  | .tup ds => some ds
  | .str cs => some (cs.map fun c => D.str [c])
  | _ => none
def kzM (x y : S) : R (List D) := match seqOf x.d, seqOf y.d with
  | some ds, some es => .ok (zipD ds es)
  | _, _ => .bad
def aZipM (a b : Ex) : Ax := fun e => (a e).bind fun x => (b e).bind (kzM x)
/-- a source of data -/
theorem src_of {K : PySem.W.Frag} {N : Addr → Prop} {H : Hp} {d : D} {x : V} {ds : List D} (r : Rep K N H d x) (h : seqOf d = some ds) :
    ∃ S xs, x = Src.v S ∧ S.has K H xs ∧ RepL K N H ds xs ∧ ∀ H', Kp (fun a => N a ∧ H a ≠ none) H H' → S.has K H' xs := by
  match d, h, r with
  | .str cs, h, r =>
    cases h
    obtain rfl : x = .str ⟨cs.toArray⟩ := r
    refine ⟨.X ⟨cs.toArray⟩, _, rfl, rfl, ?_, fun H' _ => rfl⟩
    have e : (⟨cs.toArray⟩ : Str).cps.toList = cs := by simp
    rw [e]
    have go : ∀ cs : List Nat, RepL K N H (cs.map fun c => D.str [c]) (cs.map fun c => V.str ⟨#[c]⟩) := by
      intro cs
      induction cs with
      | nil => rfl
      | cons c cs ih => exact ⟨_, _, rfl, rfl, ih⟩
    exact go cs
  | .tup es, h, r =>
    cases h
    obtain ⟨a, xs, rfl, hs, rr⟩ := r
    exact ⟨.T a, xs, rfl, sqt hs, rr, fun H' k => sqt (k.2.rd hs)⟩
  | .lst es, h, r =>
    cases h
    obtain ⟨a, xs, rfl, ⟨hn, hs⟩, rr⟩ := r
    exact ⟨.L a, xs, rfl, .inl (.inl hs), rr, fun H' k => .inl (.inl (k.1 a xs ⟨hn, by rw [hs]; exact nofun⟩ hs))⟩
theorem it_zipM {K : PySem.W.Frag} {N : Addr → Prop} {H : Hp} {ds es : List D} {xs ys : List V} {S1 S2 : Src} (h1 : ∀ H', Kp N H H' → S1.has K H' xs) (r : RepL K N H ds xs) (h2 : ∀ H', Kp N H H' → S2.has K H' ys) (s : RepL K N H es ys) : ItRep K N H (zipD ds es) (ItzM K S1 S2) := by
  refine ⟨fun i H2 k hi => ?_, fun i H2 x H3 d k hd ⟨T, y1, y2, ex, hT, e3, f1, f2⟩ => ?_, fun i H2 k hi hi2 => ?_⟩
  · rw [zipD_len] at hi
    have g1 : i < xs.length := by rw [r.length]; omega
    have g2 : i < ys.length := by rw [s.length]; omega
    exact ⟨xs, ys, xs[i], ys[i], h1 H2 k, h2 H2 k, List.getElem?_eq_getElem g1, List.getElem?_eq_getElem g2⟩
  · subst ex e3
    obtain ⟨d1, d2, q1, q2, rfl⟩ := zipD_get ds es i d hd
    obtain ⟨v1, w1, k1⟩ := r.get q1
    obtain ⟨v2, w2, k2⟩ := s.get q2
    have e1 := f1 xs (h1 H2 k)
    have e2 := f2 ys (h2 H2 k)
    rw [w1] at e1
    rw [w2] at e2
    cases e1
    cases e2
    exact ⟨same_new hT, T, _, rfl, upd_same, _, _, rfl, (k1.kp k).same (same_new hT), _, _, rfl, (k2.kp k).same (same_new hT), rfl⟩
  · rw [zipD_len] at hi hi2
    have e1 := r.length
    have e2 := s.length
    exact ⟨xs, ys, h1 H2 k, h2 H2 k, by omega, by omega, by omega⟩
section
variable {X : Cx} {W : Wi} {a b : Expr} {m n : Ex} {l k : List Nat} {pos p : Pos}
theorem i_zipM {elts : List Expr} {kk : Nat} {tpos : Pos} (hm : X.mg "zip" = none) (ha : SE X W a m l) (hb : SE X W b n k) (hg : Gl X "zip" := by rfl) (he : starEach [a, b] X.env = (false, eval a X.env) :: starEach [b] X.env := by rfl) (he2 : starEach [b] X.env = (false, eval b X.env) :: starEach [] X.env := by rfl) (hpl : (backTo pos (starEach [b] X.env)).any (·.1) = false := by rfl) :
    SI X W (.Tuple elts kk tpos) (.Call (.Name "zip" p) [a, b] [] pos) (aZipM m n) (l ++ k) := by
  refine PI.imp (pi_zipM hg hm (pa_cons ha (pa_cons hb pa_nil he2) he) he hpl) fun σ H R0 ⟨B, Z, rt, e, r, q⟩ => ?_
  unfold aZipM at q
  refine tE_go r (fun d hd => by rw [hd] at q; exact q) (fun hd => by rw [hd] at q; exact q) fun s x H1 hs sm r1 rs => ?_
  rw [hs, R.bind_ok] at q
  refine tE_go r1 (fun d hd c o H' sm' => by rw [hd] at q; exact (fun z9 => q c o H' (sm.trans sm') (z9.mo sm))) (fun hd => by rw [hd] at q; exact q) fun s2 y H2 hs2 sm2 r2 rs2 => ?_
  rw [hs2, R.bind_ok] at q
  unfold kzM at q
  have e1 : Rep X.K (NZ W.g Z e rt (l ++ k) H) H2 s.d x := ((rs.mono fun a z => NZ.mono (fun i hi => List.mem_append_left _ hi) z).d fun a z => .inr (.inl z)).same sm2
  have e2 : Rep X.K (NZ W.g Z e rt (l ++ k) H) H2 s2.d y := (rs2.mono fun a z => (NZ.mono (fun i hi => List.mem_append_right _ hi) z).back sm).d fun a z => .inr (.inl (sm.free z))
  cases h1 : seqOf s.d with
  | none => simp only [h1] at q
  | some ds =>
    cases h2 : seqOf s2.d with
    | none => simp only [h1, h2] at q
    | some es =>
      simp only [h1, h2] at q
      obtain ⟨S1, xs, rfl, g1, g2, g3⟩ := src_of e1 h1
      obtain ⟨S2, ys, rfl, f1, f2, f3⟩ := src_of e2 h2
      have al : ∀ {ds : List D} {xs : List V}, RepL X.K (NZ W.g Z e rt (l ++ k) H) H2 ds xs → RepL X.K (fun a => NZ W.g Z e rt (l ++ k) H a ∧ H2 a ≠ none) H2 ds xs := fun h => RepL.imp (fun a ys n z => ⟨⟨n, by rw [z]; exact nofun⟩, z⟩) (Still.refl _) _ _ h
      exact ⟨S1, S2, xs, ys, rfl, g1, f1, q _ H2 (sm.trans sm2) (it_zipM g3 (al g2) f3 (al f2))⟩
end
end Tg

/-! Tg, part 20: dicts of the module and constant ones, what is known to bear no list, a list display read at once. -/
namespace Tg
open PySem PySem.Spec PyProof.Rows L2
section
variable {X : Cx} {W : Wi} {H0 : Hp} {Z0 : Addr → Prop} {lk : List Nat} {a b : Expr} {m n : Ex} {l k : List Nat} {pos p2 apos epos : Pos} {x : Str}
/-! a dict of the module -/
def GDic (K : PySem.W.Frag) (w : World) (d : Addr) (kvs : List (List Nat × D)) : Prop := ∀ s v, lookD kvs s = some v → v.flat = true ∧ ∃ x, KDct K w d ⟨s.toArray⟩ x ∧ ∀ N H, Rep K N H v x
theorem gd_nil {K : PySem.W.Frag} {w : World} {d : Addr} : GDic K w d [] := fun s v h => by cases h
theorem gd_cons {K : PySem.W.Frag} {w : World} {d : Addr} {r : List (List Nat × D)} {s t : List Nat} {es : Array DictEntry} {c : Nat} {tk : Tok} {z : Str} (hl : K.lookup d = some ⟨.type "dict", none, .dict es c, #[]⟩) (hk : PySem.W.KeysLit w.params es.toList) (hs : z = ⟨s.toArray⟩) {z2 : Str} (ht : z2 = ⟨t.toArray⟩) (h : PySem.W.nsIn K d z = some (some (.str z2 tk))) (g : GDic K w d r) : GDic K w d ((s, .str t) :: r) := fun q v e => by
  by_cases c : s = q
  · subst c
    have e : some (D.str t) = some v := by simpa [lookD] using e
    cases e
    subst hs ht
    exact ⟨rfl, .str ⟨t.toArray⟩, ⟨es, _, _, hl, hk, h, tk, rfl⟩, fun N H => rfl⟩
  · refine g q v ?_
    have e2 : lookD ((s, .str t) :: r) q = lookD r q := by simp [lookD, List.find?_cons, c]
    rw [← e2]
    exact e
theorem x_gdic {d : Addr} (kvs : List (List Nat × D)) (hm : X.mg x = some (.ref d)) (T : GDic X.K X.w d kvs) (hb : SE X W b n k) (hg : Gl X x := by rfl) (hd : (x == ("__debug__" : Str)) = false := by decide) (hs : PlainIx b := by exact fun _ _ => rfl) : SE X W (.Subscript (.Name x p2) b pos) (eDic kvs n) [] := by
  refine x_flat (l := []) (PE.imp (pe_ix ix_kdict (pe_glob hg hm (show RelV (.ref d) (.ref d) from rfl) hd) hb hs) fun σ H Q ⟨B, Z, rt, e, r, q⟩ => ?_) fun e s q => ?_
  · unfold eDic at q
    refine tE_go r (fun d hd c o H' sm' => by rw [hd] at q; exact q c o H' sm') (fun hd => by rw [hd] at q; exact q) fun s y H2 hs2 sm2 r2 rs => ?_
    rw [hs2, R.bind_ok] at q
    have rd := rs.d (N := NZ W.g Z e rt k H) fun a z => .inr (.inl z)
    cases hd : s.d <;> simp only [hd] at q
    rename_i t
    cases hk : lookD kvs t with
    | none => simp only [hk] at q
    | some v =>
      simp only [hk] at q
      rw [hd] at rd
      obtain rfl : y = .str ⟨t.toArray⟩ := rd
      obtain ⟨_, x, h1, h2⟩ := T t v hk
      exact ⟨d, _, x, rfl, rfl, h1, q x H2 sm2 (h2 _ _)⟩
  · unfold eDic at q
    cases hn : n e with
    | bad => rw [hn] at q; cases q
    | ex d => rw [hn] at q; cases q
    | ok x =>
      rw [hn, R.bind_ok] at q
      cases hd : x.d <;> simp only [hd] at q <;> first | cases q | skip
      rename_i t
      cases hk : lookD kvs t with
      | none => simp only [hk] at q; cases q
      | some v =>
        simp only [hk] at q
        cases q
        exact ⟨v, rfl, (T t v hk).1⟩
/-! what is known to bear no list shares with nothing -/
def kFl (s : S) : R S := if s.flat = true then .ok s else .bad
def eFl (m : Ex) : Ex := fun e => (m e).bind kFl
theorem x_fl {x : Expr} (h : SE X W x m l) : SE X W x (eFl m) [] := PE.imp h fun σ H Q ⟨B, Z, rt, e, r, q⟩ => ⟨B, Z, rt, e, r, by
  unfold eFl at q
  cases hm : m e with
  | bad => rw [hm] at q; exact q
  | ex d => rw [hm] at q; exact q
  | ok s =>
    rw [hm, R.bind_ok] at q
    unfold kFl at q
    by_cases hf : s.flat = true
    · rw [if_pos hf] at q
      intro x H' sm rs
      refine q x H' sm ?_
      cases s with
      | val d => exact Rep.flat (Still.refl _) d x hf rs
      | own ds =>
        obtain ⟨r, xs, e, h1, h2, h3⟩ := rs
        exact ⟨r, xs, e, h1, h2, RepL.flat (Still.refl _) ds xs hf h3⟩
      | dct t kvs => exact rs.elim
    · rw [if_neg hf] at q
      exact q.elim⟩
/-! [a, b, ..][k]: the chosen thing keeps its own list -/
abbrev AxS := En → R (List S)
def cNil : AxS := fun _ => .ok []
def kc2 (x : S) (xs : List S) : R (List S) := .ok (x :: xs)
def kc1 (r : AxS) (e : En) (x : S) : R (List S) := (r e).bind (kc2 x)
def cCons (a : Ex) (r : AxS) : AxS := fun e => (a e).bind (kc1 r e)
def RepSL (K : PySem.W.Frag) (N : Addr → Prop) (H H' : Hp) : List S → List V → Prop
  | [], xs => xs = []
  | s :: r, xs => ∃ y ys, xs = y :: ys ∧ RepS K N H H' s y ∧ RepSL K N H H' r ys
theorem RepSL.mono {K : PySem.W.Frag} {N N' : Addr → Prop} {H H' : Hp} (f : ∀ a, N a → N' a) : ∀ {ss : List S} {xs : List V}, RepSL K N H H' ss xs → RepSL K N' H H' ss xs
  | [], _, h => h
  | _ :: _, _, ⟨y, ys, e, h1, h2⟩ => ⟨y, ys, e, h1.mono f, h2.mono f⟩
theorem RepSL.back {K : PySem.W.Frag} {N : Addr → Prop} {H H' H0 : Hp} (sm : Same H0 H) : ∀ {ss : List S} {xs : List V}, RepSL K N H H' ss xs → RepSL K N H0 H' ss xs
  | [], _, h => h
  | _ :: _, _, ⟨y, ys, e, h1, h2⟩ => ⟨y, ys, e, h1.back sm, h2.back sm⟩
theorem RepSL.same {K : PySem.W.Frag} {N : Addr → Prop} {H H' H2 : Hp} (sm : Same H' H2) : ∀ {ss : List S} {xs : List V}, RepSL K N H H' ss xs → RepSL K N H H2 ss xs
  | [], _, h => h
  | _ :: _, _, ⟨y, ys, e, h1, h2⟩ => ⟨y, ys, e, h1.same sm, h2.same sm⟩
theorem RepSL.length {K : PySem.W.Frag} {N : Addr → Prop} {H H' : Hp} : ∀ {ss : List S} {xs : List V}, RepSL K N H H' ss xs → xs.length = ss.length
  | [], _, h => by rw [show _ = [] from h]; rfl
  | _ :: _, _, ⟨y, ys, e, h1, h2⟩ => by rw [e, List.length_cons, List.length_cons, h2.length]
theorem RepSL.get {K : PySem.W.Frag} {N : Addr → Prop} {H H' : Hp} : ∀ {ss : List S} {xs : List V} {i : Nat} {s : S}, RepSL K N H H' ss xs → ss[i]? = some s → ∃ x, xs[i]? = some x ∧ RepS K N H H' s x
  | [], _, _, _, _, q => by simp at q
  | s :: r, _, 0, c, ⟨y, ys, e, h1, _⟩, q => by
    have q' : s = c := by simpa using q
    subst q'
    exact ⟨y, by rw [e]; rfl, h1⟩
  | s :: r, _, i + 1, _, ⟨y, ys, e, _, h2⟩, q => by
    obtain ⟨x, e1, h⟩ := RepSL.get (i := i) h2 (by simpa using q)
    exact ⟨x, by rw [e]; simpa using e1, h⟩
def tC (K : PySem.W.Frag) (W : Wi) (m : AxS) (l : List Nat) : TA := fun σ H Q => ∃ (B : Addr → Prop) (Z : Nat → Addr → Prop) (rt : Nat → Addr) (e : En), Rel K B W.g Z rt e σ H ∧
  match m e with
  | .ok ss => ∀ xs H', Same H H' → RepSL K (NZ W.g Z e rt l H) H H' ss xs → Q xs H'
  | .ex d => ∀ c o H', Same H H' → (XC W.xr H d c o H' → W.w c o σ H')
  | .bad => False
abbrev SC (X : Cx) (W : Wi) (x : List Expr) (m : AxS) (l : List Nat) : Prop := PA X x (Tg.tC X.K W m l)
theorem c_nil : SC X W [] cNil [] := PA.imp pa_nil fun σ H Q ⟨B, Z, rt, e, r, q⟩ => q [] H (Same.refl H) rfl
theorem c_cons {x : Expr} {xs : List Expr} {m : Ex} {n : AxS} {l k : List Nat} (h : SE X W x m l) (g : SC X W xs n k) (hs : starEach (x :: xs) X.env = (false, eval x X.env) :: starEach xs X.env := by rfl) : SC X W (x :: xs) (cCons m n) (l ++ k) := by
  refine PA.imp (pa_cons h g hs) fun σ H Q ⟨B, Z, rt, e, r0, q⟩ => ?_
  unfold cCons at q
  refine tE_go r0 (fun d hd => by rw [hd] at q; exact q) (fun hd => by rw [hd] at q; exact q) fun s x H1 hs sm r1 rs => ?_
  rw [hs, R.bind_ok] at q
  unfold kc1 at q
  refine ⟨B, Z, rt, e, r1, ?_⟩
  cases hn : n e with
  | bad => rw [hn] at q; exact q.elim
  | ex d =>
    rw [hn] at q
    exact fun c o H' sm' => (fun z9 => q c o H' (sm.trans sm') (z9.mo sm))
  | ok ss =>
    rw [hn, R.bind_ok] at q
    exact fun ys H2 sm2 rs2 => q _ H2 (sm.trans sm2) ⟨x, ys, rfl, (rs.mono fun a z => NZ.mono (fun i hi => List.mem_append_left _ hi) z).same sm2, (rs2.mono fun a z => (NZ.mono (fun i hi => List.mem_append_right _ hi) z).back sm).back sm⟩
def kSel (ss : List S) (k : S) : R S := match k.d with
  | .int i => (match atI ss i with
    | some s => .ok s
    | none => .bad)
  | _ => .bad
def kSel0 (n : Ex) (e : En) (ss : List S) : R S := if ss.length ≤ 100 then (n e).bind (kSel ss) else .bad
def eSel (m : AxS) (n : Ex) : Ex := fun e => (m e).bind (kSel0 n e)
theorem x_sel {xs : List Expr} {m : AxS} {p1 : Pos} (ha : SC X W xs m l) (hb : SE X W b n k) (hs : PlainIx b := by exact fun _ _ => rfl) : SE X W (.Subscript (.List xs p1) b pos) (eSel m n) l := by
  refine PE.imp (pe_ix ix_seq (pe_lst ha) hb hs) fun σ H Q ⟨B, Z, rt, e, r0, q⟩ => ?_
  unfold eSel at q
  refine ⟨B, Z, rt, e, r0, ?_⟩
  cases hm : m e with
  | bad => rw [hm] at q; exact q.elim
  | ex d => rw [hm] at q; exact q
  | ok ss =>
    rw [hm, R.bind_ok] at q
    unfold kSel0 at q
    by_cases hl : ss.length ≤ 100
    case neg => rw [if_neg hl] at q; exact fun _ _ _ _ => q.elim
    rw [if_pos hl] at q
    intro ys H1 sm rs
    refine ⟨by rw [rs.length]; exact small_line hl, fun p hp => ?_⟩
    have sm2 : Same H1 (upd H1 p (.lst ys)) := same_new hp
    have r1 := r0.ext (sm.trans sm2)
    refine tE_go r1 (fun d hd c o H' sm' => by rw [hd] at q; exact (fun z9 => q c o H' ((sm.trans sm2).trans sm') (z9.mo (sm.trans sm2)))) (fun hd => by rw [hd] at q; exact q) fun s2 y H2 hs2 sm3 r2 rs2 => ?_
    rw [hs2, R.bind_ok] at q
    unfold kSel at q
    cases hd : s2.d <;> simp only [hd] at q
    rename_i i
    obtain rfl := int_of rs2 hd
    cases hi : L2.atI ss i with
    | none => simp only [hi] at q
    | some s =>
      simp only [hi] at q
      obtain ⟨v, h1, h2⟩ : ∃ v, L2.atI ys i = some v ∧ RepS X.K (NZ W.g Z e rt l H) H H1 s v := by
        unfold L2.atI at hi ⊢
        rw [rs.length]
        cases q2 : ixN ss.length i with
        | none => rw [q2] at hi; cases hi
        | some j =>
          rw [q2] at hi
          exact rs.get hi
      exact .inl ⟨p, ys, i, v, rfl, rfl, .inl (.inl (sm3 _ _ upd_same)), h1, q v H2 ((sm.trans sm2).trans sm3) (h2.same (sm2.trans sm3))⟩
/-! x = {..} of constants -/
def kvI (kvs : List (List Nat × D)) : List (List Int × D) := kvs.map fun p => (p.1.map Int.ofNat, p.2)
def sDCst (i : Nat) (kvs : List (List Nat × D)) : Sx := fun e => .ok (.nx (e.set i (some (.dct 2 (kvI kvs)))))
/-- keys unlike, values texts or ints -/
def cstOk (kvs : List (List Nat × D)) : Bool := decide (kvs.length ≤ 15) && kvs.all (fun p => match p.2 with | .str _ => true | .int _ => true | _ => false) && decide (mergeK [] (kvs.map kcv) = kvs.map kcv)
theorem s_dcst (i : Nat) (kvs : List (List Nat × D)) {keys : List (Option Expr)} {values : List Expr} {p1 p : Pos} (h : PPs X p1 keys values ((kvs.map kcv).map fun kv => (L2.tC (kV kv.1), L2.tC kv.2))) (hN : X.N.Nodup) (ok : cstOk kvs = true := by decide +kernel) (hi : X.N[i]? = some x := by rfl) (hx : Loc X.env.scope x := by first | exact Or.inl rfl | exact Or.inr rfl)
    (hall : keys.all (·.isSome) = true := by rfl) (hl : keys.length = values.length := by rfl) (h0 : keys ≠ [] := by exact List.cons_ne_nil _ _) (h15 : keys.length ≤ 15 := by decide) (hs : swapsWith (.Dict keys values p1) (some (.Name x p)) pos.line X.env = pure false := by rfl) (hf : X.fn x = true ∨ X.env.scope.names.lookup x = some .local := by first | exact .inl rfl | exact .inr rfl | assumption) :
    SS X W H0 Z0 lk (.Assign [.Name x p] (.Dict keys values p1) pos) (sDCst i kvs) := by
  refine PS.imp (ps_set hN hi hx (pe_disp h hall hl h0 h15) hs hf) fun D σ H ⟨Zl, Hb, e, ⟨s0, kp, Z, rt, h1, h2, r⟩, q⟩ => ?_
  simp only [cstOk, Bool.and_eq_true, decide_eq_true_eq] at ok
  obtain ⟨⟨ok1, ok2⟩, ok3⟩ := ok
  intro p hp
  refine tPairs_const _ σ _ _ ⟨upd_same, _, rfl, by rw [List.length_map]; exact ok1, ?_⟩
  rw [upd_upd, ok3]
  have sm : Same H (upd H p (.dK (kvs.map kcv))) := same_new hp
  have dr : ∀ (H : Hp) (kvs : List (List Nat × Tg.D)), (kvs.all (fun p => match p.2 with | .str _ => true | .int _ => true | _ => false)) = true → DR fS X.K H (kvI kvs) (kvs.map kcv) := by
    intro H kvs
    induction kvs with
    | nil => exact fun _ => .nil
    | cons pr kvs ih =>
      intro hh
      rw [List.all_cons, Bool.and_eq_true] at hh
      obtain ⟨s, d⟩ := pr
      have ek : (.inr ⟨s.toArray⟩ : Key) = fS (s.map Int.ofNat) := by
        unfold fS
        rw [List.map_map]
        have : (Int.toNat ∘ Int.ofNat) = (id : Nat → Nat) := by funext n; rfl
        rw [this, List.map_id]
      cases d with
      | str t =>
        have g := DR.cons (f := fS) (K := X.K) (H := H) (k := s.map Int.ofNat) (d := .str t) (y := .str ⟨t.toArray⟩) rfl rfl (ih hh.2)
        rw [← ek] at g
        exact g
      | int j =>
        have g := DR.cons (f := fS) (K := X.K) (H := H) (k := s.map Int.ofNat) (d := .int j) (y := .int j) rfl rfl (ih hh.2)
        rw [← ek] at g
        exact g
      | _ => exact absurd hh.1 (by simp)
  have r2 := (r.ext sm).setRoot i (s := .dct 2 (kvI kvs)) trivial (q := p) (r.yg p hp) (fun g z => r.al g p z hp) (fun ds e => nomatch e) (fun t' kvs' e => by
    cases e
    refine ⟨_, upd_same, fun pr hpr => ?_, _, rfl, dr _ kvs ok2⟩
    obtain ⟨w, _, rfl⟩ := List.mem_map.mp hpr
    show List.all _ _ = true
    rw [List.all_eq_true]
    intro j hj
    obtain ⟨c, _, rfl⟩ := List.mem_map.mp hj
    exact decide_eq_true (Int.natCast_nonneg c)) (fun j u _ k hu z => (r.live k hu).1 (by rw [z]; exact hp))
  exact q _ _ (.new s0 kp sm h1 h2 r2)
end
end Tg

/-! Tg, part 22: lists within told things are cleared. -/
namespace Tg
open PySem PySem.Spec PyProof.Rows L2

theorem killE_length (e : En) : ∀ sl : List Nat, (killE sl e).length = e.length
  | [] => rfl
  | i :: r => by
    unfold killE
    split
    · rw [List.length_set, killE_length e r]
    · exact killE_length e r
theorem killE_get {e : En} {i : Nat} {s : S} : ∀ {sl : List Nat}, (killE sl e)[i]? = some (some s) → (i ∈ sl ∧ ∃ s0, e[i]? = some (some s0) ∧ s = s0.kill) ∨ (i ∉ sl ∧ e[i]? = some (some s))
  | [], h => .inr ⟨nofun, h⟩
  | j :: r, h => by
    unfold killE at h
    have next : (killE r e)[i]? = some (some s) → (i ≠ j ∨ ∀ s0, e[j]? ≠ some (some s0)) → (i ∈ j :: r ∧ ∃ s0, e[i]? = some (some s0) ∧ s = s0.kill) ∨ (i ∉ j :: r ∧ e[i]? = some (some s)) := fun h hn => by
      rcases killE_get h with ⟨h1, h2⟩ | ⟨h1, h2⟩
      · exact .inl ⟨List.mem_cons_of_mem _ h1, h2⟩
      · by_cases c : i = j
        · subst c
          rcases hn with hn | hn
          · exact absurd rfl hn
          · exact absurd h2 (hn s)
        · exact .inr ⟨fun z => (List.mem_cons.mp z).elim c h1, h2⟩
    split at h
    · rename_i s0 he
      by_cases c : j = i
      · subst c
        have hl : j < (killE r e).length := by rw [killE_length]; exact (List.getElem?_eq_some_iff.mp he).1
        rw [List.getElem?_set_self hl] at h
        cases h
        exact .inl ⟨List.mem_cons_self, s0, he, rfl⟩
      · rw [List.getElem?_set_ne c] at h
        exact next h (.inl fun z => c z.symm)
    · rename_i hn
      exact next h (.inr fun s0 z => hn s0 z)
theorem kill_val {s : S} {d : D} (h : S.val d = s.kill) : ∃ d0, s = .val d0 ∧ d = d0.kill := by
  cases s with
  | val d0 => cases h; exact ⟨d0, rfl, rfl⟩
  | own ds => cases h
  | dct t kvs => cases h
theorem kill_own {s : S} {ds : List D} (h : S.own ds = s.kill) : ∃ ds0, s = .own ds0 ∧ ds = D.killL ds0 := by
  cases s with
  | val d0 => cases h
  | own ds0 => cases h; exact ⟨ds0, rfl, rfl⟩
  | dct t kvs => cases h
theorem kill_dct {s : S} {t : Nat} {kvs : List (List Int × D)} (h : S.dct t kvs = s.kill) : s = .dct t kvs := by
  cases s with
  | val d0 => cases h
  | own ds0 => cases h
  | dct t kvs => cases h; rfl
theorem kill_rooted {s : S} (h : s.kill.rooted) : s.rooted := by cases s <;> first | exact h | trivial

section
variable {K : PySem.W.Frag} {B : Addr → Prop} {G : Nat → Nat} {Z : Nat → Addr → Prop} {rt : Nat → Addr} {e : En} {σ : L2.St} {H : Hp}
/-- one list of the group p is written: what the group's slots bear is no longer known -/
theorem Rel.killW (r : Rel K B G Z rt e σ H) {p : Nat} {a : Addr} {xs ys : List V} (hz : Z p a) (ha : H a = some (.lst xs)) {sl : List Nat} (hsl : ∀ i s, e[i]? = some (some s) → G i = p → i ∈ sl) : Rel K B G Z rt (killE sl e) σ (upd H a (.lst ys)) := by
  have ht : Still H (upd H a (.lst ys)) := still_lst ha
  have kl : ∀ q b zs, Z q b → H b = some (.lst zs) → Z q b ∧ ∃ us, upd H a (.lst ys) b = some (.lst us) := fun q b zs z h => by
    refine ⟨z, ?_⟩
    by_cases c : b = a
    · subst c; exact ⟨ys, upd_same⟩
    · rw [upd_ne c]; exact ⟨zs, h⟩
  have im : ∀ q, q ≠ p → ∀ b zs, Z q b → H b = some (.lst zs) → Z q b ∧ upd H a (.lst ys) b = some (.lst zs) := fun q hq b zs z h => by
    refine ⟨z, ?_⟩
    rw [upd_ne fun c => hq (r.dj q p b z (by rw [c]; exact hz))]
    exact h
  have rn : ∀ i, (∀ q, ¬ Z q (rt i)) → rt i ≠ a := fun i h c => h p (by rw [c]; exact hz)
  have old : ∀ {i : Nat} {s : S}, (killE sl e)[i]? = some (some s) → s.rooted → ∃ s0, e[i]? = some (some s0) ∧ s0.rooted := fun {i s} h hr => by
    rcases killE_get h with ⟨_, s0, h2, h3⟩ | ⟨_, h2⟩
    · subst h3; exact ⟨s0, h2, kill_rooted hr⟩
    · exact ⟨s, h2, hr⟩
  refine ⟨by rw [killE_length]; exact r.len, fun i d q => ?_, fun i ds q => ?_, fun i t kvs q => ?_, fun i j s u q1 q2 h1 h2 h => ?_, fun q b z => ?_, r.dj, r.nw, fun b h => ?_⟩
  · rcases killE_get q with ⟨_, s0, h2, h3⟩ | ⟨hn, h2⟩
    · obtain ⟨d0, rfl, rfl⟩ := kill_val h3
      obtain ⟨x, h4, h5⟩ := r.val i d0 h2
      exact ⟨x, h4, Rep.kill (kl _) ht d0 x h5⟩
    · obtain ⟨x, h4, h5⟩ := r.val i d h2
      exact ⟨x, h4, Rep.imp (im _ fun z => hn (hsl i _ h2 z)) ht d x h5⟩
  · rcases killE_get q with ⟨_, s0, h2, h3⟩ | ⟨hn, h2⟩
    · obtain ⟨ds0, rfl, rfl⟩ := kill_own h3
      obtain ⟨h4, h5, h6, zs, h7, h8⟩ := r.own i ds0 h2
      exact ⟨h4, h5, h6, zs, by rw [upd_ne (rn i h6)]; exact h7, RepL.kill (kl _) ht ds0 zs h8⟩
    · obtain ⟨h4, h5, h6, zs, h7, h8⟩ := r.own i ds h2
      exact ⟨h4, h5, h6, zs, by rw [upd_ne (rn i h6)]; exact h7, RepL.imp (im _ fun z => hn (hsl i _ h2 z)) ht ds zs h8⟩
  · have h2 : e[i]? = some (some (.dct t kvs)) := by
      rcases killE_get q with ⟨_, s0, h2, h3⟩ | ⟨_, h2⟩
      · rw [kill_dct h3] at h2; exact h2
      · exact h2
    obtain ⟨h4, h5, h6, o, h7, h8⟩ := r.dct i t kvs h2
    exact ⟨h4, h5, h6, o, by rw [upd_ne (rn i h6)]; exact h7, h8.still ht⟩
  · obtain ⟨s0, h3, h4⟩ := old q1 h1
    obtain ⟨u0, h5, h6⟩ := old q2 h2
    exact r.injs i j s0 u0 h3 h5 h4 h6 h
  · by_cases c : b = a
    · subst c; rw [upd_same]; exact nofun
    · rw [upd_ne c]; exact r.al q b z
  · by_cases c : b = a
    · subst c; rw [upd_same] at h; cases h
    · rw [upd_ne c] at h; exact r.yg b h
end
/-- E.clear() of a list within something told: al the slots it may share with, sl all slots of their group, n how many slots there are -/
def kClN (al sl : List Nat) (n : Nat) (e : En) (s : S) : R Fl := if e.length ≤ n then match s.d with
  | .lst _ => .ok (.nx (killE sl (freeze al e)))
  | .jnk => .ok (.nx (killE sl (freeze al e)))
  | _ => .bad
  else .bad
def sClearN (al sl : List Nat) (n : Nat) (a : Ex) : Sx := fun e => (a e).bind (kClN al sl n e)
/-- all slots of the group p stand in sl -/
def allIn (G : Nat → Nat) (p n : Nat) (sl : List Nat) : Bool := (List.range n).all fun i => G i != p || sl.contains i
theorem allIn_of {G : Nat → Nat} {p n : Nat} {sl : List Nat} (h : allIn G p n sl = true) {i : Nat} (hi : i < n) (hp : G i = p) : i ∈ sl := by
  have := List.all_eq_true.mp h i (List.mem_range.mpr hi)
  rw [hp] at this
  simpa using this
section
variable {X : Cx} {W : Wi} {H0 : Hp} {Z0 : Addr → Prop} {lk : List Nat} {ax : Expr} {m : Ex} {l : List Nat} {pos apos cpos epos : Pos}
/-- behind a write of a list of the group p, which is no argument's -/
theorem Body.killW {K : PySem.W.Frag} {G : Nat → Nat} {Zl : Nat → Addr → Prop} {Hb : Hp} {e : En} {σ : L2.St} {H H1 : Hp} {Z : Nat → Addr → Prop} {rt : Nat → Addr} {p : Nat} {a : Addr} {xs ys : List V} {sl : List Nat} (s0 : Same H0 H) (kp : Kp (fun a => ∃ p, Zl p a) Hb H) (sm : Same H H1) (h1 : ∀ p a, Zl p a → p ∈ lk ∧ Z p a) (h2 : ∀ p a, Z p a → Z0 a ∨ H0 a = none)
    (r : Rel K (fun a => H0 a = none) G Z rt e σ H1) (hp : p ≠ 0) (hk : p ∉ lk) (hz : Z p a) (ha : H1 a = some (.lst xs)) (hsl : ∀ i s, e[i]? = some (some s) → G i = p → i ∈ sl) : Body K G H0 Z0 lk Zl Hb (killE sl e) σ (upd H1 a (.lst ys)) := by
  have young : H0 a = none := r.nw p a hp hz
  refine ⟨fun b u z => ?_, ?_, Z, rt, h1, h2, r.killW hz ha hsl⟩
  · rw [upd_ne fun w => by subst w; rw [young] at z; cases z]
    exact (s0.trans sm) _ _ z
  · refine (kp.trans (same_kp sm)).trans ⟨fun b zs ⟨q, z⟩ w => ?_, still_lst ha⟩
    have := h1 q b z
    rw [upd_ne fun y => by subst y; exact hk (by rw [← r.dj q p b this.2 hz]; exact this.1)]
    exact w
theorem s_clearN (p : Nat) (sl : List Nat) (n : Nat) (ha : SE X W ax m l)
    (hbase : attributeBase ax "clear" X.env (eval ax X.env) = eval ax X.env := by rfl) (hline : (apos.endLine == cpos.line) = true := by rfl)
    (hsw : swapsWith (.Call (.Attribute ax "clear" apos) [] [] cpos) none epos.line X.env = pure false := by rfl) (hl : allg W.g p l = true := by rfl) (hn : lk.contains p = false := by rfl) (hp : (p != 0) = true := by rfl) (hsl : allIn W.g p n sl = true := by rfl) :
    SS X W H0 Z0 lk (.Expr (.Call (.Attribute ax "clear" apos) [] [] cpos) epos) (sClearN l sl n m) := by
  refine PS.imp (ps_expr (pe_bm0 PySem.F.plainAttrs_list PySem.F.slot_list_clear PySem.F.type_list_clear mt_clear ha hbase hline) hsw) fun D σ H ⟨Zl, Hb, e, ⟨s0, kp, Z, rt, h1, h2, r0⟩, q⟩ => ?_
  unfold sClearN at q
  refine tE_go r0 (fun d hd c o H' sm => by rw [hd] at q; exact (fun z9 => q c o σ H' (s0.trans sm) (z9.mo s0))) (fun hd => by rw [hd] at q; exact q) fun s x H1 hs sm r1 rs => ?_
  rw [hs, R.bind_ok] at q
  unfold kClN at q
  by_cases hlen : e.length ≤ n
  case neg => rw [if_neg hlen] at q; exact q.elim
  rw [if_pos hlen] at q
  have hl := allg_of hl
  have hp' : p ≠ 0 := by simpa using hp
  have hk' : p ∉ lk := by simpa using hn
  have r2 := r0.grow sm p l hl fun _ => False
  have rd : Rep X.K (NZ W.g Z e rt l H) H1 s.d x := rs.d fun a h => .inr (.inl h)
  have zs : ∀ a, NZ W.g Z e rt l H a → H1 a ≠ none → ZN p Z e rt l H H1 (fun _ => False) p a := fun a z h => zn_sub hl z (fun z => z) h
  have hsl' : ∀ i s, (freeze l e)[i]? = some (some s) → W.g i = p → i ∈ sl := fun i s h hg => by
    refine allIn_of hsl ?_ hg
    have := (List.getElem?_eq_some_iff.mp h).1
    rw [freeze_length] at this
    omega
  have fin : ∀ a xs, x = .ref a → NZ W.g Z e rt l H a → H1 a = some (.lst xs) → Out X.K W H0 Z0 lk Zl Hb D (.ok (.nx (killE sl (freeze l e)))) → (tyV X.K "list" x H1 ∧ rClear x [] H1 fun x H' => D.nx σ H') := fun a xs hx hN hH q => by
    subst hx
    refine ⟨.inl ⟨rfl, xs, .inl (.inl hH)⟩, a, xs, rfl, rfl, hH, q σ _ ?_⟩
    exact Body.killW s0 kp sm (up1 h1 fun p a z => .inl z) (up2 h2 fun q a z => by
      rcases z with z | ⟨_, ⟨z, _⟩ | z⟩
      · exact .inl z
      · exact .inr (s0.free z)
      · exact .inr (r0.root z).1) r2 hp' hk' (zs a hN (by rw [hH]; exact nofun)) hH hsl'
  cases hd : s.d with
  | lst ds =>
    rw [hd] at q rd
    obtain ⟨a, xs, hx, ⟨n1, n2⟩, _⟩ := rd
    exact fin a xs hx n1 n2 q
  | jnk =>
    rw [hd] at q rd
    obtain ⟨a, xs, hx, n1, n2⟩ := rd
    exact fin a xs hx n1 n2 q
  | non => rw [hd] at q; exact q.elim
  | bl b => rw [hd] at q; exact q.elim
  | int i => rw [hd] at q; exact q.elim
  | str t => rw [hd] at q; exact q.elim
  | tup ds => rw [hd] at q; exact q.elim
  | scr ns => rw [hd] at q; exact q.elim
  | exc c fs => rw [hd] at q; exact q.elim
end
end Tg

/-! Tg, part 24: for x in E: x.clear(). -/
namespace Tg
open PySem PySem.Spec PyProof.Rows L2

mutual
theorem D.kill_kill : ∀ d : D, d.kill.kill = d.kill
  | .non => by rw [D.kill, D.kill]
  | .bl b => by rw [D.kill, D.kill]
  | .int i => by rw [D.kill, D.kill]
  | .str s => by rw [D.kill, D.kill]
  | .scr ns => by rw [D.kill, D.kill]
  | .jnk => by rw [D.kill, D.kill]
  | .lst ds => by rw [D.kill, D.kill]
  | .tup ds => by rw [D.kill, D.kill, D.killL_kill ds]
  | .exc c fs => by rw [D.kill, D.kill, D.killL_kill fs]
theorem D.killL_kill : ∀ ds : List D, D.killL (D.killL ds) = D.killL ds
  | [] => by rw [D.killL, D.killL]
  | d :: r => by rw [D.killL, D.killL, D.kill_kill d, D.killL_kill r]
end
theorem S.kill_kill (s : S) : s.kill.kill = s.kill := by
  cases s with
  | val d => exact congrArg S.val (D.kill_kill d)
  | own ds => exact congrArg S.own (D.killL_kill ds)
  | dct t kvs => rfl
theorem killE_at (e : En) (i : Nat) : ∀ sl : List Nat, (killE sl e)[i]? = if i ∈ sl then (e[i]?).map (Option.map S.kill) else e[i]?
  | [] => by simp [killE]
  | j :: r => by
    have ih := killE_at e i r
    have next : (i ≠ j ∨ ∀ s0, e[j]? ≠ some (some s0)) → (killE r e)[i]? = if i ∈ j :: r then (e[i]?).map (Option.map S.kill) else e[i]? := fun hn => by
      rw [ih]
      by_cases c : i = j
      · subst c
        rcases hn with hn | hn
        · exact absurd rfl hn
        · rw [if_pos List.mem_cons_self]
          split
          · rfl
          · cases h : e[i]? with
            | none => rfl
            | some o =>
              cases o with
              | none => rfl
              | some s => exact absurd h (hn s)
      · have : (i ∈ j :: r) ↔ i ∈ r := ⟨fun z => (List.mem_cons.mp z).resolve_left c, fun z => List.mem_cons_of_mem _ z⟩
        simp only [this]
    unfold killE
    split
    · rename_i s0 he
      by_cases c : j = i
      · subst c
        have hl : j < (killE r e).length := by rw [killE_length]; exact (List.getElem?_eq_some_iff.mp he).1
        rw [List.getElem?_set_self hl, if_pos List.mem_cons_self, he]
        rfl
      · rw [List.getElem?_set_ne c]
        exact next (.inl fun z => c z.symm)
    · rename_i hn
      exact next (.inr fun s0 z => hn s0 z)
theorem killE_again (sl : List Nat) (e : En) (i : Nat) : killE sl ((killE sl e).set i none) = (killE sl e).set i none := by
  refine List.ext_getElem? fun j => ?_
  rw [killE_at]
  by_cases hj : i = j
  · subst hj
    by_cases hl : i < (killE sl e).length
    · rw [List.getElem?_set_self hl]
      split <;> rfl
    · rw [List.getElem?_eq_none (by rw [List.length_set]; omega)]
      split <;> rfl
  · rw [List.getElem?_set_ne hj, killE_at]
    split
    · cases e[j]? with
      | none => rfl
      | some o =>
        cases o with
        | none => rfl
        | some s =>
          show some (some s.kill.kill) = some (some s.kill)
          rw [S.kill_kill]
    · rfl
/-- lists and (tp) tuples of ints -/
def clr1 (tp : Bool) : D → Bool
  | .lst es => (D.ints es).isSome
  | .tup es => tp && (D.ints es).isSome
  | _ => false
def kFC (tp : Bool) (al sl : List Nat) (n i : Nat) (e : En) (s : S) : R Fl := if i < e.length ∧ e.length ≤ n then match s.d with
  | .lst ds => if ds.all (clr1 tp) = true then .ok (.nx ((killE sl (freeze al e)).set i none)) else .bad
  | _ => .bad
  else .bad
/-- for x in E: x.clear() (tp: where it is a list) -/
def sForClr (tp : Bool) (al sl : List Nat) (n i : Nat) (a : Ex) : Sx := fun e => (a e).bind (kFC tp al sl n i e)
/-- what the loop's body does to slot i's list -/
def ClrB (tp : Bool) (i : Nat) (tb : TS) : Prop := ∀ (D : Ends) (σ : L2.St) (H : Hp) (a : Addr), σ[i]? = some (some (.ref a)) →
  (((∃ ys, H a = some (.lst ys)) ∧ D.nx σ (upd H a (.lst []))) ∨ (tp = true ∧ (∃ ys, H a = some (.tup ys)) ∧ D.nx σ H)) → tb D σ H
theorem upd_id {H : Hp} {a : Addr} {o : HO} (h : H a = some o) : upd H a o = H := by
  funext b
  by_cases c : b = a
  · subst c; rw [upd_same, h]
  · rw [upd_ne c]
theorem ints_nl {K : PySem.W.Frag} {N : Addr → Prop} {H : Hp} {es : List D} {ns : List Int} {xs : List V} (h : D.ints es = some ns) (r : RepL K N H es xs) {j : Nat} {a : Addr} : xs[j]? ≠ some (.ref a) := fun hx => by
  have hj : j < es.length := by rw [← r.length]; exact (List.getElem?_eq_some_iff.mp hx).1
  obtain ⟨v, h1, h2⟩ := r.get (List.getElem?_eq_getElem hj)
  rw [hx] at h1
  cases h1
  have e := ints_some h
  subst e
  rw [List.getElem_map] at h2
  cases h2
section
variable {X : Cx} {W : Wi} {H0 : Hp} {Z0 : Addr → Prop} {lk : List Nat} {m : Ex} {l : List Nat} {x : Str} {iter : Expr} {body : List Stmt} {tb : TS} {tp pos : Pos}
theorem s_forClr (t : Bool) (p : Nat) (sl : List Nat) (n i : Nat) (hp : PassesOwn (model X.prog X.w) X.A X.env X.xe) (hc : X.calm = true) (ha : SE X W iter m l) (hbd : PSs X body tb) (hB : ClrB t i tb) (hN : X.N.Nodup) (hi : X.N[i]? = some x := by rfl) (hx : Loc X.env.scope x := by first | exact Or.inl rfl | exact Or.inr rfl)
    (hf : X.fn x = true ∨ X.env.scope.names.lookup x = some .local := by first | exact .inl rfl | exact .inr rfl) (hs : ∀ x, foldedSetIterable iter X.env x = pure x := by intro _; rfl)
    (hl : allg W.g p l = true := by rfl) (hn : lk.contains p = false := by rfl) (hp0 : (p != 0) = true := by rfl) (hsl : allIn W.g p n sl = true := by rfl) :
    SS X W H0 Z0 lk (.For (.Name x tp) iter body [] pos) (sForClr t l sl n i m) := by
  refine PS.imp (ps_for hp hc (pi_list ha) (pg_name hN hi hx hf) hbd hs) fun EE σ H ⟨Zl, Hb, e, ⟨s0, kp, Z, rt, h1, h2, r0⟩, q⟩ => ?_
  unfold sForClr at q
  refine tE_go r0 (fun d hd c o H' sm => by rw [hd] at q; exact (fun z9 => q c o σ H' (s0.trans sm) (z9.mo s0))) (fun hd => by rw [hd] at q; exact q) fun s v H1 hs sm r1 rs => ?_
  rw [hs, R.bind_ok] at q
  unfold kFC at q
  by_cases hlen : i < e.length ∧ e.length ≤ n
  case neg => rw [if_neg hlen] at q; exact q.elim
  rw [if_pos hlen] at q
  have hl := allg_of hl
  have hp' : p ≠ 0 := by simpa using hp0
  have hk' : p ∉ lk := by simpa using hn
  have r2 := r0.grow sm p l hl fun _ => False
  have rd : Rep X.K (NZ W.g Z e rt l H) H1 s.d v := rs.d fun a h => .inr (.inl h)
  have zs : ∀ a, NZ W.g Z e rt l H a → H1 a ≠ none → ZN p Z e rt l H H1 (fun _ => False) p a := fun a z h => zn_sub hl z (fun z => z) h
  have hsl' : ∀ (e' : En), e'.length = e.length → ∀ j s, e'[j]? = some (some s) → W.g j = p → j ∈ sl := fun e' he j s h hg => by
    refine allIn_of hsl ?_ hg
    have := (List.getElem?_eq_some_iff.mp h).1
    omega
  have zn : ∀ q a, ZN p Z e rt l H H1 (fun _ => False) q a → Z0 a ∨ H0 a = none := fun q a z => by
    rcases z with z | ⟨_, ⟨z, _⟩ | z⟩
    · exact h2 q a z
    · exact .inr (s0.free z)
    · exact .inr (r0.root z).1
  generalize hZ : ZN p Z e rt l H H1 (fun _ => False) = Z' at r2 zs zn
  have zl' : ∀ q a, Zl q a → q ∈ lk ∧ Z' q a := fun q a z => ⟨(h1 q a z).1, by rw [← hZ]; exact .inl (h1 q a z).2⟩
  cases hd : s.d with
  | lst ds =>
    rw [hd] at q rd
    by_cases hall : ds.all (clr1 t) = true
    case neg =>
      have q : Out X.K W H0 Z0 lk Zl Hb EE (if ds.all (clr1 t) = true then .ok (.nx ((killE sl (freeze l e)).set i none)) else .bad) := q
      rw [if_neg hall] at q
      exact q.elim
    have q : Out X.K W H0 Z0 lk Zl Hb EE (if ds.all (clr1 t) = true then .ok (.nx ((killE sl (freeze l e)).set i none)) else .bad) := q
    rw [if_pos hall] at q
    obtain ⟨a0, xs, rfl, ⟨n1, n2⟩, rr⟩ := rd
    have za0 := zs a0 n1 (by rw [n2]; exact nofun)
    refine ⟨a0, rfl, ⟨xs, .inl (.inl n2)⟩, ?_⟩
    -- each thing: a list of the group, not the walked one; or a tuple
    have items : ∀ (j : Nat) (y : V), xs[j]? = some y → ∃ a, y = .ref a ∧ ((a ≠ a0 ∧ Z' p a ∧ ∃ ys, H1 a = some (.lst ys)) ∨ (t = true ∧ ∃ ys, H1 a = some (.tup ys))) := fun j y hy => by
      have hj : j < ds.length := by rw [← rr.length]; exact (List.getElem?_eq_some_iff.mp hy).1
      obtain ⟨v, g1, g2⟩ := rr.get (List.getElem?_eq_getElem hj)
      rw [hy] at g1
      cases g1
      have c1 := List.all_eq_true.mp hall _ (List.getElem_mem hj)
      cases hdj : ds[j] with
      | lst es =>
        rw [hdj] at c1 g2
        obtain ⟨a, ys, rfl, ⟨m1, m2⟩, m3⟩ := g2
        have c1' : (D.ints es).isSome = true := c1
        obtain ⟨zs', hz⟩ := Option.isSome_iff_exists.mp c1'
        refine ⟨a, rfl, .inl ⟨fun c => ?_, zs a m1 (by rw [m2]; exact nofun), ys, m2⟩⟩
        subst c
        rw [n2] at m2
        cases m2
        exact ints_nl hz m3 hy
      | tup es =>
        rw [hdj] at c1 g2
        obtain ⟨a, ys, rfl, m2, _⟩ := g2
        have c1' : (t && (D.ints es).isSome) = true := c1
        rw [Bool.and_eq_true] at c1'
        exact ⟨a, rfl, .inr ⟨c1'.1, ys, m2⟩⟩
      | non => rw [hdj] at c1; cases c1
      | bl _ => rw [hdj] at c1; cases c1
      | int _ => rw [hdj] at c1; cases c1
      | str _ => rw [hdj] at c1; cases c1
      | scr _ => rw [hdj] at c1; cases c1
      | exc _ _ => rw [hdj] at c1; cases c1
      | jnk => rw [hdj] at c1; cases c1
    let es : En := (killE sl (freeze l e)).set i none
    have hes : es.length = e.length := by show ((killE sl (freeze l e)).set i none).length = _; rw [List.length_set, killE_length, freeze_length]
    have again : killE sl es = es := killE_again sl (freeze l e) i
    -- the state of a turn
    let J : L2.St → Hp → Prop := fun σ H2 => Same H0 H2 ∧ Kp (fun a => ∃ p, Zl p a) Hb H2 ∧ Rel X.K (fun a => H0 a = none) W.g Z' rt es σ H2 ∧ H2 a0 = some (.lst xs) ∧ ∀ (j : Nat) (y : V), xs[j]? = some y → ∃ a, y = .ref a ∧ ((a ≠ a0 ∧ Z' p a ∧ ∃ ys, H2 a = some (.lst ys)) ∨ (t = true ∧ ∃ ys, H2 a = some (.tup ys)))
    have start : J σ H1 := by
      refine ⟨s0.trans sm, kp.trans (same_kp sm), ?_, n2, items⟩
      have k := r2.killW (ys := xs) za0 n2 (sl := sl) (hsl' _ (by rw [freeze_length]))
      rw [upd_id n2] at k
      have k2 := k.setNone i (σ[i]?.getD none)
      rw [show σ.set i (σ[i]?.getD none) = σ from ?_] at k2
      · exact k2
      · refine List.ext_getElem? fun j => ?_
        by_cases hj : i = j
        · subst hj
          cases h : σ[i]? with
          | none => rw [List.getElem?_eq_none (by rw [List.length_set]; exact List.getElem?_eq_none_iff.mp h)]
          | some o => rw [List.getElem?_set_self (List.getElem?_eq_some_iff.mp h).1]; rfl
        · rw [List.getElem?_set_ne hj]
    have at_ : ∀ {H2 : Hp}, H2 a0 = some (.lst xs) → SqL X.K H2 a0 xs := fun k => .inl (.inl k)
    refine ⟨fun k m σ H2 => m = xs.length - k ∧ k ≤ xs.length ∧ J σ H2, ⟨xs.length, by simp, Nat.zero_le _, start⟩, ?_⟩
    rintro k m σ2 H2 ⟨rfl, hk, j1, j2, j3, j4, j5⟩
    by_cases hlt : k < xs.length
    · refine .inr ⟨⟨xs, xs[k], at_ j4, List.getElem?_eq_getElem hlt⟩, J, fun σ' H' h' => ⟨xs.length - (k + 1), by omega, rfl, hlt, h'⟩, fun y H3 ⟨e3, hy⟩ => ?_⟩
      subst e3
      have hy := hy xs (at_ j4)
      obtain ⟨a, rfl, ha⟩ := j5 k y hy
      have il : i < σ2.length := by rw [← j3.len, hes]; exact hlen.1
      have j3' : Rel X.K (fun a => H0 a = none) W.g Z' rt es (σ2.set i (some (.ref a))) H3 := by
        have := j3.setNone i (some (.ref a))
        rwa [show es.set i none = es from List.set_set ..] at this
      refine hB _ _ _ a (List.getElem?_set_self il) ?_
      rcases ha with ⟨ne, za, ys, hys⟩ | ⟨ht, ys, hys⟩
      · refine .inl ⟨⟨ys, hys⟩, ?_⟩
        have r5 := j3'.killW (ys := []) za hys (sl := sl) (hsl' _ hes)
        rw [again] at r5
        refine ⟨fun b u z => ?_, ?_, r5, ?_, ?_⟩
        · have young : H0 a = none := j3.nw p a hp' za
          rw [upd_ne fun w => by subst w; rw [young] at z; cases z]
          exact j1 _ _ z
        · refine j2.trans ⟨fun b zs ⟨q, z⟩ w => ?_, still_lst hys⟩
          have := zl' q b z
          rw [upd_ne fun y => by subst y; exact hk' (by rw [← j3.dj q p b this.2 za]; exact this.1)]
          exact w
        · rw [upd_ne fun z => ne z.symm]; exact j4
        · intro j y hj
          obtain ⟨b, rfl, hb⟩ := j5 j y hj
          refine ⟨b, rfl, ?_⟩
          rcases hb with ⟨nb, zb, us, hus⟩ | ⟨ht, us, hus⟩
          · refine .inl ⟨nb, zb, ?_⟩
            by_cases c : b = a
            · subst c; exact ⟨[], upd_same⟩
            · rw [upd_ne c]; exact ⟨us, hus⟩
          · refine .inr ⟨ht, us, ?_⟩
            rw [upd_ne fun c => by subst c; rw [hys] at hus; cases hus]
            exact hus
      · exact .inr ⟨ht, ⟨ys, hys⟩, j1, j2, j3', j4, j5⟩
    · have ek : k = xs.length := by omega
      refine .inl ⟨⟨xs, at_ j4, by omega⟩, ?_⟩
      exact q σ2 H2 ⟨j1, j2, Z', rt, zl', zn, j3⟩
  | non => rw [hd] at q; exact q.elim
  | bl b => rw [hd] at q; exact q.elim
  | int i => rw [hd] at q; exact q.elim
  | str t => rw [hd] at q; exact q.elim
  | tup ds => rw [hd] at q; exact q.elim
  | scr ns => rw [hd] at q; exact q.elim
  | exc c fs => rw [hd] at q; exact q.elim
  | jnk => rw [hd] at q; exact q.elim
theorem clrB_clear (i : Nat) {K : PySem.W.Frag} : ClrB false i (tDrop (tBM0 K "list" rClear (tVar i))) := fun D σ H a hi h => by
  rcases h with ⟨⟨ys, hy⟩, q⟩ | ⟨z, _⟩
  · exact ⟨.ref a, hi, .inl ⟨rfl, ys, .inl (.inl hy)⟩, a, ys, rfl, rfl, hy, q⟩
  · cases z
/-- for x in E: x.clear() -/
theorem s_forClrL {p2 apos cpos epos : Pos} (p : Nat) (sl : List Nat) (n i : Nat) (hp : PassesOwn (model X.prog X.w) X.A X.env X.xe) (hc : X.calm = true) (ha : SE X W iter m l) (hN : X.N.Nodup) (hi : X.N[i]? = some x := by rfl) (hx : Loc X.env.scope x := by first | exact Or.inl rfl | exact Or.inr rfl)
    (hv : Vis X.env.scope x := by first | exact Or.inl rfl | exact Or.inr (Or.inl rfl) | exact Or.inr (Or.inr rfl)) (hd : (x == ("__debug__" : Str)) = false := by decide) (hcd : (x == ("__classdict__" : Str)) = false := by decide)
    (hbase : attributeBase (.Name x p2) "clear" X.env (eval (.Name x p2) X.env) = eval (.Name x p2) X.env := by rfl) (hline : (apos.endLine == cpos.line) = true := by rfl)
    (hsw : swapsWith (.Call (.Attribute (.Name x p2) "clear" apos) [] [] cpos) none epos.line X.env = pure false := by rfl)
    (hf : X.fn x = true ∨ X.env.scope.names.lookup x = some .local := by first | exact .inl rfl | exact .inr rfl) (hs : ∀ x, foldedSetIterable iter X.env x = pure x := by intro _; rfl)
    (hl : allg W.g p l = true := by rfl) (hn : lk.contains p = false := by rfl) (hp0 : (p != 0) = true := by rfl) (hsl : allIn W.g p n sl = true := by rfl) :
    SS X W H0 Z0 lk (.For (.Name x tp) iter [.Expr (.Call (.Attribute (.Name x p2) "clear" apos) [] [] cpos) epos] [] pos) (sForClr false l sl n i m) :=
  s_forClr false p sl n i hp hc ha (pss_one (ps_expr (pe_bm0 PySem.F.plainAttrs_list PySem.F.slot_list_clear PySem.F.type_list_clear mt_clear (pe_var hi hv hd hcd) hbase hline) hsw)) (clrB_clear i) hN hi hx hf hs hl hn hp0 hsl
/-- x = e, of which nothing is known if it bears lists -/
def kSW (i : Nat) (e : En) (s : S) : R Fl := if s.flat = true then .ok (.nx (e.set i (some s))) else .ok (.nx (e.set i none))
def sSetW (i : Nat) (m : Ex) : Sx := fun e => (m e).bind (kSW i e)
theorem s_setW {a : Expr} {p : Pos} (i : Nat) (hN : X.N.Nodup) (he : SE X W a m l) (hi : X.N[i]? = some x := by rfl) (hx : Loc X.env.scope x := by first | exact Or.inl rfl | exact Or.inr rfl) (hs : swapsWith a (some (.Name x p)) pos.line X.env = pure false := by rfl) (hf : X.fn x = true ∨ X.env.scope.names.lookup x = some .local := by first | exact .inl rfl | exact .inr rfl | assumption) :
    SS X W H0 Z0 lk (.Assign [.Name x p] a pos) (sSetW i m) := PS.imp (ps_set hN hi hx he hs hf) fun D σ H q => by
  obtain ⟨Zl, Hb, e, ⟨s0, kp, Z, rt, h1, h2, r⟩, q⟩ := q
  unfold sSetW at q
  refine tE_go r (fun d hd c o H' sm => by rw [hd] at q; exact (fun z9 => q c o σ H' (s0.trans sm) (z9.mo s0))) (fun hd => by rw [hd] at q; exact q) fun s x H1 hs sm r1 rs => ?_
  rw [hs, R.bind_ok] at q
  unfold kSW at q
  by_cases hfl : s.flat = true
  · rw [if_pos hfl] at q
    have rs' : RepS X.K (NZ W.g Z e rt [] H) H H1 s x := by
      cases s with
      | val d => exact Rep.flat (Still.refl _) d x hfl rs
      | own ds =>
        obtain ⟨r, xs, e, h1, h2, h3⟩ := rs
        exact ⟨r, xs, e, h1, h2, RepL.flat (Still.refl _) ds xs hfl h3⟩
      | dct t kvs => exact rs.elim
    obtain ⟨Z', rt', z1, z2, r'⟩ := r.put sm rs' i (fun _ h => nomatch h)
    rw [show keep [] s.flat e = e from keep_nil _ _] at r'
    exact q _ H1 (.new s0 kp sm (up1 h1 z1) (up2 h2 z2) r')
  · rw [if_neg hfl] at q
    exact q _ H1 (.new s0 kp sm h1 h2 (r1.setNone i (some x)))
/-- for x in E: if isinstance(x, list): x.clear() -/
theorem s_forClrI {p2 apos cpos epos q1 q2 q3 q4 ipos : Pos} (p : Nat) (sl : List Nat) (n i : Nat) (hm1 : X.mg "isinstance" = none) (hm2 : X.mg "list" = none) (hp : PassesOwn (model X.prog X.w) X.A X.env X.xe) (hc : X.calm = true) (ha : SE X W iter m l) (hN : X.N.Nodup) (hi : X.N[i]? = some x := by rfl) (hx : Loc X.env.scope x := by first | exact Or.inl rfl | exact Or.inr rfl)
    (hv : Vis X.env.scope x := by first | exact Or.inl rfl | exact Or.inr (Or.inl rfl) | exact Or.inr (Or.inr rfl)) (hd : (x == ("__debug__" : Str)) = false := by decide) (hcd : (x == ("__classdict__" : Str)) = false := by decide)
    (hg1 : Gl X "isinstance" := by rfl) (hg2 : Gl X "list" := by rfl)
    (he : starEach [.Name x q1, .Name "list" q2] X.env = (false, eval (.Name x q1) X.env) :: starEach [.Name "list" q2] X.env := by rfl) (he2 : starEach [.Name "list" q2] X.env = (false, eval (.Name "list" q2) X.env) :: starEach [] X.env := by rfl) (hpl : (backTo q4 (starEach [.Name "list" q2] X.env)).any (·.1) = false := by rfl)
    (ht : ∀ whole, isTrue (.Call (.Name "isinstance" q3) [.Name x q1, .Name "list" q2] [] q4) X.env whole = (do let v ← whole; standAt (Expr.Call (.Name "isinstance" q3) [.Name x q1, .Name "list" q2] [] q4).pos; holding [v] (truthy v)) := by intro _; rfl)
    (hbase : attributeBase (.Name x p2) "clear" X.env (eval (.Name x p2) X.env) = eval (.Name x p2) X.env := by rfl) (hline : (apos.endLine == cpos.line) = true := by rfl)
    (hsw : swapsWith (.Call (.Attribute (.Name x p2) "clear" apos) [] [] cpos) none epos.line X.env = pure false := by rfl)
    (hf : X.fn x = true ∨ X.env.scope.names.lookup x = some .local := by first | exact .inl rfl | exact .inr rfl) (hs : ∀ x, foldedSetIterable iter X.env x = pure x := by intro _; rfl)
    (hl : allg W.g p l = true := by rfl) (hn : lk.contains p = false := by rfl) (hp0 : (p != 0) = true := by rfl) (hsl : allIn W.g p n sl = true := by rfl) :
    SS X W H0 Z0 lk (.For (.Name x tp) iter [.If (.Call (.Name "isinstance" q3) [.Name x q1, .Name "list" q2] [] q4) [.Expr (.Call (.Attribute (.Name x p2) "clear" apos) [] [] cpos) epos] [] ipos] [] pos) (sForClr true l sl n i m) := by
  refine s_forClr true p sl n i hp hc ha (pss_one (ps_if (pt_val (pe_callB call_isi hg1 hm1 (by decide +kernel) (pa_cons (pe_var hi hv hd hcd) (pa_cons (pe_bltn (v := .ty "list") hg2 hm2 PyProof.Rows.Boot.«list» rfl (by decide) (by decide)) pa_nil he2) he) (by decide) (by decide) he hpl) ht) (pss_one (ps_expr (pe_bm0 PySem.F.plainAttrs_list PySem.F.slot_list_clear PySem.F.type_list_clear mt_clear (pe_var hi hv hd hcd) hbase hline) hsw)) pss_nil)) ?_ hN hi hx hf hs hl hn hp0 hsl
  intro D σ H a hi h
  rcases h with ⟨⟨ys, hy⟩, q⟩ | ⟨_, ⟨ys, hy⟩, q⟩
  · exact ⟨.ref a, hi, .ref a, .ty "list", .type "list", .type "list", true, rfl, .ty "list", .base (.lst hy), kit_ty rfl, true, rfl, .ref a, hi, .inl ⟨rfl, ys, .inl (.inl hy)⟩, a, ys, rfl, rfl, hy, q⟩
  · exact ⟨.ref a, hi, .ref a, .ty "list", .type "tuple", .type "list", false, rfl, .ty "list", .base (.tup hy), kit_ty rfl, false, rfl, q⟩
end
end Tg

/-! Tg, part 25: raise C(x), C an own exception class whose __init__ keeps x in a field. -/
namespace Tg
open PySem PySem.Spec PyProof.Rows L2

section
variable {X : Cx} {e : Expr} {es : List Expr} {ta : TA} {p p1 p2 pos : Pos}
/-- B.__init__(self, ..), B an own class over ValueError without an own __init__ -/
theorem pe_einit {x : Str} {R : Addr} {pl : Sem Bool} (hg : Gl X x) (hm : X.mg x = some (.ref R)) (gg : PySem.W.specialIn X.K (.ref R) "__getattribute__" = some (some (.builtin "type.__getattribute__"))) (rd : PySem.W.readsIn X.K R (.type "type") = true)
    (vV : PySem.W.findCls X.K (.ref R) (.type "type") "__init__" = some (.val (.builtin "ValueError.__init__"))) (ha : PA X (e :: es) ta) (hdb : (x == ("__debug__" : Str)) = false := by decide)
    (hc : eval (.Call (.Attribute (.Name x p1) "__init__" p2) (e :: es) [] pos) X.env = (do
      let ov ← eval (.Name x p1) X.env
      standAt p2.atName
      let (f, first) ← holding [ov] (getMethod ov "__init__" pl)
      callWith pos f first (backTo pos (starEach (e :: es) X.env)) (backToKw pos (keywordEach [] X.env))) := by rfl)
    (he : starEach (e :: es) X.env = (false, eval e X.env) :: starEach es X.env := by rfl) (hpl : (backTo pos (starEach es X.env)).any (·.1) = false := by rfl) :
    PE X (.Call (.Attribute (.Name x p1) "__init__" p2) (e :: es) [] pos) (tVeI X.K ta) := by
  refine ⟨fun pins s σ H Q I h => ?_⟩
  refine PySem.W.methodCall_KW (ld_glob I hg hm ?_ hdb) hc
  refine PySem.W.method_cls I.kIn gg (PySem.W.cls_value I.kIn rd vV (by decide +kernel) ?_)
  show wpAny _ _ (callWith pos (Value.builtin "ValueError.__init__") [] (backTo pos (starEach (e :: es) X.env)) []) _ _ _
  refine PyProof.Rows.callWith_method1 (thn (ha.run pos pins _ σ H _ (I.tok _) h) fun us s1 ⟨vs, H1, I1, r1, a, C, ws, ev, hl, T, ea, q⟩ => ?_) he hpl
  subst ev
  cases r1 with
  | @cons _ u0 _ ur ra rw' =>
    obtain rfl : u0 = Value.ref a := ra
    have hlen : ur.length ≤ sizeLine := by
      rw [← Paired.length rw', sizeLine_eq]
      omega
    exact oinit_ok T I1 ea hlen fun s' J => ⟨.non, H1, J, rfl, q⟩
end
/-- what an __init__ that keeps its argument in the field f promises -/
def spInit (K : PySem.W.Frag) (C : Addr) (f : Str) : Sp := fun vs H Q _ => ∃ (a : Addr) (y : V), vs = [.ref a, y] ∧ H a = some (exo a C none) ∧ OexC K C ∧ PySem.W.findIn K (.ref C) f = some none ∧ ∀ dx, H dx = none → dx ≠ a → Q .non (upd (upd H dx (exd dx [(f, y)])) a (exo a C (some dx)))
/-- an own exception class with a field, as raise wants it -/
structure ExcF (P : Program) (w : World) (K : PySem.W.Frag) (mg : Str → Option Value) (base : Heap) (nm f : String) (lev : Nat) : Prop where
  ex : ∃ (C fI : Addr) (fd : FuncData) (ps : List Str), mg (Str.ofString nm) = some (.ref C) ∧ PySem.W.nsIn K mainGlobals (Str.ofString nm) = some (some (.ref C)) ∧ OexC K C ∧ PySem.W.findIn K (.ref C) "__init__" = some (some (.ref fI)) ∧ PySem.W.typeIn K (.ref fI) = some (.type "function") ∧
    FnOk P w K mg base (L2.CX P w) lev fI fd ps (spInit K C (Str.ofString f)) ∧ Binds K fd ps [] ∧ PySem.W.findIn K (.ref C) (Str.ofString f) = some none
section
variable {P : Program} {w : World} {K : PySem.W.Frag} {mg : Str → Option Value} {base : Heap}
theorem init_fn {qual : Str} {st : Stmt} {fI C : Addr} {fd : FuncData} {f s : Str} {k : Nat} {m : V} (F : Fun K "__init__" qual st fI fd) (Sc : FnScope [s, f] [s, f] (defScope st))
    (hb : ∀ (cdv : Value) (A : Around) (outer : List Env) (sh : Shared) (H : Hp) (E : XK), Room k (A.deeper (envOfC qual (defScope st) sh.heap.objs.size fI cdv)) →
      PSs (cxOf (L2.CX P w) P w K mg base [s, f] qual (defScope st) fI cdv A outer sh H E) (defBody st) (fun D σ H => tVeI K (L2.tCons (L2.tVar 0) (L2.tCons (L2.tC m) L2.tNil)) σ H fun _ H1 => tOst K f (L2.tVar 0) (L2.tVar 1) D σ H1)) :
    FnOk P w K mg base (L2.CX P w) (k + 1) fI fd [s, f] (spInit K C f) := by
  refine F.okX Sc (fun vs H Q E ⟨_, _, e, _⟩ => by rw [e]; rfl) fun cdv A outer sh H vs Q E hr ⟨a, y, e, ha, T, hf, q⟩ => ⟨_, hb cdv A outer sh H E hr, ?_⟩
  subst e
  exact ⟨.ref a, rfl, a, C, [m], rfl, by simp, T, ha, y, rfl, .ref a, rfl, a, C, rfl, T, hf, .inl ⟨ha, q⟩⟩
end
/-- raise C(x) -/
def sRaiseF (nm : String) (m : Ex) : Sx := fun e => (m e).bind fun _ => .ex (.exc nm [])
section
variable {X : Cx} {W : Wi} {H0 : Hp} {Z0 : Addr → Prop} {lk : List Nat} {a : Expr} {m : Ex} {l : List Nat}
theorem s_raiseF {nm f : String} {lev : Nat} {x : Str} {p pos pos2 : Pos} (E : ExcF X.prog X.w X.K X.mg X.base nm f lev) {k : Nat} (hr : Room k X.A) (hk : lev + 1 ≤ k) (hc : X.calm = true) (tk : Takes X W.w) (ha : SE X W a m l) (hxr : ∀ H0 d c o H, XR X.K H0 d c o H → W.xr H0 d c o H) (hn : x = Str.ofString nm := by rfl) (hg : Gl X x := by rfl)
    (hdb : (x == ("__debug__" : Str)) = false := by decide) (he : starEach [a] X.env = (false, eval a X.env) :: starEach [] X.env := by rfl) (hpl : (backTo pos (starEach [] X.env)).any (·.1) = false := by rfl) :
    SS X W H0 Z0 lk (.Raise (some (.Call (.Name x p) [a] [] pos)) none pos2) (sRaiseF nm m) := by
  subst hn
  obtain ⟨C, fI, fd, ps, hm, hns, T, iC, tI, F1, hb, hno⟩ := E.ex
  refine PS.imp (ps_raise hc tk (pmk_oex T iC tI F1 (hr.mono hk) hb .nil (fun _ _ _ _ _ _ _ ⟨_, _, _, _, _, _, _, _, _, _, _, _, z⟩ => z.elim) hg hm (pa_cons ha pa_nil he) hdb he hpl)) fun D σ H ⟨Zl, Hb, e, ⟨s0, kp, Z, rt, h1, h2, r⟩, q⟩ => ?_
  unfold sRaiseF at q
  refine tE_go r (fun d hd c o H' sm => by rw [hd] at q; exact (fun z9 => q c o σ H' (s0.trans sm) (z9.mo s0))) (fun hd => by rw [hd] at q; exact q) fun s y H1 hs sm r1 rs => ?_
  rw [hs, R.bind_ok] at q
  refine ⟨by simp, fun a na => ⟨a, y, rfl, upd_same, T, hno, fun dx hdx hne => ⟨rfl, dx, [(Str.ofString f, y)], upd_same, ?_, ?_, ?_⟩⟩⟩
  · rw [upd_ne hne]; exact upd_same
  · rw [upd_ne hne] at hdx; exact hdx
  · have hdx1 : H1 dx = none := by rw [upd_ne hne] at hdx; exact hdx
    refine q (.ref C) (some dx) σ _ (fun b u hb => ?_) ⟨H0, Same.refl _, hxr _ _ _ _ _ ⟨⟨C, rfl, hns⟩, .inl ⟨rfl, .inr ⟨dx, _, rfl, upd_same⟩⟩⟩⟩
    have h3 := (s0.trans sm) _ _ hb
    have nb : b ≠ a := fun z => by rw [z, na] at h3; cases h3
    have nd : b ≠ dx := fun z => by rw [z, hdx1] at h3; cases h3
    rw [upd_ne nd, del_ne nb, upd_ne nb, upd_ne nd, upd_ne nb]
    exact h3
end
/-- raise C(x), x kept -/
def sRaiseG (nm : String) (m : Ex) : Sx := fun e => (m e).bind fun s => .ex (.exc nm [s.d])
section
variable {X : Cx} {W : Wi} {H0 : Hp} {Z0 : Addr → Prop} {lk : List Nat} {a : Expr} {m : Ex} {l : List Nat}
theorem s_raiseG {nm f : String} {lev : Nat} {x : Str} {p pos pos2 : Pos} (E : ExcF X.prog X.w X.K X.mg X.base nm f lev) {k : Nat} (hr : Room k X.A) (hk : lev + 1 ≤ k) (hc : X.calm = true) (tk : Takes X W.w) (ha : SE X W a m l) (hxr : ∀ H0 d c o H, XR X.K H0 d c o H → W.xr H0 d c o H) (hn : x = Str.ofString nm := by rfl) (hg : Gl X x := by rfl)
    (hdb : (x == ("__debug__" : Str)) = false := by decide) (he : starEach [a] X.env = (false, eval a X.env) :: starEach [] X.env := by rfl) (hpl : (backTo pos (starEach [] X.env)).any (·.1) = false := by rfl) (hl : l.all (fun j => W.g j != 0) = true := by rfl) (hfn : fnames nm = [Str.ofString f] := by rfl) :
    SS X W H0 Z0 lk (.Raise (some (.Call (.Name x p) [a] [] pos)) none pos2) (sRaiseG nm m) := by
  subst hn
  obtain ⟨C, fI, fd, ps, hm, hns, T, iC, tI, F1, hb, hno⟩ := E.ex
  refine PS.imp (ps_raise hc tk (pmk_oex T iC tI F1 (hr.mono hk) hb .nil (fun _ _ _ _ _ _ _ ⟨_, _, _, _, _, _, _, _, _, _, _, _, z⟩ => z.elim) hg hm (pa_cons ha pa_nil he) hdb he hpl)) fun D σ H ⟨Zl, Hb, e, ⟨s0, kp, Z, rt, h1, h2, r⟩, q⟩ => ?_
  unfold sRaiseG at q
  refine tE_go r (fun d hd c o H' sm => by rw [hd] at q; exact (fun z9 => q c o σ H' (s0.trans sm) (z9.mo s0))) (fun hd => by rw [hd] at q; exact q) fun s y H1 hs sm r1 rs => ?_
  rw [hs, R.bind_ok] at q
  refine ⟨by simp, fun a na => ⟨a, y, rfl, upd_same, T, hno, fun dx hdx hne => ⟨rfl, dx, [(Str.ofString f, y)], upd_same, ?_, ?_, ?_⟩⟩⟩
  · rw [upd_ne hne]; exact upd_same
  · rw [upd_ne hne] at hdx; exact hdx
  · have hdx1 : H1 dx = none := by rw [upd_ne hne] at hdx; exact hdx
    have last : Same H1 (upd (del (upd (upd (upd H1 a (exo a C none)) dx (exd dx [(Str.ofString f, y)])) a (exo a C (some dx))) a) dx (.xd [(Str.ofString f, y)])) := fun b u h3 => by
      have nb : b ≠ a := fun z => by rw [z, na] at h3; cases h3
      have nd : b ≠ dx := fun z => by rw [z, hdx1] at h3; cases h3
      rw [upd_ne nd, del_ne nb, upd_ne nb, upd_ne nd, upd_ne nb]
      exact h3
    have fresh : ∀ b, NZ W.g Z e rt l H b → H0 b = none := fun b z => by
      rcases z with ⟨i, hi, z⟩ | z | z
      · exact r.nw _ b (by simpa using List.all_eq_true.mp hl i hi) z
      · exact s0.free z
      · exact (r.root z).1
    have rd : Rep X.K (fun b => H0 b = none) H1 s.d y := (rs.d (N := NZ W.g Z e rt l H) fun b z => .inr (.inl z)).mono fresh
    refine q (.ref C) (some dx) σ _ (fun b u hb => last b u ((s0.trans sm) _ _ hb)) ⟨H0, Same.refl _, hxr _ _ _ _ _ ⟨⟨C, rfl, hns⟩, .inr ⟨List.cons_ne_nil _ _, dx, [y], rfl, ?_, RepL.one (rd.same last)⟩⟩⟩
    rw [hfn]
    exact upd_same
end
section
variable {X : Cx} {b s f msg : Str} {j : Nat} {p1 p2 q1 q2 q3 q4 q5 q6 q7 q8 : Pos} {R : Addr} {pl : Sem Bool}
/-- B.__init__(self, "..") and self.f = f -/
theorem init_body (hm : X.mg b = some (.ref R)) (gg : PySem.W.specialIn X.K (.ref R) "__getattribute__" = some (some (.builtin "type.__getattribute__"))) (rd : PySem.W.readsIn X.K R (.type "type") = true)
    (vV : PySem.W.findCls X.K (.ref R) (.type "type") "__init__" = some (.val (.builtin "ValueError.__init__"))) (hN : X.N = [s, f] := by rfl) (hg : Gl X b := by rfl) (hvs : Vis X.env.scope s := by exact Or.inl rfl) (hvf : Vis X.env.scope f := by exact Or.inl rfl)
    (hds : (s == ("__debug__" : Str)) = false := by decide) (hcs : (s == ("__classdict__" : Str)) = false := by decide) (hdf : (f == ("__debug__" : Str)) = false := by decide) (hcf : (f == ("__classdict__" : Str)) = false := by decide) (hdb : (b == ("__debug__" : Str)) = false := by decide)
    (hc : eval (.Call (.Attribute (.Name b p1) "__init__" p2) [.Name s q1, .Constant (.str msg) j q2] [] q3) X.env = (do
      let ov ← eval (.Name b p1) X.env
      standAt p2.atName
      let (f, first) ← holding [ov] (getMethod ov "__init__" pl)
      callWith q3 f first (backTo q3 (starEach [.Name s q1, .Constant (.str msg) j q2] X.env)) (backToKw q3 (keywordEach [] X.env))) := by rfl)
    (he : starEach [.Name s q1, .Constant (.str msg) j q2] X.env = (false, eval (.Name s q1) X.env) :: starEach [.Constant (.str msg) j q2] X.env := by rfl) (he2 : starEach [.Constant (.str msg) j q2] X.env = (false, eval (.Constant (.str msg) j q2) X.env) :: starEach [] X.env := by rfl)
    (hpl : (backTo q3 (starEach [.Constant (.str msg) j q2] X.env)).any (·.1) = false := by rfl)
    (hsw : swapsWith (.Call (.Attribute (.Name b p1) "__init__" p2) [.Name s q1, .Constant (.str msg) j q2] [] q3) none q4.line X.env = pure false := by rfl) (hsw2 : swapsWith (.Name f q7) (some (.Attribute (.Name s q5) f q6)) q8.line X.env = pure false := by rfl) :
    PSs X [.Expr (.Call (.Attribute (.Name b p1) "__init__" p2) [.Name s q1, .Constant (.str msg) j q2] [] q3) q4, .Assign [.Attribute (.Name s q5) f q6] (.Name f q7) q8]
      (fun D σ H => tVeI X.K (L2.tCons (L2.tVar 0) (L2.tCons (L2.tC (.str msg)) L2.tNil)) σ H fun _ H1 => tOst X.K f (L2.tVar 0) (L2.tVar 1) D σ H1) := by
  have h0 : X.N[0]? = some s := by rw [hN]; rfl
  have h1 : X.N[1]? = some f := by rw [hN]; rfl
  exact PSs.imp (pss_cons (ps_expr (pe_einit hg hm gg rd vV (pa_cons (pe_var h0 hvs hds hcs) (pa_cons pe_str pa_nil he2) he) hdb hc he hpl) hsw) (pss_one (ps_ost (pe_var h0 hvs hds hcs) (pe_var h1 hvf hdf hcf) hsw2))) fun D σ H q => q
end
/-- a class in the written part, by its name -/
structure ExcN (K : PySem.W.Frag) (nm : String) (C : Addr) : Prop where
  ns : PySem.W.nsIn K mainGlobals (Str.ofString nm) = some (some (.ref C))
/-- the statements of a class -/
abbrev clsS (st : Stmt) (j : Nat) : Stmt := match st with
  | .ClassDef _ _ _ body _ _ _ _ _ _ _ => body.getD j (.Pass ⟨0, 0, 0, 0⟩)
  | _ => .Pass ⟨0, 0, 0, 0⟩
end Tg

/-! Tg, part 26: e.f, e a caught exception with a field. -/
namespace Tg
open PySem PySem.Spec PyProof.Rows L2

/-- the reading: an exception that is tracked -/
def tXfT (K : PySem.W.Frag) (f : Str) (te : TE) : TE := fun σ H Q => te σ H fun x H1 => ∃ (a C dd : Addr) (fs : List (Str × V)) (v : V), x = .ref a ∧ H1 a = some (ExT (.ref C) (some dd) a) ∧ XfC K C ∧ PySem.W.findIn K (.ref C) f = some none ∧ H1 dd = some (.xd fs) ∧ fs.lookup f = some v ∧ Q v H1
theorem pe_xfT {X : Cx} {e : Expr} {te : TE} {pos : Pos} {n : Str} (he : PE X e te) (hb : attributeBase e n X.env (eval e X.env) = eval e X.env := by rfl) : PE X (.Attribute e n pos) (tXfT X.K n te) := by
  refine ⟨fun pins s σ H Q I h => ?_⟩
  refine attr_of hb (thn (he.run pins s σ H _ I h) fun u s1 hh => ?_)
  obtain ⟨x, H1, I1, rx, a, C, dd, fs, v, ex, ha, T, hno, ea, l, q⟩ := hh
  subst ex
  obtain rfl : u = Value.ref a := rx
  obtain ⟨⟨oe, vs, hget, hz, hd⟩, _⟩ := (show ObjOk X.prog X.w H1 s1.heap a (ExT (.ref C) (some dd) a) from I1.hok a _ ha)
  have hx : ObjOk X.prog X.w H1 s1.heap dd (.xd fs) := I1.hok dd _ ea
  obtain ⟨mA, hns, hr⟩ := hx
  obtain ⟨od, ho, hl⟩ := lookIn_ns hns
  obtain ⟨u, hu, ru⟩ := RelO.some_of (v := v) (o := mA n) (by rw [← l]; exact hr n)
  have J : PySem.W.InstAt s1.heap a oe C (some od) := ⟨hget, hz.1, by unfold PySem.W.notCls; rw [hd] <;> rfl, by rw [hz.2]; exact ho⟩
  exact HandSPX.exc_get I1.kIn J T.ga T.gg T.exC (PySem.W.findObj_own T.hdC hno rfl (by rw [hl, hu])) (handed_of ru) ⟨v, H1, I1.tok _, ru, q⟩
/-- e.f of an exception of the class nm -/
def eFld (nm : String) (m : Ex) : Ex := fun e => (m e).bind fun s => match s.d with
  | .exc c [d] => if c = nm then .ok (.val d) else .bad
  | _ => .bad
theorem x_fld {X : Cx} {W : Wi} {m : Ex} {l : List Nat} {a : Expr} {pos : Pos} {nm f : String} {x : Str} {C : Addr} (ns : PySem.W.nsIn X.K mainGlobals (Str.ofString nm) = some (some (.ref C))) (T : ExcC X.K C) (hno : PySem.W.findIn X.K (.ref C) (Str.ofString f) = some none) (ha : SE X W a m l)
    (hx : x = Str.ofString f := by rfl) (hb : attributeBase a x X.env (eval a X.env) = eval a X.env := by rfl) (hfn : fnames nm = [Str.ofString f] := by rfl) : SE X W (.Attribute a x pos) (eFld nm m) l := by
  subst hx
  refine PE.imp (pe_xfT ha hb) fun σ H Q ⟨B, Z, rt, e, r, q⟩ => ?_
  unfold eFld at q
  refine tE_go r (fun d hd => by rw [hd] at q; exact q) (fun hd => by rw [hd] at q; exact q) fun s y H1 hs sm r1 rs => ?_
  rw [hs, R.bind_ok] at q
  have rd := rs.d (N := NZ W.g Z e rt l H) fun a z => .inr (.inl z)
  cases hd : s.d with
  | exc c fs =>
    rw [hd] at q rd
    match fs, q, rd with
    | [], q, _ => exact q.elim
    | [d], q0, rd =>
      have q : (match (if c = nm then R.ok (S.val d) else R.bad) with
        | .ok s => ∀ x H', Same H H' → RepS X.K (NZ W.g Z e rt l H) H H' s x → Q x H'
        | .ex d => ∀ c o H', Same H H' → (XC W.xr H d c o H' → W.w c o σ H')
        | .bad => False) := q0
      clear q0
      by_cases hc : c = nm
      case neg => rw [if_neg hc] at q; exact q.elim
      rw [if_pos hc] at q
      have q2 : ∀ x H', Same H H' → RepS X.K (NZ W.g Z e rt l H) H H' (.val d) x → Q x H' := q
      subst hc
      obtain ⟨a, C', rfl, hns, h⟩ := rd
      rw [ns] at hns
      cases hns
      rcases h with ⟨h0, _⟩ | ⟨dd, xs, _, h1, h2, h3⟩
      · cases h0
      · obtain ⟨v, vs, rfl, hv, hvs⟩ := h3
        have hvs : vs = [] := hvs
        subst hvs
        rw [hfn] at h2
        exact ⟨a, C, dd, _, v, rfl, h1, ⟨T.hg, T.hk, T.hs, T.hd⟩, hno, h2, by simp [List.lookup], q2 v H1 sm hv⟩
    | _ :: _ :: _, q, _ => exact q.elim
  | _ => rw [hd] at q; exact q.elim
end Tg

/-! Tg, part 27: {k: v}, one pair, k a tuple of ints. -/
namespace Tg
open PySem PySem.Spec PyProof.Rows L2

/-- the reading: the new dict stands empty while the pair is made -/
def tDisp1T (tk tv : TE) : TE := fun σ H Q => ∀ p, H p = none → tk σ (upd H p (.dT [])) fun x H1 => tv σ H1 fun y H2 => ∃ (b : Addr) (ks : List Key), x = .ref b ∧ H2 b = some (.tup (ks.map kV)) ∧ H2 p = some (.dT []) ∧ Q (.ref p) (upd H2 p (.dT [(ks, y)]))
theorem pe_disp1T {X : Cx} {k v : Expr} {tk tv : TE} {pos : Pos} (hu : X.A.units + 65 < cLine) (hk : PE X k tk) (hv : PE X v tv) : PE X (.Dict [some k] [v] pos) (tDisp1T tk tv) := by
  refine ⟨fun pins s σ H Q I q => ?_⟩
  have hn := I.hok.fresh (Nat.le_refl s.heap.objs.size)
  have I1 := I.laid (a := s.heap.objs.size) (o := .dT []) (h' := s.heap.push { cls := .type "dict", data := .dict #[] }) (t' := s.toks) (fun _ _ q => Heap.get?_push_of_some _ q) (Nat.le_refl _) (dt_empty s.heap I.big)
  rw [arm_eval_Dict, zip_pairTrees [some k] [v] X.env pos rfl rfl, dictDisplay_pairs _ (by simp [pairTrees]) (by simp [pairTrees])]
  refine wpAny_bind (wpAny_standAt (wpAny_bind (wpAny_subDictH (knd := tupleKind (mixKind X.prog X.w)) (Q := fun d s' => wpAny (model X.prog X.w) X.A (pure (Value.ref d)) (fun u s' => ∃ v H', Inv X pins σ H' s' ∧ RelV v u ∧ Q v H') X.xe s') (show X.A.units < cLine by omega) (by simp [pairTrees]) ?_)))
  refine pairTrees_cons_walk (thn (hk.run pins _ σ _ _ I1 (q _ hn)) fun u s1 ⟨x, H1, J1, rx, q1⟩ => thn (hv.run pins s1 σ H1 _ J1 q1) fun w2 s2 ⟨y, H2, J2, ry, b, ks, ex, eb, ep, q2⟩ => pairTrees_nil_walk ?_)
  subst ex
  obtain rfl : u = Value.ref b := rx
  obtain ⟨z, hd, xs0, r0, dd⟩ := dt_of J2.hok ep
  cases r0
  refine ⟨[(ks, b, w2)], ⟨rfl, rfl, key_of J2.hok eb, trivial⟩, dd, fun h' tk' dd' hs => wpAny_pure ⟨.ref s.heap.objs.size, _, ?_, rfl, q2⟩⟩
  obtain ⟨o, es, ep', hq, h2, h3, h4, _, h5⟩ := (show h'.DictOfH (tupleKind (mixKind X.prog X.w)) s.heap.objs.size [(ks, b, w2)] from dd')
  refine d_write J2 (by rw [ep]; exact True.intro) hs ⟨o, hq⟩ ⟨by simp [sizeLine_eq], hd, [(ks, b, w2)], .cons ⟨rfl, ?_, ry⟩ .nil, o, es, ep', hq, h2, h3, h4, h5⟩
  rw [upd_ne (ne_of eb ep (fun z => nomatch z))]
  exact eb
section
variable {K : PySem.W.Frag} {B : Addr → Prop} {G : Nat → Nat} {Z : Nat → Addr → Prop} {rt : Nat → Addr} {e : En} {σ : L2.St} {H : Hp}
/-- an object that no slot knows is written -/
theorem Rel.other (r : Rel K B G Z rt e σ H) {p : Addr} {o o' : HO} (hz : ∀ g, ¬ Z g p) (hr : ∀ j u, e[j]? = some (some u) → u.rooted → rt j ≠ p) (hp : H p = some o) (h1 : ∀ xs, o ≠ .tup xs) (h2 : ¬ Fx o) : Rel K B G Z rt e σ (upd H p o') := by
  have st : Still H (upd H p o') := still_d hp h1 h2
  have im : ∀ g b zs, Z g b → H b = some (.lst zs) → Z g b ∧ upd H p o' b = some (.lst zs) := fun g b zs z h => ⟨z, by rw [upd_ne fun w => hz g (by rw [← w]; exact z)]; exact h⟩
  refine ⟨r.len, fun i d q => ?_, fun i ds q => ?_, fun i t kvs q => ?_, r.injs, fun q b z => ?_, r.dj, r.nw, fun b h => ?_⟩
  · obtain ⟨x, k1, k2⟩ := r.val i d q
    exact ⟨x, k1, Rep.imp (im _) st d x k2⟩
  · obtain ⟨k1, k2, k3, xs, k4, k5⟩ := r.own i ds q
    exact ⟨k1, k2, k3, xs, by rw [upd_ne (hr i _ q trivial)]; exact k4, RepL.imp (im _) st ds xs k5⟩
  · obtain ⟨k1, k2, k3, u, k4, k5⟩ := r.dct i t kvs q
    exact ⟨k1, k2, k3, u, by rw [upd_ne (hr i _ q trivial)]; exact k4, k5.still st⟩
  · by_cases c : b = p
    · subst c; rw [upd_same]; exact nofun
    · rw [upd_ne c]; exact r.al q b z
  · by_cases c : b = p
    · subst c; rw [upd_same] at h; cases h
    · rw [upd_ne c] at h; exact r.yg b h
end
def kDS2 (i : Nat) (e : En) (k : S) (v : S) : R Fl := match keyOf 1 k.d with
  | some g => if v.d.flat = true then .ok (.nx (e.set i (some (.dct 1 [(g, v.d)])))) else .bad
  | none => .bad
/-- x = {k: v}, k a tuple of ints -/
def sDSet1 (i : Nat) (k v : Ex) : Sx := fun e => (k e).bind fun x => (v e).bind (kDS2 i e x)
section
variable {X : Cx} {W : Wi} {H0 : Hp} {Z0 : Addr → Prop} {lk : List Nat} {k v : Expr} {m n : Ex} {l l2 : List Nat} {x : Str}
theorem s_dset1 (hu : X.A.units + 65 < cLine) (i : Nat) {p p2 pos : Pos} (hk : SE X W k m l) (hv : SE X W v n l2) (hN : X.N.Nodup) (hi : X.N[i]? = some x := by rfl) (hx : Loc X.env.scope x := by first | exact Or.inl rfl | exact Or.inr rfl) (hs : swapsWith (.Dict [some k] [v] p2) (some (.Name x p)) pos.line X.env = pure false := by rfl) (hf : X.fn x = true ∨ X.env.scope.names.lookup x = some .local := by first | exact .inl rfl | exact .inr rfl | assumption) :
    SS X W H0 Z0 lk (.Assign [.Name x p] (.Dict [some k] [v] p2) pos) (sDSet1 i m n) := by
  refine PS.imp (ps_set hN hi hx (pe_disp1T hu hk hv) hs hf) fun D σ H ⟨Zl, Hb, e, ⟨s0, kp, Z, rt, h1, h2, r⟩, q⟩ p hp => ?_
  unfold sDSet1 at q
  have sm0 : Same H (upd H p (.dT [])) := same_new hp
  have r0 := r.ext sm0
  refine tE_go r0 (fun d hd c o H' sm => by rw [hd] at q; exact (fun z9 => q c o σ H' ((s0.trans sm0).trans sm) (z9.mo (s0.trans sm0)))) (fun hd => by rw [hd] at q; exact q) fun s y H1 hs1 sm1 r1 rs1 => ?_
  rw [hs1, R.bind_ok] at q
  refine tE_go r1 (fun d hd c o H' sm => by rw [hd] at q; exact (fun z9 => q c o σ H' (((s0.trans sm0).trans sm1).trans sm) (z9.mo ((s0.trans sm0).trans sm1)))) (fun hd => by rw [hd] at q; exact q) fun s2 y2 H2 hs2 sm2 r2 rs2 => ?_
  rw [hs2, R.bind_ok] at q
  unfold kDS2 at q
  cases hkey : keyOf 1 s.d with
  | none => simp only [hkey] at q; exact q.elim
  | some g =>
    simp only [hkey] at q
    by_cases hfl : s2.d.flat = true
    case neg => rw [if_neg hfl] at q; exact q.elim
    rw [if_pos hfl] at q
    have rk := (rs1.d (N := NZ W.g Z e rt l (upd H p (.dT []))) fun a z => .inr (.inl z)).same sm2
    have rv : Rep X.K (fun _ => False) H2 s2.d y2 := Rep.flat (Still.refl _) s2.d y2 hfl (rs2.d (N := NZ W.g Z e rt l2 H1) fun a z => .inr (.inl z))
    have hp2 : H2 p = some (.dT []) := sm2 _ _ (sm1 _ _ upd_same)
    cases hc : s.d with
    | tup ds =>
      rw [hc] at hkey rk
      have hkey' : Tg.D.ints ds = some g := hkey
      have := ints_some hkey'
      subst this
      obtain ⟨b, xs, rfl, hb, rr⟩ := rk
      rw [rr.keys] at hb
      refine ⟨b, fT g, rfl, hb, hp2, ?_⟩
      have hnz : ∀ g, ¬ Z g p := fun g z => r.al g p z hp
      have hnr : ∀ j u, e[j]? = some (some u) → u.rooted → rt j ≠ p := fun j u k hu z => (r.live k hu).1 (by rw [z]; exact hp)
      have r3 := r2.other (o' := .dT [(fT g, y2)]) hnz hnr hp2 (fun xs h => nomatch h) (fun h => by rcases h with ⟨_, _, h⟩ | ⟨_, h⟩ | ⟨_, h⟩ <;> cases h)
      have st : Still H2 (upd H2 p (.dT [(fT g, y2)])) := still_d hp2 (fun xs h => nomatch h) (fun h => by rcases h with ⟨_, _, h⟩ | ⟨_, h⟩ | ⟨_, h⟩ <;> cases h)
      have r4 := r3.setRoot i (s := .dct 1 [(g, s2.d)]) trivial (q := p) (r.yg p hp) hnz (fun ds e => nomatch e) (fun t' kvs e => by
        cases e
        exact ⟨_, upd_same, ⟨fun q hq => by rw [List.mem_singleton.mp hq]; rfl, ⟨_, rfl, .cons (Rep.flat st _ _ hfl rv) hfl .nil⟩⟩⟩) (fun j u _ k hu z => hnr j u k hu z)
      have sH : Same H (upd H2 p (.dT [(fT g, y2)])) := fun b u z => by
        rw [upd_ne (ne_of_none z hp)]
        exact sm2 _ _ (sm1 _ _ (sm0 _ _ z))
      exact q _ _ (.new s0 kp sH h1 h2 r4)
    | _ => rw [hc] at hkey; cases hkey
end
end Tg

/-! Tg: for x in E: if isinstance(x[3], list): x[3].clear(). -/
namespace Tg
open PySem PySem.Spec PyProof.Rows L2
/-- tuples, whose fourth thing is a list or a tuple of ints -/
def intsO : Option D → Bool
  | some (.lst fs) => (D.ints fs).isSome
  | some (.tup fs) => (D.ints fs).isSome
  | _ => false
def clr3 : D → Bool
  | .tup es => intsO es[3]?
  | _ => false
def kFCT (al sl : List Nat) (n i : Nat) (e : En) (s : S) : R Fl := if i < e.length ∧ e.length ≤ n then match s.d with
  | .lst ds => if ds.all clr3 = true then .ok (.nx ((killE sl (freeze al e)).set i none)) else .bad
  | _ => .bad
  else .bad
def sForClrT (al sl : List Nat) (n i : Nat) (a : Ex) : Sx := fun e => (a e).bind (kFCT al sl n i e)
def ClrB3 (i : Nat) (tb : TS) : Prop := ∀ (D : Ends) (σ : L2.St) (H : Hp) (b : Addr) (us : List V) (a : Addr), σ[i]? = some (some (.ref b)) → H b = some (.tup us) → us[3]? = some (.ref a) →
  (((∃ ys, H a = some (.lst ys)) ∧ D.nx σ (upd H a (.lst []))) ∨ ((∃ ys, H a = some (.tup ys)) ∧ D.nx σ H)) → tb D σ H
section
variable {X : Cx} {W : Wi} {H0 : Hp} {Z0 : Addr → Prop} {lk : List Nat} {m : Ex} {l : List Nat} {x : Str} {iter : Expr} {body : List Stmt} {tb : TS} {tp pos : Pos}
theorem s_forClrT (p : Nat) (sl : List Nat) (n i : Nat) (hp : PassesOwn (model X.prog X.w) X.A X.env X.xe) (hc : X.calm = true) (ha : SE X W iter m l) (hbd : PSs X body tb) (hB : ClrB3 i tb) (hN : X.N.Nodup) (hi : X.N[i]? = some x := by rfl) (hx : Loc X.env.scope x := by first | exact Or.inl rfl | exact Or.inr rfl)
    (hf : X.fn x = true ∨ X.env.scope.names.lookup x = some .local := by first | exact .inl rfl | exact .inr rfl) (hs : ∀ x, foldedSetIterable iter X.env x = pure x := by intro _; rfl)
    (hl : allg W.g p l = true := by rfl) (hn : lk.contains p = false := by rfl) (hp0 : (p != 0) = true := by rfl) (hsl : allIn W.g p n sl = true := by rfl) :
    SS X W H0 Z0 lk (.For (.Name x tp) iter body [] pos) (sForClrT l sl n i m) := by
  refine PS.imp (ps_for hp hc (pi_list ha) (pg_name hN hi hx hf) hbd hs) fun EE σ H ⟨Zl, Hb, e, ⟨s0, kp, Z, rt, h1, h2, r0⟩, q⟩ => ?_
  unfold sForClrT at q
  refine tE_go r0 (fun d hd c o H' sm => by rw [hd] at q; exact (fun z9 => q c o σ H' (s0.trans sm) (z9.mo s0))) (fun hd => by rw [hd] at q; exact q) fun s v H1 hs sm r1 rs => ?_
  rw [hs, R.bind_ok] at q
  unfold kFCT at q
  by_cases hlen : i < e.length ∧ e.length ≤ n
  case neg => rw [if_neg hlen] at q; exact q.elim
  rw [if_pos hlen] at q
  have hl := allg_of hl
  have hp' : p ≠ 0 := by simpa using hp0
  have hk' : p ∉ lk := by simpa using hn
  have r2 := r0.grow sm p l hl fun _ => False
  have rd : Rep X.K (NZ W.g Z e rt l H) H1 s.d v := rs.d fun a h => .inr (.inl h)
  have zs : ∀ a, NZ W.g Z e rt l H a → H1 a ≠ none → ZN p Z e rt l H H1 (fun _ => False) p a := fun a z h => zn_sub hl z (fun z => z) h
  have hsl' : ∀ (e' : En), e'.length = e.length → ∀ j s, e'[j]? = some (some s) → W.g j = p → j ∈ sl := fun e' he j s h hg => by
    refine allIn_of hsl ?_ hg
    have := (List.getElem?_eq_some_iff.mp h).1
    omega
  have zn : ∀ q a, ZN p Z e rt l H H1 (fun _ => False) q a → Z0 a ∨ H0 a = none := fun q a z => by
    rcases z with z | ⟨_, ⟨z, _⟩ | z⟩
    · exact h2 q a z
    · exact .inr (s0.free z)
    · exact .inr (r0.root z).1
  generalize hZ : ZN p Z e rt l H H1 (fun _ => False) = Z' at r2 zs zn
  have zl' : ∀ q a, Zl q a → q ∈ lk ∧ Z' q a := fun q a z => ⟨(h1 q a z).1, by rw [← hZ]; exact .inl (h1 q a z).2⟩
  cases hd : s.d with
  | lst ds =>
    rw [hd] at q rd
    by_cases hall : ds.all (clr3) = true
    case neg =>
      have q : Out X.K W H0 Z0 lk Zl Hb EE (if ds.all (clr3) = true then .ok (.nx ((killE sl (freeze l e)).set i none)) else .bad) := q
      rw [if_neg hall] at q
      exact q.elim
    have q : Out X.K W H0 Z0 lk Zl Hb EE (if ds.all (clr3) = true then .ok (.nx ((killE sl (freeze l e)).set i none)) else .bad) := q
    rw [if_pos hall] at q
    obtain ⟨a0, xs, rfl, ⟨n1, n2⟩, rr⟩ := rd
    have za0 := zs a0 n1 (by rw [n2]; exact nofun)
    refine ⟨a0, rfl, ⟨xs, .inl (.inl n2)⟩, ?_⟩
    -- each thing: a list of the group, not the walked one; or a tuple
    have items : ∀ (j : Nat) (y : V), xs[j]? = some y → ∃ b us a, y = .ref b ∧ H1 b = some (.tup us) ∧ us[3]? = some (.ref a) ∧ ((a ≠ a0 ∧ Z' p a ∧ ∃ ys, H1 a = some (.lst ys)) ∨ ∃ ys, H1 a = some (.tup ys)) := fun j y hy => by
      have hj : j < ds.length := by rw [← rr.length]; exact (List.getElem?_eq_some_iff.mp hy).1
      obtain ⟨v, g1, g2⟩ := rr.get (List.getElem?_eq_getElem hj)
      rw [hy] at g1
      cases g1
      have c1 := List.all_eq_true.mp hall _ (List.getElem_mem hj)
      cases hdj : ds[j] with
      | tup es =>
        rw [hdj] at c1 g2
        obtain ⟨b, us, rfl, m2, m3⟩ := g2
        cases he3 : es[3]? with
        | none =>
          have c1 : intsO es[3]? = true := c1
          rw [he3] at c1; cases c1
        | some d3 =>
          have c1 : intsO es[3]? = true := c1
          rw [he3] at c1
          obtain ⟨v3, k1, k2⟩ := m3.get he3
          cases d3 with
          | lst fs =>
            obtain ⟨a, ys, rfl, ⟨n3, n4⟩, n5⟩ := k2
            refine ⟨b, us, a, rfl, m2, k1, .inl ⟨fun c => ?_, zs a n3 (by rw [n4]; exact nofun), ys, n4⟩⟩
            subst c
            rw [n2] at n4
            cases n4
            obtain ⟨zs', hz⟩ := Option.isSome_iff_exists.mp c1
            exact ints_nl hz n5 hy
          | tup fs =>
            obtain ⟨a, ys, rfl, n4, _⟩ := k2
            exact ⟨b, us, a, rfl, m2, k1, .inr ⟨ys, n4⟩⟩
          | non => cases c1
          | bl _ => cases c1
          | int _ => cases c1
          | str _ => cases c1
          | scr _ => cases c1
          | exc _ _ => cases c1
          | jnk => cases c1
      | lst es => rw [hdj] at c1; cases c1
      | non => rw [hdj] at c1; cases c1
      | bl _ => rw [hdj] at c1; cases c1
      | int _ => rw [hdj] at c1; cases c1
      | str _ => rw [hdj] at c1; cases c1
      | scr _ => rw [hdj] at c1; cases c1
      | exc _ _ => rw [hdj] at c1; cases c1
      | jnk => rw [hdj] at c1; cases c1
    let es : En := (killE sl (freeze l e)).set i none
    have hes : es.length = e.length := by show ((killE sl (freeze l e)).set i none).length = _; rw [List.length_set, killE_length, freeze_length]
    have again : killE sl es = es := killE_again sl (freeze l e) i
    -- the state of a turn
    let J : L2.St → Hp → Prop := fun σ H2 => Same H0 H2 ∧ Kp (fun a => ∃ p, Zl p a) Hb H2 ∧ Rel X.K (fun a => H0 a = none) W.g Z' rt es σ H2 ∧ H2 a0 = some (.lst xs) ∧ ∀ (j : Nat) (y : V), xs[j]? = some y → ∃ b us a, y = .ref b ∧ H2 b = some (.tup us) ∧ us[3]? = some (.ref a) ∧ ((a ≠ a0 ∧ Z' p a ∧ ∃ ys, H2 a = some (.lst ys)) ∨ ∃ ys, H2 a = some (.tup ys))
    have start : J σ H1 := by
      refine ⟨s0.trans sm, kp.trans (same_kp sm), ?_, n2, items⟩
      have k := r2.killW (ys := xs) za0 n2 (sl := sl) (hsl' _ (by rw [freeze_length]))
      rw [upd_id n2] at k
      have k2 := k.setNone i (σ[i]?.getD none)
      rw [show σ.set i (σ[i]?.getD none) = σ from ?_] at k2
      · exact k2
      · refine List.ext_getElem? fun j => ?_
        by_cases hj : i = j
        · subst hj
          cases h : σ[i]? with
          | none => rw [List.getElem?_eq_none (by rw [List.length_set]; exact List.getElem?_eq_none_iff.mp h)]
          | some o => rw [List.getElem?_set_self (List.getElem?_eq_some_iff.mp h).1]; rfl
        · rw [List.getElem?_set_ne hj]
    have at_ : ∀ {H2 : Hp}, H2 a0 = some (.lst xs) → SqL X.K H2 a0 xs := fun k => .inl (.inl k)
    refine ⟨fun k m σ H2 => m = xs.length - k ∧ k ≤ xs.length ∧ J σ H2, ⟨xs.length, by simp, Nat.zero_le _, start⟩, ?_⟩
    rintro k m σ2 H2 ⟨rfl, hk, j1, j2, j3, j4, j5⟩
    by_cases hlt : k < xs.length
    · refine .inr ⟨⟨xs, xs[k], at_ j4, List.getElem?_eq_getElem hlt⟩, J, fun σ' H' h' => ⟨xs.length - (k + 1), by omega, rfl, hlt, h'⟩, fun y H3 ⟨e3, hy⟩ => ?_⟩
      subst e3
      have hy := hy xs (at_ j4)
      obtain ⟨b0, us0, a, rfl, hb0, hu0, ha⟩ := j5 k y hy
      have il : i < σ2.length := by rw [← j3.len, hes]; exact hlen.1
      have j3' : Rel X.K (fun a => H0 a = none) W.g Z' rt es (σ2.set i (some (.ref b0))) H3 := by
        have := j3.setNone i (some (.ref b0))
        rwa [show es.set i none = es from List.set_set ..] at this
      refine hB _ _ _ b0 us0 a (List.getElem?_set_self il) hb0 hu0 ?_
      rcases ha with ⟨ne, za, ys, hys⟩ | ⟨ys, hys⟩
      · refine .inl ⟨⟨ys, hys⟩, ?_⟩
        have r5 := j3'.killW (ys := []) za hys (sl := sl) (hsl' _ hes)
        rw [again] at r5
        refine ⟨fun b u z => ?_, ?_, r5, ?_, ?_⟩
        · have young : H0 a = none := j3.nw p a hp' za
          rw [upd_ne fun w => by subst w; rw [young] at z; cases z]
          exact j1 _ _ z
        · refine j2.trans ⟨fun b zs ⟨q, z⟩ w => ?_, still_lst hys⟩
          have := zl' q b z
          rw [upd_ne fun y => by subst y; exact hk' (by rw [← j3.dj q p b this.2 za]; exact this.1)]
          exact w
        · rw [upd_ne fun z => ne z.symm]; exact j4
        · intro j y hj
          obtain ⟨b, us, c, rfl, hb, hu, hc⟩ := j5 j y hj
          refine ⟨b, us, c, rfl, ?_, hu, ?_⟩
          · rw [upd_ne fun z => by subst z; rw [hys] at hb; cases hb]
            exact hb
          · rcases hc with ⟨nb, zb, us, hus⟩ | ⟨us, hus⟩
            · refine .inl ⟨nb, zb, ?_⟩
              by_cases e : c = a
              · subst e; exact ⟨[], upd_same⟩
              · rw [upd_ne e]; exact ⟨us, hus⟩
            · refine .inr ⟨us, ?_⟩
              rw [upd_ne fun e => by subst e; rw [hys] at hus; cases hus]
              exact hus
      · exact .inr ⟨⟨ys, hys⟩, j1, j2, j3', j4, j5⟩
    · have ek : k = xs.length := by omega
      refine .inl ⟨⟨xs, at_ j4, by omega⟩, ?_⟩
      exact q σ2 H2 ⟨j1, j2, Z', rt, zl', zn, j3⟩
  | non => rw [hd] at q; exact q.elim
  | bl b => rw [hd] at q; exact q.elim
  | int i => rw [hd] at q; exact q.elim
  | str t => rw [hd] at q; exact q.elim
  | tup ds => rw [hd] at q; exact q.elim
  | scr ns => rw [hd] at q; exact q.elim
  | exc c fs => rw [hd] at q; exact q.elim
  | jnk => rw [hd] at q; exact q.elim
theorem at3 {us : List V} {v : V} (h : us[3]? = some v) : atI us 3 = some v := by
  have hl := (List.getElem?_eq_some_iff.mp h).1
  unfold atI ixN
  rw [if_pos (by decide), if_pos (by omega)]
  exact h
theorem s_forClrTI {p2 p3 p4 apos cpos epos q1 q2 q3 q4 q5 q6 ipos : Pos} {j1 j2 : Nat} (p : Nat) (sl : List Nat) (n i : Nat) (hm1 : X.mg "isinstance" = none) (hm2 : X.mg "list" = none) (hp : PassesOwn (model X.prog X.w) X.A X.env X.xe) (hc : X.calm = true) (ha : SE X W iter m l) (hN : X.N.Nodup) (hi : X.N[i]? = some x := by rfl) (hx : Loc X.env.scope x := by first | exact Or.inl rfl | exact Or.inr rfl)
    (hv : Vis X.env.scope x := by first | exact Or.inl rfl | exact Or.inr (Or.inl rfl) | exact Or.inr (Or.inr rfl)) (hd : (x == ("__debug__" : Str)) = false := by decide) (hcd : (x == ("__classdict__" : Str)) = false := by decide)
    (hg1 : Gl X "isinstance" := by rfl) (hg2 : Gl X "list" := by rfl)
    (he : starEach [.Subscript (.Name x q1) (.Constant (.int 3) j1 q5) q6, .Name "list" q2] X.env = (false, eval (.Subscript (.Name x q1) (.Constant (.int 3) j1 q5) q6) X.env) :: starEach [.Name "list" q2] X.env := by rfl) (he2 : starEach [.Name "list" q2] X.env = (false, eval (.Name "list" q2) X.env) :: starEach [] X.env := by rfl) (hpl : (backTo q4 (starEach [.Name "list" q2] X.env)).any (·.1) = false := by rfl)
    (ht : ∀ whole, PySem.isTrue (Expr.Call (.Name "isinstance" q3) [.Subscript (.Name x q1) (.Constant (.int 3) j1 q5) q6, .Name "list" q2] [] q4) X.env whole = (do let v ← whole; standAt (Expr.Call (.Name "isinstance" q3) [.Subscript (.Name x q1) (.Constant (.int 3) j1 q5) q6, .Name "list" q2] [] q4).pos; holding [v] (truthy v)) := by intro _; rfl)
    (hbase : attributeBase (.Subscript (.Name x p2) (.Constant (.int 3) j2 p3) p4) "clear" X.env (eval (.Subscript (.Name x p2) (.Constant (.int 3) j2 p3) p4) X.env) = eval (.Subscript (.Name x p2) (.Constant (.int 3) j2 p3) p4) X.env := by rfl) (hline : (apos.endLine == cpos.line) = true := by rfl)
    (hsw : swapsWith (.Call (.Attribute (.Subscript (.Name x p2) (.Constant (.int 3) j2 p3) p4) "clear" apos) [] [] cpos) none epos.line X.env = pure false := by rfl)
    (hf : X.fn x = true ∨ X.env.scope.names.lookup x = some .local := by first | exact .inl rfl | exact .inr rfl) (hs : ∀ x, foldedSetIterable iter X.env x = pure x := by intro _; rfl)
    (hl : allg W.g p l = true := by rfl) (hn : lk.contains p = false := by rfl) (hp0 : (p != 0) = true := by rfl) (hsl : allIn W.g p n sl = true := by rfl) :
    SS X W H0 Z0 lk (.For (.Name x tp) iter [.If (.Call (.Name "isinstance" q3) [.Subscript (.Name x q1) (.Constant (.int 3) j1 q5) q6, .Name "list" q2] [] q4) [.Expr (.Call (.Attribute (.Subscript (.Name x p2) (.Constant (.int 3) j2 p3) p4) "clear" apos) [] [] cpos) epos] [] ipos] [] pos) (sForClrT l sl n i m) := by
  refine s_forClrT p sl n i hp hc ha (pss_one (ps_if (pt_val (pe_callB call_isi hg1 hm1 (by decide +kernel) (pa_cons (pe_ix ix_seq (pe_var hi hv hd hcd) pe_int (fun _ _ => rfl)) (pa_cons (pe_bltn (v := .ty "list") hg2 hm2 PyProof.Rows.Boot.«list» rfl (by decide) (by decide)) pa_nil he2) he) (by decide) (by decide) he hpl) ht) (pss_one (ps_expr (pe_bm0 PySem.F.plainAttrs_list PySem.F.slot_list_clear PySem.F.type_list_clear mt_clear (pe_ix ix_seq (pe_var hi hv hd hcd) pe_int (fun _ _ => rfl)) hbase hline) hsw)) pss_nil)) ?_ hN hi hx hf hs hl hn hp0 hsl
  intro D σ H b us a hi hb hu h
  rcases h with ⟨⟨ys, hy⟩, q⟩ | ⟨⟨ys, hy⟩, q⟩
  · exact ⟨.ref b, hi, .inr (.inl ⟨b, us, 3, .ref a, rfl, rfl, sqt hb, at3 hu, .ref a, .ty "list", .type "list", .type "list", true, rfl, .ty "list", .base (.lst hy), kit_ty rfl, true, rfl, .ref b, hi, .inr (.inl ⟨b, us, 3, .ref a, rfl, rfl, sqt hb, at3 hu, .inl ⟨rfl, ys, .inl (.inl hy)⟩, a, ys, rfl, rfl, hy, q⟩)⟩)⟩
  · exact ⟨.ref b, hi, .inr (.inl ⟨b, us, 3, .ref a, rfl, rfl, sqt hb, at3 hu, .ref a, .ty "list", .type "tuple", .type "list", false, rfl, .ty "list", .base (.tup hy), kit_ty rfl, false, rfl, q⟩)⟩
end
end Tg

/-! Tg: a call that gives its last argument, a fresh list of flat things, away. -/
namespace Tg
open PySem PySem.Spec PyProof.Rows L2
/-- the run of a body whose last parameter is an owned list -/
def runBO (n : Nat) (b : Sx) (ds es : List D) : R S := match b ((ds.map (fun d => some (S.val d)) ++ List.replicate (n - ds.length) none).set ds.length (some (S.own es))) with
  | .ok (.rt s) => .ok s
  | .ok (.nx _) => .ok (.val .non)
  | .ex e => .ex e
  | .bad => .bad
def spFO (K : PySem.W.Frag) (xr : Hp → D → Value → Option Addr → Hp → Prop) (F : List D → List D → R S) (n : Nat) : Sp := fun vs H Q E =>
  ∃ (H0 : Hp) (N : Addr → Prop) (ds es : List D) (ws : List V) (a : Addr) (xs : List V), vs = ws ++ [.ref a] ∧ vs.length = n ∧ Same H0 H ∧ H0 a = none ∧ H a = some (.lst xs) ∧ RepL K N H0 ds ws ∧ RepL K (fun _ => False) H es xs ∧ D.flatL es = true ∧ OkF K xr N H0 Q E (F ds es)
section
variable {P : Program} {w : World} {K : PySem.W.Frag} {mg : Str → Option Value} {base : Heap} {xr : Hp → D → Value → Option Addr → Hp → Prop}
theorem start_snoc {N : List Str} {ws : List V} {v : V} (h : ws.length < N.length) : start N (ws ++ [v]) = (start N ws).set ws.length (some v) := by
  unfold L2.start
  rw [List.map_append, List.length_append, List.length_singleton]
  obtain ⟨m, hm⟩ : ∃ m, N.length - ws.length = m + 1 := ⟨N.length - ws.length - 1, by omega⟩
  rw [hm, show N.length - (ws.length + 1) = m by omega, List.replicate_succ]
  rw [List.set_append_right _ _ (by simp)]
  simp
theorem fun_okO {x qual : Str} {st : Stmt} {f : Addr} {fd : FuncData} {N ps : List Str} {k n : Nat} {M : Sx} {G : Nat → Nat} (F : Fun K x qual st f fd) (Sc : FnScope N ps (defScope st)) (hn : ps.length = n) (hN : n ≤ N.length) (hG : (List.range n).all (fun i => G i == 0) = true)
    (hb : ∀ (cdv : Value) (A : Around) (outer : List Env) (s : Shared) (H : Hp) (E : XK) (H0 : Hp) (Z0 : Addr → Prop), Room k (A.deeper (envOfC qual (defScope st) s.heap.objs.size f cdv)) →
      SB (cxOf (L2.CX P w) P w K mg base N qual (defScope st) f cdv A outer s H E) ⟨xr, fun c o _ H => E c o H, G, false⟩ H0 Z0 [] (defBody st) M) : FnOk P w K mg base (L2.CX P w) (k + 1) f fd ps (spFO K xr (runBO N.length M) n) := by
  refine F.okX Sc (fun vs H Q E ⟨_, _, _, _, _, _, _, _, hl, _⟩ => hl.trans hn.symm) fun cdv A outer s H vs Q E hr ⟨H0, Nn, ds, es, ws, a, xs, hvs, hl, sm, ha0, ha1, rep, repe, hfl, ok⟩ => ?_
  have hwl : ws.length + 1 = n := by rw [← hl, hvs]; simp
  have hdl : ds.length = ws.length := rep.length.symm
  have hG' : ∀ i, i < ds.length → G i = 0 := fun i hi => by
    have := List.all_eq_true.mp hG i (List.mem_range.mpr (by omega))
    simpa using this
  have R0 := start_rel (N := N) hG' (fun _ => 0) (repL_alloc rep) fun a z => z.2
  have rs : RepS K (NZ G (fun p a => p = 0 ∧ (Nn a ∧ H0 a ≠ none)) (ds.map (fun d => some (S.val d)) ++ List.replicate (N.length - ds.length) none) (fun _ => 0) [] H0) H0 H (.own es) (.ref a) :=
    ⟨a, xs, rfl, ha0, ha1, RepL.flat (Still.refl _) es xs hfl repe⟩
  obtain ⟨Z', rt', z1, z2, R1⟩ := R0.put sm rs ds.length (fun _ h => nomatch h)
  rw [keep_nil] at R1
  have hst : (start N ws).set ds.length (some (.ref a)) = start N vs := by
    rw [hvs, start_snoc (by omega), hdl]
  rw [hst] at R1
  refine ⟨_, hb cdv A outer s H E H0 (fun a => Nn a ∧ H0 a ≠ none) hr, fun _ _ => False, H, _, ⟨sm, Kp.refl _ _, Z', rt', fun p a z => z.elim, fun p a z => ?_, R1⟩, ?_⟩
  · rcases z2 p a z with h | h
    · exact .inl h.2
    · exact .inr h
  · unfold runBO at ok
    cases hM : M ((ds.map (fun d => some (S.val d)) ++ List.replicate (N.length - ds.length) none).set ds.length (some (.own es))) with
    | bad => rw [hM] at ok; exact ok.elim
    | ex d =>
      rw [hM] at ok
      exact fun c o σ' H' sm h => ok c o H' sm h
    | ok fl =>
      rw [hM] at ok
      cases fl with
      | nx e' => exact fun σ' H' B => ok .non H' B.1 rfl
      | rt s' => exact fun v H' sm rv => ok v H' sm (rv.mono fun a n => n.imp (fun z => z.2.1) id)
end
/-- a def of three parameters, the last given away -/
def CalO (P : Program) (w : World) (K : PySem.W.Frag) (mg : Str → Option Value) (base : Heap) (xr : Hp → D → Value → Option Addr → Hp → Prop) (k : Nat) (x : Str) (F : List D → List D → R S) (n : Nat) : Prop :=
  ∃ f fd ps, FnOk P w K mg base (L2.CX P w) k f fd ps (spFO K xr F n) ∧ mg x = some (.ref f) ∧ PySem.W.keepIn K (.ref f) = true ∧ Binds K fd ps []
def eCall3O (F : List D → List D → R S) (m1 m2 m3 : Ex) : Ex := fun e => (m1 e).bind fun a => (m2 e).bind fun b => (m3 e).bind fun c => match c with
  | .own ds => if D.flatL ds = true then F [a.d, b.d] ds else .bad
  | _ => .bad
section
variable {X : Cx} {W : Wi} {x : Str} {e1 e2 e3 : Expr} {m1 m2 m3 : Ex} {l1 l2 l3 : List Nat} {p pos : Pos} {k lev : Nat} {F : List D → List D → R S} {xr : Hp → D → Value → Option Addr → Hp → Prop}
theorem x_call3O (C : CalO X.prog X.w X.K X.mg X.base xr lev x F 3) (hr : Room k X.A) (hk : lev ≤ k) (tk : Takes X W.w) (hxr : ∀ H0 d c o H, xr H0 d c o H → W.xr H0 d c o H) (h1 : SE X W e1 m1 l1) (h2 : SE X W e2 m2 l2) (h3 : SE X W e3 m3 l3)
    (hg : Gl X x := by rfl) (hdb : (x == ("__debug__" : Str)) = false := by decide) (he : starEach [e1, e2, e3] X.env = (false, eval e1 X.env) :: starEach [e2, e3] X.env := by rfl) (he2 : starEach [e2, e3] X.env = (false, eval e2 X.env) :: starEach [e3] X.env := by rfl) (he3 : starEach [e3] X.env = (false, eval e3 X.env) :: starEach [] X.env := by rfl) (hpl : (backTo pos (starEach [e2, e3] X.env)).any (·.1) = false := by rfl) :
    SE X W (.Call (.Name x p) [e1, e2, e3] [] pos) (eCall3O F m1 m2 m3) (l1 ++ l2) := by
  obtain ⟨f, fd, ps, G, hm, kp, hb⟩ := C
  refine PE.imp (pe_callS (G.mono hk |>.imp fun _ _ _ _ h => h) hr hg hm kp hb (fun σ => passAt tk σ) (pa_cons h1 (pa_cons h2 (pa_cons h3 pa_nil he3) he2) he) hdb he hpl) fun σ H Q ⟨B, Z, rt, en, r, q⟩ => ?_
  unfold eCall3O at q
  refine tE_go r (fun d hd => by rw [hd] at q; exact q) (fun hd => by rw [hd] at q; exact q) fun s1 x1 H1 hs1 sm1 r1 rs1 => ?_
  rw [hs1] at q
  refine tE_go r1 (fun d hd c o H' sm => by
    rw [R.bind_ok, hd] at q
    exact (fun z9 => q c o H' (sm1.trans sm) (z9.mo sm1))) (fun hd => by rw [R.bind_ok, hd] at q; exact q) fun s2 x2 H2 hs2 sm2 r2 rs2 => ?_
  rw [R.bind_ok, hs2] at q
  refine tE_go r2 (fun d hd c o H' sm => by
    first | rw [R.bind_ok, R.bind_ok, hd] at q | rw [R.bind_ok, hd] at q | rw [hd] at q
    exact (fun z9 => q c o H' ((sm1.trans sm2).trans sm) (z9.mo (sm1.trans sm2)))) (fun hd => by
    first | rw [R.bind_ok, R.bind_ok, hd] at q | rw [R.bind_ok, hd] at q | rw [hd] at q
    exact q) fun s3 x3 H3 hs3 sm3 r3 rs3 => ?_
  first | rw [R.bind_ok, R.bind_ok, hs3, R.bind_ok] at q | rw [R.bind_ok, hs3, R.bind_ok] at q | rw [hs3, R.bind_ok] at q
  cases s3 with
  | val d => exact q.elim
  | dct t kvs => exact q.elim
  | own ds =>
    by_cases hfl : D.flatL ds = true
    case neg =>
      simp only [hfl] at q
      exact q.elim
    simp only [hfl, if_true] at q
    obtain ⟨a, xs, rfl, n1, n2, n3⟩ := rs3
    have d1 := ((rs1.mono fun a z => NZ.mono (l' := l1 ++ l2) (fun i hi => List.mem_append_left _ hi) z).d fun a z => .inr (.inl z)).same sm2
    have d2 := ((rs2.mono fun a z => (NZ.mono (l' := l1 ++ l2) (fun i hi => List.mem_append_right _ hi) z).back sm1).d fun a z => .inr (.inl (sm1.free z)))
    refine ⟨H2, NZ W.g Z en rt (l1 ++ l2) H, [s1.d, s2.d], ds, [x1, x2], a, xs, rfl, rfl, sm3, n1, n2, ⟨_, _, rfl, d1, ⟨_, _, rfl, d2, rfl⟩⟩, RepL.flat (Still.refl _) ds xs hfl n3, hfl, ?_⟩
    cases hF : F [s1.d, s2.d] ds with
    | bad => rw [hF] at q; exact q.elim
    | ex d =>
      rw [hF] at q
      exact fun c o H' sm' h => q c o H' ((sm1.trans sm2).trans sm') ((h.imp hxr).mo (sm1.trans sm2))
    | ok s =>
      rw [hF] at q
      refine fun v H' sm' rv => q v H' ((sm1.trans sm2).trans sm') ((rv.back (sm1.trans sm2)).mono fun a n => ?_)
      rcases n with n | n
      · exact n
      · exact .inr (.inl ((sm1.trans sm2).free n))
end
section
variable {P : Program} {w : World} {K : PySem.W.Frag} {mg : Str → Option Value} {base : Heap} {xr : Hp → D → Value → Option Addr → Hp → Prop}
theorem def_calO {x : Str} {st : Stmt} {f : Addr} {fd : FuncData} {N ps : List Str} {k n : Nat} {M : Sx} (G : Nat → Nat) (h : Has K mg x st ps f fd) (Sc : FnScope N ps (defScope st)) (hn : ps.length = n) (hN : n ≤ N.length) (hG : (List.range n).all (fun i => G i == 0) = true)
    (hb : ∀ (cdv : Value) (A : Around) (outer : List Env) (s : Shared) (H : Hp) (E : XK) (H0 : Hp) (Z0 : Addr → Prop), Room k (A.deeper (envOfC x (defScope st) s.heap.objs.size f cdv)) →
      SB (cxOf (L2.CX P w) P w K mg base N x (defScope st) f cdv A outer s H E) ⟨xr, fun c o _ H => E c o H, G, false⟩ H0 Z0 [] (defBody st) M) : CalO P w K mg base xr (k + 1) x (runBO N.length M) n :=
  ⟨f, fd, ps, fun_okO h.fn Sc hn hN hG hb, h.m, h.fn.kp, h.b⟩
end
/-- an item of an owned list, of which slot j (of the same group) stands for what it shares -/
def eItO (i : Nat) (c : Int) : Ex := fun e => match e[i]? with
  | some (some (.own ds)) => (match L2.atI ds c with
    | some d => .ok (.val d)
    | none => .bad)
  | _ => .bad
section
variable {X : Cx} {W : Wi}
theorem x_itO {x : Str} {p p2 pos : Pos} {c : Int} {jn : Nat} (i j : Nat) (hi : X.N[i]? = some x := by rfl)
    (hv : Vis X.env.scope x := by first | exact Or.inl rfl | exact Or.inr (Or.inl rfl) | exact Or.inr (Or.inr rfl)) (hd : (x == ("__debug__" : Str)) = false := by decide) (hcd : (x == ("__classdict__" : Str)) = false := by decide) (hg : W.g i = W.g j := by rfl) :
    SE X W (.Subscript (.Name x p) (.Constant (.int c) jn p2) pos) (eItO i c) [j] := by
  refine PE.imp (pe_ix ix_seq (pe_var hi hv hd hcd) pe_int (fun _ _ => rfl)) fun σ H Q ⟨B, Z, rt, e, r, q⟩ => ?_
  unfold eItO at q
  have hs : ∃ ds, e[i]? = some (some (.own ds)) := by
    cases k : e[i]? with
    | none => rw [k] at q; exact q.elim
    | some o =>
      cases o with
      | none => rw [k] at q; exact q.elim
      | some s =>
        cases s with
        | own ds => exact ⟨ds, rfl⟩
        | val d => rw [k] at q; exact q.elim
        | dct t kvs => rw [k] at q; exact q.elim
  obtain ⟨ds, hs⟩ := hs
  rw [hs] at q
  obtain ⟨k1, k2, k3, xs, k4, k5⟩ := r.own i ds hs
  cases ha : L2.atI ds c with
  | none => simp only [ha] at q
  | some d =>
    simp only [ha] at q
    have hx : ∃ n, L2.ixN ds.length c = some n ∧ ds[n]? = some d := by
      unfold L2.atI at ha
      cases hn : L2.ixN ds.length c with
      | none => rw [hn] at ha; cases ha
      | some n => rw [hn] at ha; exact ⟨n, rfl, ha⟩
    obtain ⟨n, h1, h2⟩ := hx
    obtain ⟨v, h3, h4⟩ := k5.get h2
    have hat : L2.atI xs c = some v := by
      unfold L2.atI
      rw [k5.length, h1]
      exact h3
    refine ⟨_, k1, .inl ⟨rt i, xs, c, v, rfl, rfl, .inl (.inl k4), hat, q v H (Same.refl H) ?_⟩⟩
    exact Rep.mono (fun a z => .inl ⟨j, List.mem_singleton.mpr rfl, by rw [← hg]; exact z⟩) h4
end
end Tg

/-! Tg: a comprehension that an exception may leave. -/
namespace Tg
open PySem PySem.Spec PyProof.Rows L2
section
variable {M : Model} {A : Around} {E : Value → Shared → Prop} {env : Env} {s : Shared}
/-- behind the block: the list, or the exception with the block's own environment -/
def cEnd (M : Model) (A : Around) (E : Value → Shared → Prop) (Q : Value → Shared → Prop) (acc : Value) (ce : Env) (r : Result) (t : Shared) : Prop :=
  ∃ m, t.heap.Ns ce.locals m ∧ ∀ g, Heap.SameBut ce.locals t.heap g → match r with
    | .ok _ => Q acc { t with heap := g }
    | .error x => wpAny M A (passOn "comprehension.variables-let-go" x ce : Sem Value) (fun _ _ => False) E { t with heap := g }
theorem comp_freeE {e : Expr} {sc : Scope} {p : Pos} {mk it0 : Sem Value} {c0 : Comprehension} {cs : List Comprehension} {cl : List (Str × Addr)} {Q : Value → Shared → Prop}
    (k1 : clausesOf e = c0 :: cs) (k2 : ∀ x, foldedSetIterable c0.iter env x = pure x) (k3 : closureFor sc env = pure cl)
    (k4 : sc.kind = .function) (k5 : ∀ x ∈ sc.names, x.2 = .local → sc.names.lookup x.1 = some .local)
    (run : wpAny M A it0 (fun x t1 => wpAny M A (pyIter x) (fun i t2 => wpAny M A mk (fun acc t3 =>
      wpAny M A (newFunctionEnv sc env.globals cl [] env.qual none .none (some env)) (fun ce t4 =>
        codeAny M A (.compStart e 0 i acc { ce with scope := relabel sc env }) (cEnd M A E Q acc { ce with scope := relabel sc env }) t4) E t3) E t2) E t1) E s) :
    wpAny M A (comprehension e sc env p mk false it0) Q E s := by
  unfold comprehension
  rw [k3, k1]
  refine wpAny_bind (wpAny_mono run (fun x t1 r1 => wpAny_bind (wpAny_standAt (wpAny_bind (wpAny_of_eq (k2 x) (wpAny_bind (wpAny_holding ?_)))))) fun _ _ z => z)
  refine wpAny_mono r1 (fun i t2 r2 => wpAny_standIf (wpAny_bind (wpAny_mono r2 (fun acc t3 r3 => wpAny_bind (wpAny_pure (wpAny_bind ?_))) fun _ _ z => z))) fun _ _ z => z
  refine wpAny_mono r3 (fun ce t4 r4 => ?_) fun _ _ z => z
  dsimp only
  have own : ∀ x ∈ (sc.names.filter fun x => (x.2 == .local || x.2 == .cell) && x.1 != (".0" : Str)).reverse, x.2 = .local →
      Env.kindOf { ce with scope := relabel sc env } x.1 = some .local := fun x hx hl => lookup_relabel_local (k5 x (List.mem_filter.mp (List.mem_reverse.mp hx)).1 hl)
  refine wpAny_holding (wpAny_bind (wpAny_attempt (wpAny_holding (wpAny_run (codeAny_mono r4 fun r t hr => ?_)))))
  obtain ⟨m, n1, n2⟩ := hr
  cases r with
  | ok f => exact wpAny_bind (wpAny_holding (wpAny_comp_letGo (cenv := { ce with scope := relabel sc env }) k4 _ t m own n1 fun g m' _ sb => wpAny_pure (n2 g sb)))
  | error x =>
    refine wpAny_bind (wpAny_holding (wpAny_comp_letGo (cenv := { ce with scope := relabel sc env }) k4 _ t m own n1 fun g m' _ sb => ?_))
    exact wpAny_mono (n2 g sb) (fun _ _ f => f.elim) fun _ _ y => y
end
end Tg

/-! Tg: a comprehension that an exception of a call may leave: the rule. -/
namespace Tg
open PySem PySem.Spec PyProof.Rows L2

/-- a block's context where exceptions may leave to xe -/
abbrev blkX (X : Cx) (s : Shared) (H : Hp) (scope : Scope) (ce : Env) (fp : List Addr) (xe : Value → Shared → Prop) : Cx := (X.blk s H scope ce fp).tr [] xe
theorem inv_blkX {X : Cx} {s0 : Shared} {H0 : Hp} {scope : Scope} {ce : Env} {fp : List Addr} {xe : Value → Shared → Prop} {pins : List (Addr × Obj)} {σ : L2.St} {H : Hp} {s : Shared} (I : Inv (X.blk s0 H0 scope ce fp) pins σ H s) : Inv (blkX X s0 H0 scope ce fp xe) pins σ H s :=
  ⟨I.ok.toTry [] xe, I.os, I.bare, I.base, I.loc, I.cell, I.free, I.freeC, I.pin, I.hok, I.len⟩
theorem inv_unX {X : Cx} {s0 : Shared} {H0 : Hp} {scope : Scope} {ce : Env} {fp : List Addr} {xe : Value → Shared → Prop} {pins : List (Addr × Obj)} {σ : L2.St} {H : Hp} {s : Shared} (ok : (X.blk s0 H0 scope ce fp).Ok) (I : Inv (blkX X s0 H0 scope ce fp xe) pins σ H s) : Inv (X.blk s0 H0 scope ce fp) pins σ H s :=
  ⟨ok, I.os, I.bare, I.base, I.loc, I.cell, I.free, I.freeC, I.pin, I.hok, I.len⟩

/-- frames, C changed, C no frame -/
theorem frames_but {C : Addr} {g h b : Heap} (k : ∀ a, a ≠ C → g.get? a = h.get? a) : ∀ {l : List Env}, h.FunFrames b l → C ∉ frs l → ∀ {b' : Heap}, (∀ a, b.get? a = none → b'.get? a = none) → g.FunFrames b' l
  | [], _, _, _, _ => trivial
  | env :: l, ff, hC, b', hb => by
    obtain ⟨e1, ⟨L, o, e2, e3, e4, e5⟩, e6⟩ := ff
    have hL : L ≠ C := fun z => hC (List.mem_filterMap.mpr ⟨env, List.mem_cons_self, by rw [e2, z]⟩)
    exact ⟨e1, ⟨L, o, e2, hb _ e3, (k L hL).trans e4, e5⟩, frames_but k e6 (fun z => by
      obtain ⟨e, he, q⟩ := List.mem_filterMap.mp z
      exact hC (List.mem_filterMap.mpr ⟨e, List.mem_cons_of_mem _ he, q⟩)) hb⟩

section
variable {X : Cx} {pins : List (Addr × Obj)} {σ : L2.St} {H : Hp} {s s2 : Shared} {W : WX} {E : XK}
/-- a call's exception: the state without it, and that it flies -/
theorem fly_of (J : Inv X pins σ H s) {u : Value} (c : L2.CX X.prog X.w X.stack H s E u s2) : ∃ (a : Addr) (B : Heap) (t : Shared) (H1 : Hp) (cls : Value) (d : Option Addr),
    u = .ref a ∧ Inv X pins σ H1 t ∧ (∀ b o, t.heap.get? b = some o → b ∉ frs X.stack → B.get? b = some o) ∧ t.heap.UpToSlots s2.heap ∧ HandSPX.FlyingZ B X.stack a (Zc cls d) s2.heap ∧ H1 a = none ∧ s2.os = t.os ∧ AllBare s2.gens ∧ E cls d H1 := by
  obtain ⟨a, B, H1, cls, d, eu, fly, okB, kept, free, sameOs, gens, wish⟩ := c
  obtain ⟨G, inG, outG⟩ := restrict s2.heap fun b => (B.get? b).isSome || decide (b ∈ frs X.stack)
  have base : B.StaysIn s2.heap := fly.1
  have ofB : ∀ b o, B.get? b = some o → G.get? b = some o := fun b o q => (inG b (by simp [q])).trans (base b o q)
  have ofF : ∀ b, b ∈ frs X.stack → G.get? b = s2.heap.get? b := fun b q => inG b (by simp [q])
  have from_ : ∀ b o, G.get? b = some o → s2.heap.get? b = some o ∧ ((B.get? b).isSome = true ∨ b ∈ frs X.stack) := fun b o q => by
    by_cases hp : ((B.get? b).isSome || decide (b ∈ frs X.stack)) = true
    · rw [inG b hp] at q
      exact ⟨q, by simpa using hp⟩
    · rw [outG b (by simpa using hp)] at q
      cases q
  have J2 : Inv X pins σ H1 { s with heap := G, gens := s2.gens, drawn := s2.drawn, toks := s2.toks } := by
    refine J.call (ch := []) ⟨fun b o e n q _ => ofB b o (kept.keep b o e n q), fun b o e n q _ => ?_, fun b o e n _ => kept.free b o e n, fun b o e _ => ?_, kept.tups, kept.frzs, kept.tbls⟩ (okB.kept ofB) gens (fun _ z => nomatch z)
    · obtain ⟨sl, z⟩ := kept.slot b o e q
      exact ⟨sl, (ofF b q).trans z⟩
    · by_cases q : b ∈ frs X.stack
      · obtain ⟨sl, z⟩ := kept.slot b o e q
        exact ⟨_, (ofF b q).trans z⟩
      · obtain ⟨o2, z⟩ := kept.there b o e q
        exact ⟨o2, ofB b o2 z⟩
  refine ⟨a, B, _, H1, cls, d, eu, J2, fun b o e q => ?_, Heap.UpToSlots.of_keeps fun b o e => (from_ b o e).1, fly, free, sameOs, gens, wish⟩
  obtain ⟨e1, h | h⟩ := from_ b o e
  · obtain ⟨o2, z⟩ := Option.isSome_iff_exists.mp h
    have := base b o2 z
    rw [e1] at this
    cases this
    exact z
  · exact absurd h q
end

section
variable {X : Cx} {pins : List (Addr × Obj)} {σ : L2.St} {H : Hp} {s3 : Shared} {H3 : Hp} {W : WX} {scope : Scope} {cl : List (Str × Addr)} {fp : List Addr} {Qf : Value → Shared → Prop} {acc : Value}
/-- what a call in a block may let out is our wish -/
theorem blk_passes (tk : Takes X W) (hst : X.stack = X.env :: X.outer) (hfr : X.env.frame = some X.env.locals) (I3 : Inv X pins σ H3 s3) (f3 : ∀ b ∈ fp, FpOk X pins H3 b ∧ b < s3.heap.objs.size) (τ : L2.St)
    {xe : Value → Shared → Prop} (hxe : ∀ u t, notedBy (model X.prog X.w) X.A (compEnvC scope cl s3.heap.objs.size X.env) (fun e t => cEnd (model X.prog X.w) X.A X.xe Qf acc (compEnvC scope cl s3.heap.objs.size X.env) (.error e) t) u t → xe u t) :
    PassesAt (L2.CX X.prog X.w) (blkX X s3 H3 scope (compEnvC scope cl s3.heap.objs.size X.env) fp xe) τ (WE (fun c d _ H => W c d σ H) τ) := by
  intro pins2 H2 s e s2 J c
  obtain ⟨a, B, t, H1, cls, d, rfl, J6, nb, up, fly, na, os, ag, w⟩ := fly_of J c
  have J6 : Inv (blkX X s3 H3 scope (compEnvC scope cl s3.heap.objs.size X.env) fp xe) pins2 τ H1 t := J6
  refine hxe _ _ ?_
  -- back in the def's context
  have J7 : Inv X pins σ H1 t := I3.call' (ch := fp) J6.os J6.base J6.hok J6.bare fun b hb => ⟨(f3 b hb).1.2.2.2.1, (f3 b hb).1.2.1, (f3 b hb).1.2.2.2.2.1, (f3 b hb).1.2.2.2.2.2⟩
  have nC : H1 s3.heap.objs.size = none := J6.free
  obtain ⟨g0, g1, g2, g3, g4, g5⟩ := I3.fpOk (Nat.le_refl _) nC
  have hCf : s3.heap.objs.size ∉ frs X.stack := fun z => by
    rw [hst] at z
    obtain ⟨e, he, q⟩ := List.mem_filterMap.mp z
    rcases List.mem_cons.mp he with he | he
    · rw [he, hfr] at q
      exact g1 (Option.some.inj q).symm
    · exact g2 (List.mem_filterMap.mpr ⟨e, he, q⟩)
  obtain ⟨m, ⟨oC, es, ep, hC, hrest⟩, _⟩ := J6.loc
  have hC : t.heap.get? s3.heap.objs.size = some oC := hC
  have hCB : B.get? s3.heap.objs.size = some oC := nb _ _ hC hCf
  have frm : X.A.frames = some (X.env :: X.outer) := by rw [I3.ok.frames, hst]
  have fly2 : HandSPX.FlyingZ B (X.env :: X.outer) a (Zc cls d) s2.heap := by rw [← hst]; exact fly
  show wpAny (model X.prog X.w) X.A (noteFrame (.ref a) X.env) _ _ s2
  refine HandSPX.looks_onZ Zc.steady frm hfr fly2 fun h1 held up1 => ?_
  refine ⟨m, ⟨oC, es, ep, held.1 _ _ hCB, hrest⟩, fun g sb => ?_⟩
  have sb : Heap.SameBut s3.heap.objs.size h1 g := sb
  obtain ⟨k1, k2, k3, oe, vs, T, oT, ts, he, hz, hd, hv1, hnT, hTe, hT, hdT, hfl⟩ := id held
  -- the dict is no record
  have noRec : ∀ {b : Addr} {o : Obj} {vs : Array Value}, h1.get? b = some o → o.data = .fields vs → b ≠ s3.heap.objs.size := fun {b o vs} e q z => by
    have h2 := held.1 _ _ hCB
    rw [z, h2] at e
    cases e
    obtain ⟨r1, _⟩ := hrest
    rw [r1] at q
    cases q
  have naC : a ≠ s3.heap.objs.size := noRec he hd
  have nTC : T ≠ s3.heap.objs.size := noRec hT hdT
  have heG : g.get? a = some oe := (sb.2 a naC).trans he
  have hTG : g.get? T = some oT := (sb.2 T nTC).trans hT
  have hid : ∀ {b : Addr} {h : Heap}, h.get? b = none → (PySem.W.hideAll h [s3.heap.objs.size]).get? b = none := fun {b h} e => by
    cases q : (PySem.W.hideAll h [s3.heap.objs.size]).get? b with
    | none => rfl
    | some o =>
      have z := PySem.W.of_hideAll _ q
      rw [e] at z
      cases z
  have hidC : ∀ {h : Heap}, (PySem.W.hideAll h [s3.heap.objs.size]).get? s3.heap.objs.size = none := PySem.W.hideAll_none _ (List.mem_singleton.mpr rfl)
  have hidB : ∀ b o, (PySem.W.hideAll B [s3.heap.objs.size]).get? b = some o → b ≠ s3.heap.objs.size := fun b o e z => by
    rw [z, hidC] at e
    cases e
  have held2 : HandSPX.HeldZ (PySem.W.hideAll B [s3.heap.objs.size]) (X.env :: X.outer) a (Zc cls d) X.env.locals g := by
    refine ⟨fun b o e => (sb.2 b (hidB b o e)).trans (k1 b o (PySem.W.of_hideAll _ e)), hid k2, frames_but sb.2 k3 (by rw [← hst]; exact hCf) (fun b e => hid e), oe, vs, T, oT, ts, heG, hz, hd, hv1, hid hnT, hTe, hTG, hdT, hfl⟩
  -- it is passed on
  unfold PySem.passOn
  refine wpAny_bind (wpAny_field heG hd hv1 ?_)
  rw [if_neg (show ¬ ((Value.ref T == Value.none) = true) from by simp)]
  have J8 : Inv X pins σ H1 { t with heap := PySem.W.hideAll t.heap [s3.heap.objs.size] } := J7.turned (t' := t.toks) (it := s3.heap.objs.size) (fun b o hb e => PySem.W.hideAll_get _ e (fun z => hb (List.mem_singleton.mp z))) g0 g1 g3 g4 g5
  have fin : wpAny (model X.prog X.w) X.A (setFlight (.ref a) X.env.frame) (fun _ s4 => wpAny (model X.prog X.w) X.A (throw (.ref a) : Sem Value) (fun _ _ => False) X.xe s4) X.xe { s2 with heap := g } := by
    rw [hfr]
    refine HandSPX.setFlight_onZ held2 fun h4 hh4 up4 => wpAny_throw (tk _ _ ?_)
    refine ⟨a, PySem.W.hideAll B [s3.heap.objs.size], { t with heap := PySem.W.hideAll t.heap [s3.heap.objs.size] }, pins, σ, H1, cls, d, rfl, J8, fun b o e hb => ?_, fun b o e nf => ?_, .inr (.inr (by rw [hst]; exact hh4)), na, os, ag, w⟩
    · have hbC : b ≠ s3.heap.objs.size := fun z => by
        have e : (PySem.W.hideAll t.heap [s3.heap.objs.size]).get? b = some o := e
        rw [z, hidC] at e
        cases e
      exact PySem.W.hideAll_get _ (nb b o (PySem.W.of_hideAll _ e) hb) fun z => hbC (List.mem_singleton.mp z)
    · have hbC : b ≠ s3.heap.objs.size := fun z => by
        have e : (PySem.W.hideAll t.heap [s3.heap.objs.size]).get? b = some o := e
        rw [z, hidC] at e
        cases e
      obtain ⟨sl1, q1⟩ := (up.trans up1) b o (PySem.W.of_hideAll _ e) nf
      obtain ⟨sl2, q2⟩ := up4 b _ ((sb.2 b hbC).trans q1) nf
      exact ⟨sl2, q2⟩
  first
    | exact wpAny_bind (wpAny_pure (wpAny_bind fin))
    | exact wpAny_bind fin
end
end Tg

/-! Tg: a comprehension that an exception of a call may leave: its walk, its pure run. -/
namespace Tg
open PySem PySem.Spec PyProof.Rows L2
section
variable {X : Cx}
theorem pe_lcE {elt tg iter : Expr} {ifs : List Expr} {scope : Scope} {own : List (Str × Nat)} {pos : Pos} {wi : TI} {g : TG} {tt : TT} {te : WX → TE} {W : WX} (tk : Takes X W) (hst : X.stack = X.env :: X.outer) (hfr : X.env.frame = some X.env.locals)
    (hc : X.calm = true) (hN : X.N.Nodup) (hi : PI X tg iter wi) (ok : BlkOk X.N X.env.scope scope own)
    (hg : ∀ (s : Shared) (H : Hp) (C : Addr) (cl : List (Str × Addr)) (fp : List Addr), PG (X.blk s H scope (compEnvC scope cl C X.env) fp) tg g) (ht : ∀ (s : Shared) (H : Hp) (C : Addr) (cl : List (Str × Addr)) (fp : List Addr), PTs (X.blk s H scope (compEnvC scope cl C X.env) fp) ifs tt)
    (he : ∀ (s : Shared) (H : Hp) (C : Addr) (cl : List (Str × Addr)) (fp : List Addr) (xe : Value → Shared → Prop) (Wb : WX), (∀ τ, PassesAt (L2.CX X.prog X.w) (blkX X s H scope (compEnvC scope cl C X.env) fp xe) τ (WE Wb τ)) → PE (blkX X s H scope (compEnvC scope cl C X.env) fp xe) elt (te Wb)) (hs : ∀ x, foldedSetIterable iter X.env x = pure x := by intro _; rfl) :
    PE X (.ListComp elt [⟨tg, iter, ifs, 0⟩] scope pos) (fun σ H Q => tLc wi g tt (te fun c d _ H' => W c d σ H') (own.map (·.2)) σ H Q) := by
  refine ⟨fun pins s σ H Q I h => ?_⟩
  rw [eval_ListComp]
  have hfree : ∀ y ∈ scope.names, y.2 = .free → ∃ c, X.env.cells.lookup y.1 = some c := fun y hy e => (ok.free y hy e).elim (fun k => I.ok.has _ (.inl k)) fun k => I.ok.has _ (.inr k)
  refine comp_freeE rfl hs (closure_ok hfree) ok.kind (fun y hy e => by rw [ok.uniq y hy, e]) (thn (hi.run pins s σ H _ I h) fun xv s1 hx => thn hx fun itv s2 h2 => ?_)
  obtain ⟨it, fp, tn, J, H2, eit, I2, T, st2, f2, q⟩ := h2
  subst eit
  refine wpAny_newObj_type (newEnv_comp ?_) (by show 0 ≤ sizeLine; decide)
  generalize eD : s2.heap.objs.size = D
  obtain ⟨W0, ⟨m0, w0⟩, turn⟩ := q D (I2.hok.fresh (Nat.le_of_eq eD))
  generalize es3 : ({ s2 with heap := s2.heap.push { cls := .type "list", data := .seq ([] : List Value).toArray } } : Shared) = s3
  have hp3 : s3.heap = s2.heap.push { cls := .type "list", data := .seq ([] : List Value).toArray } := by rw [← es3]
  have I3 : Inv X pins σ (upd H2 D (.lst [])) s3 := by
    rw [← es3]
    exact I2.laid (t' := s2.toks) (fun b o e => Heap.get?_push_of_some _ e) (Nat.le_of_eq eD) ⟨Nat.zero_le _, [], 0, .nil, by rw [← eD]; exact Heap.get?_push_size _ rfl⟩
  have f3 : ∀ b ∈ fp, FpOk X pins (upd H2 D (.lst [])) b ∧ b < s3.heap.objs.size := fun b hb => by
    obtain ⟨o, e, _⟩ := T.obj _ _ st2 b hb
    have lt := Heap.lt_size e
    refine ⟨⟨?_, (f2 b hb).2⟩, by rw [hp3, Heap.size_push]; exact Nat.lt_succ_of_lt lt⟩
    rw [upd_ne (by rw [← eD]; exact Nat.ne_of_lt lt)]
    exact (f2 b hb).1
  have st3 : tn 0 s3.heap := T.keep _ _ _ st2 fun b _ o e => by rw [hp3]; exact Heap.get?_push_of_some _ e
  have I4 := block_start I3 ok hN f3
  have pg := hg s3 (upd H2 D (.lst [])) s3.heap.objs.size (cellsFrom (s3.heap.objs.size + 1) scope.names (cloFrom X.env.cells scope.names [])) fp
  have pt := ht s3 (upd H2 D (.lst [])) s3.heap.objs.size (cellsFrom (s3.heap.objs.size + 1) scope.names (cloFrom X.env.cells scope.names [])) fp
  have pe := he s3 (upd H2 D (.lst [])) s3.heap.objs.size (cellsFrom (s3.heap.objs.size + 1) scope.names (cloFrom X.env.cells scope.names [])) fp _ _
    (fun τ => blk_passes (Qf := EP X pins σ Q) (acc := .ref D) tk hst hfr I3 f3 τ fun _ _ z => z)
  show codeAny _ _ (.compStart (.ListComp elt [⟨tg, iter, ifs, 0⟩] scope pos) 0 (.ref it) (.ref D) (compEnvC scope (cellsFrom (s3.heap.objs.size + 1) scope.names (cloFrom X.env.cells scope.names [])) s3.heap.objs.size X.env))
    (cEnd (model X.prog X.w) X.A X.xe (EP X pins σ Q) (.ref D) (compEnvC scope (cellsFrom (s3.heap.objs.size + 1) scope.names (cloFrom X.env.cells scope.names [])) s3.heap.objs.size X.env)) { s3 with heap := pushCells (s3.heap.push { cls := .type "dict", data := .dict #[] }) scope.names }
  have nfp : ∀ b ∈ fp, (upd H2 D (.lst [])) b = none := fun b hb => (f3 b hb).1.1
  generalize ece : compEnvC scope (cellsFrom (s3.heap.objs.size + 1) scope.names (cloFrom X.env.cells scope.names [])) s3.heap.objs.size X.env = ce at I4 pg pt pe ⊢
  have cL : ce.locals = s3.heap.objs.size := by subst ece; rfl
  generalize eH3 : upd H2 D (.lst []) = H3 at I3 I4 pg pt pe w0 nfp f3
  generalize es4 : ({ s3 with heap := pushCells (s3.heap.push { cls := .type "dict", data := .dict #[] }) scope.names } : Shared) = s4 at I4 ⊢
  have st4 : tn 0 s4.heap := T.keep _ _ _ st3 fun b _ o e => by rw [← es4]; exact pushCells_keeps _ _ _ _ (Heap.get?_push_of_some _ e)
  have stat : ∀ {τ : L2.St} {G : Hp} {t : Shared}, Inv (X.blk s3 H3 scope ce fp) [] τ G t → (∀ b ∈ fp, G b = none) → ∀ b ∈ fp, FpOk (X.blk s3 H3 scope ce fp) [] G b := fun {τ G t} J hn b hb =>
    ⟨hn b hb, (J.ok.exf b hb).1, J.ok.exfs b hb, .inl hb, (J.ok.exf b hb).2, fun p hp => absurd (show p ∈ ([] : List (Addr × Obj)) ++ [] from hp) (by simp)⟩
  have loop : codeAny (model X.prog X.w) X.A (.compLoop (.ListComp elt [⟨tg, iter, ifs, 0⟩] scope pos) 0 (.ref it) (.ref D) ce) (cEnd (model X.prog X.w) X.A X.xe (EP X pins σ Q) (.ref D) ce) s4 := by
    refine compLoop_any (fun n t => ∃ i G, Inv (X.blk s3 H3 scope ce fp) [] (wipe σ (own.map (·.2))) G t ∧ tn i t.heap ∧ (∀ b ∈ fp, G b = none) ∧ W0 i n G) ?_ m0 ⟨0, H3, I4, st4, nfp, w0⟩
    rintro n s5 ⟨i, H5, I5, st5, n5, w5⟩
    rcases turn i n H5 w5 with ⟨stop, done⟩ | ⟨go, Nx, next, step⟩
    · refine thnF (T.done (X.blk s3 H3 scope ce fp) rfl rfl rfl hc i [] s5 _ H5 (fun _ _ => False) I5 (stat I5 n5) st5 stop) fun r s6 ⟨hr, I6⟩ => ?_
      subst hr
      have I7 : Inv X pins σ H5 s6 := I3.call' (ch := fp) I6.os I6.base I6.hok I6.bare fun b hb => ⟨(f3 b hb).1.2.2.2.1, (f3 b hb).1.2.1, (f3 b hb).1.2.2.2.2.1, (f3 b hb).1.2.2.2.2.2⟩
      have nC : H5 s3.heap.objs.size = none := by
        have z : H5 ce.locals = none := I6.free
        rwa [cL] at z
      obtain ⟨m, hn, _⟩ := I6.loc
      obtain ⟨g0, g1, g2, g3, g4, g5⟩ := I3.fpOk (Nat.le_refl _) nC
      refine ⟨m, hn, fun g sb => ?_⟩
      rw [cL] at sb
      exact ⟨.ref D, H5, I7.turned (t' := s6.toks) (fun b o hb e => (sb.2 b hb).trans e) g0 g1 g3 g4 g5, rfl, done⟩
    · refine thnF (T.item (X.blk s3 H3 scope ce fp) rfl rfl rfl hc i [] s5 _ H5 (fun _ _ => False) I5 (stat I5 n5) st5 go) fun r s6 ⟨u, hr, h6⟩ => ?_
      subst hr
      refine thnF h6 fun _ s7 ⟨x, H7, I7, r7, y7, st7, n7⟩ => ?_
      refine thnF (pg.run _ s7 _ H7 x u _ (I7.pinned (stat I7 n7) (T.obj _ _ st7)) r7 (step x H7 y7)) fun _ s8 ⟨σ8, H8, I8, hw8, q8⟩ => ?_
      refine thnF (pt.run _ s8 σ8 H8 _ I8 q8) fun b s9 ⟨H9, I9, q9⟩ => ?_
      have fin : ∀ {t : Shared} {G : Hp}, Inv (X.blk s3 H3 scope ce fp) ([] ++ pinsAt fp s7.heap) σ8 G t → Nx G → ∃ m, m < n ∧ ∃ i G, Inv (X.blk s3 H3 scope ce fp) [] (wipe σ (own.map (·.2))) G t ∧ tn i t.heap ∧ (∀ b ∈ fp, G b = none) ∧ W0 i m G := fun {t G} J nx => by
        obtain ⟨m1, lt, w1⟩ := next G nx
        have pin1 : ∀ b ∈ fp, ∀ o, s7.heap.get? b = some o → t.heap.get? b = some o ∧ G b = none := fun b hb o e =>
          let z := J.pin (b, o) (List.mem_append_right _ (List.mem_append_right _ (mem_pinsAt hb e)))
          ⟨z.1, z.2.1⟩
        refine ⟨m1, lt, i + 1, G, (J.unpinned (pins := [])).weak (by rw [← hw8, wipe_length]) (fun j v e => ?_), T.keep _ _ _ st7 fun b hb o e => (pin1 b hb o e).1, fun b hb => ?_, w1⟩
        · rw [← hw8] at e
          exact (wipe_some e).1
        · obtain ⟨o, e, _⟩ := T.obj _ _ st7 b hb
          exact (pin1 b hb o e).2
      cases b with
      | false =>
        simp only [Bool.false_eq_true, if_false] at q9 ⊢
        exact fin I9 q9
      | true =>
        simp only [if_true] at q9 ⊢
        have pr := pe.run _ s9 σ8 H9 _ (inv_blkX I9) q9
        refine wpAny_mono pr (fun z s10 ⟨yv, H10, I10, r10, xs, hD10, hz10, nx⟩ => ?_) fun _ _ z => z
        exact app_ok (X := X.blk s3 H3 scope ce fp) (inv_unX I9.ok I10) hD10 hz10 r10 fun s11 I11 => fin I11 nx
  exact codeAny_compStart_list loop (T.self X.A 0 _ _ _ st4 loop)
end

/-! the pure run -/
def compLX (t : Tt) (c : Tx) (m : Ex) (e : En) : List D → R (List D)
  | [] => .ok []
  | d :: r => match t d e with
    | .ok e' => (match c e' with
      | .ok true => (m e').bind fun x => (compLX t c m e r).bind fun ys => .ok (x.d :: ys)
      | .ok false => compLX t c m e r
      | _ => .bad)
    | _ => .bad
/-- a comprehension whose things may raise -/
def eCompX (al vs : List Nat) (it : Ax) (t : Tt) (c : Tx) (m : Ex) : Ex := fun e => (it e).bind fun ds =>
  if ds.length ≤ 65536 then (compLX t c m (wipeE (freeze al e) vs) ds).bind fun ys => .ok (.own ys) else .bad
abbrev WB (W : Wi) (w : WX) : Wi := ⟨W.xr, w, W.g, false⟩
section
variable {X : Cx} {W : Wi}
theorem comp_simX {it : Ax} {al l lr : List Nat} {t : Tt} {c : Tx} {m : Ex} {ts vs : List Nat} {p : Nat} (hal : ∀ j ∈ al, W.g j = p) (hr1 : ∀ j ∈ l, j ∈ lr) (hr2 : (∀ j ∈ l, W.g j ≠ p) ∨ ∀ j ∈ al, j ∈ lr) (kt : TKeep t) (hts : ∀ i ∈ ts, i ∈ vs) (σ : L2.St) (H : Hp) (Q : VK) (q : tE X.K W (eCompX al vs it t c m) lr σ H Q) :
    tLc (tI X.K W it al) (tG X.K W.g p t ts) (tT X.K (W0 W.g) c) (tE X.K (WB W fun c d _ H' => W.w c d σ H') m l) vs σ H Q := by
  obtain ⟨B, Z, rt, e, r, q⟩ := q
  unfold eCompX at q
  refine ⟨B, Z, rt, e, r, ?_⟩
  cases hit : it e with
  | bad => rw [hit] at q; exact q.elim
  | ex d => rw [hit] at q; exact q
  | ok ds =>
    rw [hit, R.bind_ok] at q
    by_cases hl : ds.length ≤ 65536
    case neg => rw [if_neg hl] at q; exact q.elim
    rw [if_pos hl] at q
    intro J H1 sm ir D hD
    have r1 : Rel X.K B W.g (ZN p Z e rt al H H1 fun _ => False) rt (wipeE (freeze al e) vs) (L2.wipe σ vs) H1 := (r.grow sm p al hal _).wipe vs
    have z1 : ∀ a, (NZ W.g Z e rt al H a ∧ H1 a ≠ none) → ZN p Z e rt al H H1 (fun _ => False) p a := fun a ⟨n, k⟩ => zn_sub hal n (fun z => z) k
    have zD : ∀ g, ¬ ZN p Z e rt al H H1 (fun _ => False) g D := fun g z => r1.al g D z hD
    let NE : Addr → Prop := fun a => NZ W.g Z e rt lr H a ∧ a ≠ D
    let F := fun ds => compLX t c m (wipeE (freeze al e) vs) ds
    refine ⟨fun i n H2 => n = ds.length - i ∧ i ≤ ds.length ∧ Same H1 H2 ∧ ∃ acc ys, H2 D = some (.lst acc) ∧ acc.length ≤ i ∧ RepL X.K NE H2 ys acc ∧ F ds = (F (ds.drop i)).bind fun zs => .ok (ys ++ zs),
      ⟨ds.length, by simp, Nat.zero_le _, same_new hD, [], [], upd_same, Nat.le_refl _, rfl, ?_⟩, ?_⟩
    · show F ds = (F ds).bind fun zs => .ok ([] ++ zs)
      cases F ds <;> rfl
    rintro i n H2 ⟨rfl, hi, sm2, acc, ys, hacc, hal2, hys, hF⟩
    have acl : acc.length ≤ 65536 := Nat.le_trans hal2 (Nat.le_trans hi hl)
    have q : (match (F ds).bind (fun ys => (.ok (.own ys) : R S)) with
      | .ok s => ∀ x H', Same H H' → RepS X.K (NZ W.g Z e rt lr H) H H' s x → Q x H'
      | .ex d => ∀ c o H', Same H H' → (XC W.xr H d c o H' → W.w c o σ H')
      | .bad => False) := q
    by_cases hlt : i < ds.length
    · have hd : ds[i]? = some ds[i] := List.getElem?_eq_getElem hlt
      rw [List.drop_eq_getElem_cons hlt] at hF
      -- this turn's run
      refine .inr ⟨ir.go i H2 (same_kp sm2) hlt, fun H' => Same H1 H' ∧ ∃ acc ys, H' D = some (.lst acc) ∧ acc.length ≤ i + 1 ∧ RepL X.K NE H' ys acc ∧ F ds = (F (ds.drop (i + 1))).bind fun zs => .ok (ys ++ zs),
        fun H' h' => ⟨ds.length - (i + 1), by omega, rfl, hlt, h'⟩, fun x H3 hy => ?_⟩
      obtain ⟨sm3, rx⟩ := ir.yld i H2 x H3 ds[i] (same_kp sm2) hd hy
      refine ⟨B, _, rt, _, ds[i], r1.ext (sm2.trans sm3), rx.mono z1, ?_⟩
      have hF0 : F (ds[i] :: ds.drop (i + 1)) = (match t ds[i] (wipeE (freeze al e) vs) with
        | .ok e' => (match c e' with
          | .ok true => (m e').bind fun x => (F (ds.drop (i + 1))).bind fun ys => .ok (x.d :: ys)
          | .ok false => F (ds.drop (i + 1))
          | _ => .bad)
        | _ => .bad) := rfl
      rw [hF0] at hF
      cases ht : t ds[i] (wipeE (freeze al e) vs) with
      | bad => rw [ht] at hF; rw [hF] at q; exact q.elim
      | ex _ => rw [ht] at hF; rw [hF] at q; exact q.elim
      | ok e' =>
      rw [ht] at hF
      simp only at hF
      intro σ' r' o'
      refine ⟨o'.wipe hts, B, _, rt, e', r', ?_⟩
      have back : ∀ a, Root e' rt l a → Root e rt lr a ∧ H1 a ≠ none := fun a ⟨j, hj, ⟨es, q1⟩, ea⟩ => by
        have q2 := kt _ _ _ ht j es q1
        obtain ⟨q3, _⟩ := freeze_own (wipeE_own q2)
        have q4 : Root e rt lr a := ⟨j, hr1 j hj, ⟨es, q3⟩, ea⟩
        obtain ⟨_, xs, h⟩ := r.root q4
        exact ⟨q4, by rw [sm _ _ h]; exact nofun⟩
      cases hc : c e' with
      | bad => rw [hc] at hF; rw [hF] at q; exact q.elim
      | ex _ => rw [hc] at hF; rw [hF] at q; exact q.elim
      | ok b =>
      rw [hc] at hF
      cases b with
      | false =>
        simp only at hF
        intro H4 sm4
        rw [if_neg Bool.false_ne_true]
        have s24 := sm3.trans sm4
        exact ⟨sm2.trans s24, acc, ys, s24 _ _ hacc, Nat.le_succ_of_le hal2, hys.same s24, hF⟩
      | true =>
        simp only at hF
        intro H4 sm4
        rw [if_pos rfl]
        refine ⟨B, _, rt, e', r'.ext sm4, ?_⟩
        have sH : Same H H4 := sm.trans (sm2.trans (sm3.trans sm4))
        cases hm : m e' with
        | bad => rw [hm] at hF; rw [hF] at q; exact q.elim
        | ex d =>
          rw [hm] at hF
          rw [hF] at q
          exact fun c o H' sm' z => q c o H' (sH.trans sm') (z.mo sH)
        | ok y =>
        rw [hm, R.bind_ok] at hF
        intro v H5 sm5 rv
        have s25 := (sm3.trans sm4).trans sm5
        have hD5 : H5 D = some (.lst acc) := s25 _ _ hacc
        refine ⟨acc, hD5, Nat.lt_of_le_of_lt acl (by decide), ?_, acc ++ [v], ys ++ [y.d], upd_same, by simp; omega, ?_, ?_⟩
        · intro b o z
          rw [upd_ne (ne_of_none z hD)]
          exact s25 _ _ (sm2 _ _ z)
        · have st : Still H5 (upd H5 D (.lst (acc ++ [v]))) := still_lst hD5
          have up : ∀ {N : Addr → Prop} {ds : List Tg.D} {xs : List V}, (∀ a, N a → NE a) → RepL X.K N H5 ds xs → RepL X.K NE (upd H5 D (.lst (acc ++ [v]))) ds xs := fun hN h => RepL.imp (fun a xs n k => ⟨hN a n, by rw [upd_ne (hN a n).2]; exact k⟩) st _ _ h
          refine (up (fun a n => n) (hys.same s25)).append ?_
          have rvd : Rep X.K (fun a => NE a) H5 y.d v := by
            have n4 : ∀ a, NZ W.g (ZN p Z e rt al H H1 fun _ => False) e' rt l H4 a → NZ W.g Z e rt lr H a ∧ (H4 a ≠ none → a ≠ D) := fun a n => by
              rcases n with ⟨j, hj, n⟩ | n | n
              · refine ⟨?_, fun _ w => zD _ (w ▸ n)⟩
                rcases n with n | ⟨ep, ⟨n, _⟩ | ⟨i, hi, n⟩⟩
                · exact .inl ⟨j, hr1 j hj, n⟩
                · exact .inr (.inl n)
                · rcases hr2 with h | h
                  · exact absurd ep (h j hj)
                  · exact .inr (.inr ⟨i, h i hi, n⟩)
              · exact ⟨.inr (.inl (sH.free n)), fun k => absurd n k⟩
              · obtain ⟨n1, n2⟩ := back a n
                exact ⟨.inr (.inr n1), fun _ w => n2 (w ▸ hD)⟩
            have hD4 : H4 D ≠ none := by rw [(sm3.trans sm4) _ _ hacc]; exact nofun
            have nd : ∀ a, NZ W.g (ZN p Z e rt al H H1 fun _ => False) e' rt l H4 a → NE a := fun a n => ⟨(n4 a n).1, fun w => by
              subst w
              exact (n4 a n).2 hD4 rfl⟩
            exact (rv.mono nd).d fun a z => ⟨.inr (.inl (sH.free z)), fun w => hD4 (w ▸ z)⟩
          exact up (fun a n => n) (RepL.one rvd)
        · rw [hF]
          cases F (ds.drop (i + 1)) with
          | bad => rfl
          | ex _ => rfl
          | ok zs =>
            show R.ok (ys ++ (y.d :: zs)) = R.ok ((ys ++ [y.d]) ++ zs)
            rw [List.append_assoc]
            rfl
    · have ei : i = ds.length := by omega
      refine .inl ⟨ir.stop i H2 (same_kp sm2) (by omega) (by omega), ?_⟩
      rw [ei, List.drop_length] at hF
      have hF : F ds = .ok (ys ++ []) := hF
      rw [List.append_nil] at hF
      rw [hF] at q
      exact q _ H2 (sm.trans sm2) ⟨D, acc, rfl, sm.free hD, hacc, hys⟩
/-- a call's exceptions, in a block -/
abbrev TakC (X : Cx) (w : WX) : Prop := ∀ τ, PassesAt (L2.CX X.prog X.w) X τ (WE w τ)
theorem x_compX {elt tg iter : Expr} {ifs : List Expr} {scope : Scope} {own : List (Str × Nat)} {pos : Pos} {it : Ax} {al l : List Nat} {t : Tt} {c : Tx} {m : Ex} {ts : List Nat} (p : Nat) (kt : TKeep t) (tk : Takes X W.w) (hst : X.stack = X.env :: X.outer) (hfr : X.env.frame = some X.env.locals) (hc : X.calm = true) (hN : X.N.Nodup) (hi : SI X W tg iter it al) (ok : BlkOk X.N X.env.scope scope own)
    (hg : ∀ (s : Shared) (H : Hp) (C : Addr) (cl : List (Str × Addr)) (fp : List Addr), SG (X.blk s H scope (compEnvC scope cl C X.env) fp) W.g p tg t ts) (ht : ∀ (s : Shared) (H : Hp) (C : Addr) (cl : List (Str × Addr)) (fp : List Addr), PTs (X.blk s H scope (compEnvC scope cl C X.env) fp) ifs (tT X.K (W0 W.g) c))
    (he : ∀ (s : Shared) (H : Hp) (C : Addr) (cl : List (Str × Addr)) (fp : List Addr) (xe : Value → Shared → Prop) (Wb : WX), TakC (blkX X s H scope (compEnvC scope cl C X.env) fp xe) Wb → SE (blkX X s H scope (compEnvC scope cl C X.env) fp xe) (WB W Wb) elt m l) (hal : allg W.g p al = true := by rfl) (hts : ∀ i ∈ ts, i ∈ own.map (·.2) := by decide) (hs : ∀ x, foldedSetIterable iter X.env x = pure x := by intro _; rfl) :
    SE X W (.ListComp elt [⟨tg, iter, ifs, 0⟩] scope pos) (eCompX al (own.map (·.2)) it t c m) (al ++ l) :=
  PE.imp (pe_lcE (te := fun w => tE X.K (WB W w) m l) tk hst hfr hc hN hi ok (fun s H C cl fp => (hg s H C cl fp).pg) ht he hs) fun σ H Q q => comp_simX (allg_of hal) (fun j hj => List.mem_append_right _ hj) (.inr fun j hj => List.mem_append_left _ hj) kt hts σ H Q q
variable {x : Str} {e : Expr} {es : List Expr} {m : Ax} {l : List Nat} {p pos : Pos} {k lev n : Nat} {F : List D → R S} {xr : Hp → D → Value → Option Addr → Hp → Prop}
/-- a call in such a block -/
theorem x_calB {fr : Bool} (C : CalG fr X.prog X.w X.K X.mg X.base xr lev x F n) (hr : Room k X.A) (hk : lev ≤ k) (tk : TakC X W.w) (hxr : ∀ H0 d c o H, xr H0 d c o H → W.xr H0 d c o H) (ha : SA X W (e :: es) m l)
    (hl : ∀ e ds, m e = .ok ds → ds.length = n) (hg : Gl X x := by rfl) (hdb : (x == ("__debug__" : Str)) = false := by decide) (he : starEach (e :: es) X.env = (false, eval e X.env) :: starEach es X.env := by rfl) (hpl : (backTo pos (starEach es X.env)).any (·.1) = false := by rfl) :
    SE X W (.Call (.Name x p) (e :: es) [] pos) (eCall F m) l := by
  obtain ⟨f, fd, ps, G, hm, kp, hb⟩ := C
  refine PE.imp (pe_callS G (hr.mono hk) hg hm kp hb tk ha hdb he hpl) fun σ H Q ⟨B, Z, rt, en, r, q⟩ => ?_
  unfold eCall at q
  refine tA_go r (fun d hd => by rw [hd] at q; exact q) (fun hd => by rw [hd] at q; exact q) fun ds xs H1 hs sm r1 rs => ?_
  rw [hs, R.bind_ok] at q
  refine ⟨NZ W.g Z en rt l H, ds, by rw [rs.length]; exact hl en ds hs, rs, ?_⟩
  cases hF : F ds with
  | bad => rw [hF] at q; exact q.elim
  | ex d =>
    rw [hF] at q
    exact fun c o H' sm' h => q c o H' (sm.trans sm') ((h.imp hxr).mo sm)
  | ok s =>
    rw [hF] at q
    refine fun v H' sm' rv => q v H' (sm.trans sm') ((rv.back sm).mono fun a n => ?_)
    rcases n with ⟨_, n⟩ | n
    · exact n
    · exact .inr (.inl (sm.free n))
end
end Tg

/-! Tg, part 16: the plain side: how a pure run is stepped through by simp, loops by invariants. -/
namespace Tg
open PySem L2

/-- r comes to a value with P, or to an exception with E -/
def W {α : Type} (r : R α) (P : α → Prop) (E : D → Prop) : Prop := match r with
  | .ok a => P a
  | .ex d => E d
  | .bad => False
def NE : D → Prop := fun _ => False
section
variable {α β : Type} {P P' : α → Prop} {E : D → Prop}
@[simp] theorem W_ok {a : α} : W (.ok a) P E ↔ P a := Iff.rfl
@[simp] theorem W_ex {d : D} : W (.ex d : R α) P E ↔ E d := Iff.rfl
@[simp] theorem W_bad : W (.bad : R α) P E ↔ False := Iff.rfl
theorem W_bind {r : R β} {f : β → R α} : W (r.bind f) P E ↔ W r (fun x => W (f x) P E) E := by cases r <;> rfl
theorem W_mono {r : R α} (h : W r P E) (f : ∀ a, P a → P' a) : W r P' E := by cases r <;> first | exact f _ h | exact h
theorem W_exq {r : R α} {d : D} (h : W r (fun _ => False) (· = d)) : r = .ex d := by
  cases r with
  | ok b => exact (h : False).elim
  | ex c => cases (show c = d from h); rfl
  | bad => exact (h : False).elim
theorem W_both {r : R α} {a : α} {d : D} {c : Prop} [Decidable c] (h : W r (fun x => x = a ∧ c) (fun x => x = d ∧ ¬ c)) : r = if c then .ok a else .ex d := by
  cases r with
  | ok b =>
    obtain ⟨h1, h2⟩ := (h : b = a ∧ c)
    rw [if_pos h2, h1]
  | ex x =>
    obtain ⟨h1, h2⟩ := (h : x = d ∧ ¬ c)
    rw [if_neg h2, h1]
  | bad => exact (h : False).elim
theorem W_eq {r : R α} {a : α} (h : W r (· = a) NE) : r = .ok a := by
  cases r with
  | ok b => cases (show b = a from h); rfl
  | ex d => exact h.elim
  | bad => exact h.elim
theorem W_ex' {r : R α} (h : W r P NE) : ∃ a, r = .ok a ∧ P a := by
  cases r with
  | ok b => exact ⟨b, rfl, h⟩
  | ex d => exact h.elim
  | bad => exact h.elim
/-- a call of what keeps a promise -/
theorem W_then {r : R β} {Q : β → Prop} {f : β → R α} (h : W r Q E) (g : ∀ x, Q x → W (f x) P E) : W (r.bind f) P E := W_bind.2 (W_mono h g)
@[simp] theorem W_ite {c : Prop} [Decidable c] {r : R α} : W (if c then r else .bad) P E ↔ c ∧ W r P E := by
  by_cases h : c
  · rw [if_pos h]; exact ⟨fun z => ⟨h, z⟩, fun z => z.2⟩
  · rw [if_neg h]; exact ⟨fun z => z.elim, fun z => h z.1⟩
end
def kc {α β γ : Type} (f : α → R β) (g : β → R γ) (x : α) : R γ := (f x).bind g
@[simp] theorem kc_eq {α β γ : Type} (f : α → R β) (g : β → R γ) (x : α) : kc f g x = (f x).bind g := rfl
@[simp] theorem bind_bind {α β γ : Type} (r : R α) (f : α → R β) (g : β → R γ) : (r.bind f).bind g = r.bind (kc f g) := by cases r <;> rfl
@[simp] theorem ite_bind {α β : Type} {c : Prop} [Decidable c] (r : R α) (f : α → R β) : (if c then r else .bad).bind f = if c then r.bind f else .bad := by split <;> rfl

/-! expressions -/
@[simp] theorem eVar_eq (i : Nat) (e : En) : eVar i e = match e[i]? with
  | some (some s) => s.rd
  | _ => .bad := rfl
@[simp] theorem eC_eq (d : D) (e : En) : eC d e = .ok (.val d) := rfl
def k1 (f : D → R S) (x : S) : R S := f x.d
@[simp] theorem k1_eq (f : D → R S) (x : S) : k1 f x = f x.d := rfl
@[simp] theorem eOp1_eq (f : D → R S) (a : Ex) (e : En) : eOp1 f a e = (a e).bind (k1 f) := rfl
def k2b (f : D → D → R S) (x y : S) : R S := f x.d y.d
@[simp] theorem k2b_eq (f : D → D → R S) (x y : S) : k2b f x y = f x.d y.d := rfl
def k2 (f : D → D → R S) (b : Ex) (e : En) (x : S) : R S := (b e).bind (k2b f x)
@[simp] theorem k2_eq (f : D → D → R S) (b : Ex) (e : En) (x : S) : k2 f b e x = (b e).bind (k2b f x) := rfl
@[simp] theorem eOp2_eq (f : D → D → R S) (a b : Ex) (e : En) : eOp2 f a b e = (a e).bind (k2 f b e) := rfl
@[simp] theorem aNil_eq (e : En) : aNil e = .ok [] := rfl
def ka2 (x : S) (xs : List D) : R (List D) := .ok (x.d :: xs)
@[simp] theorem ka2_eq (x : S) (xs : List D) : ka2 x xs = .ok (x.d :: xs) := rfl
def ka1 (r : Ax) (e : En) (x : S) : R (List D) := (r e).bind (ka2 x)
@[simp] theorem ka1_eq (r : Ax) (e : En) (x : S) : ka1 r e x = (r e).bind (ka2 x) := rfl
@[simp] theorem aCons_eq (a : Ex) (r : Ax) (e : En) : aCons a r e = (a e).bind (ka1 r e) := rfl
def ktup (ds : List D) : R S := .ok (.val (.tup ds))
@[simp] theorem ktup_eq (ds : List D) : ktup ds = .ok (.val (.tup ds)) := rfl
@[simp] theorem eTup_eq (a : Ax) (e : En) : eTup a e = (a e).bind ktup := rfl
def klst (ds : List D) : R S := .ok (.own ds)
@[simp] theorem klst_eq (ds : List D) : klst ds = .ok (.own ds) := rfl
@[simp] theorem eLst_eq (a : Ax) (e : En) : eLst a e = (a e).bind klst := rfl
@[simp] theorem eCall_eq (f : List D → R S) (a : Ax) (e : En) : eCall f a e = (a e).bind f := rfl
def kand (b : Ex) (e : En) (x : S) : R S := match x.d with
  | .bl true => b e
  | .bl false => .ok (.val (.bl false))
  | _ => .bad
@[simp] theorem kand_t (b : Ex) (e : En) : kand b e (.val (.bl true)) = b e := rfl
@[simp] theorem kand_f (b : Ex) (e : En) : kand b e (.val (.bl false)) = .ok (.val (.bl false)) := rfl
@[simp] theorem eAnd_eq (a b : Ex) (e : En) : eAnd a b e = (a e).bind (kand b e) := rfl
def kor (b : Ex) (e : En) (x : S) : R S := match x.d with
  | .bl true => .ok (.val (.bl true))
  | .bl false => b e
  | _ => .bad
@[simp] theorem kor_t (b : Ex) (e : En) : kor b e (.val (.bl true)) = .ok (.val (.bl true)) := rfl
@[simp] theorem kor_f (b : Ex) (e : En) : kor b e (.val (.bl false)) = b e := rfl
@[simp] theorem eOr_eq (a b : Ex) (e : En) : eOr a b e = (a e).bind (kor b e) := rfl
def kM (g : D → Bool) (f : D → D → R S) (b : Ex) (e : En) (x : S) : R S := if g x.d = true then (b e).bind (k2b f x) else .bad
@[simp] theorem kM_eq (g : D → Bool) (f : D → D → R S) (b : Ex) (e : En) (x : S) : kM g f b e x = if g x.d = true then (b e).bind (k2b f x) else .bad := rfl
@[simp] theorem eM_eq (g : D → Bool) (f : D → D → R S) (a b : Ex) (e : En) : eM g f a b e = (a e).bind (kM g f b e) := rfl
@[simp] theorem isS_str (s : List Nat) : (D.str s).isS = true := rfl
@[simp] theorem isL_lst (s : List D) : (D.lst s).isL = true := rfl
def kdic (kvs : List (List Nat × D)) (x : S) : R S := match x.d with
  | .str s => (match lookD kvs s with
    | some d => .ok (.val d)
    | none => .bad)
  | _ => .bad
@[simp] theorem kdic_eq (kvs : List (List Nat × D)) (s : List Nat) : kdic kvs (.val (.str s)) = match lookD kvs s with
    | some d => .ok (.val d)
    | none => .bad := rfl
@[simp] theorem eDic_eq (kvs : List (List Nat × D)) (k : Ex) (e : En) : eDic kvs k e = (k e).bind (kdic kvs) := rfl
/-! tests -/
def ktv (x : S) : R Bool := match x.d with
  | .bl b => .ok b
  | _ => .bad
@[simp] theorem ktv_eq (b : Bool) : ktv (.val (.bl b)) = .ok b := rfl
@[simp] theorem tVal_eq (a : Ex) (e : En) : tVal a e = (a e).bind ktv := rfl
def ktand (b : Tx) (e : En) (c : Bool) : R Bool := if c = true then b e else .ok false
@[simp] theorem ktand_t (b : Tx) (e : En) : ktand b e true = b e := rfl
@[simp] theorem ktand_f (b : Tx) (e : En) : ktand b e false = .ok false := rfl
@[simp] theorem tAnd_eq (a b : Tx) (e : En) : tAnd a b e = (a e).bind (ktand b e) := rfl
def ktor (b : Tx) (e : En) (c : Bool) : R Bool := if c = true then .ok true else b e
@[simp] theorem ktor_t (b : Tx) (e : En) : ktor b e true = .ok true := rfl
@[simp] theorem ktor_f (b : Tx) (e : En) : ktor b e false = b e := rfl
@[simp] theorem tOr_eq (a b : Tx) (e : En) : tOr a b e = (a e).bind (ktor b e) := rfl
def ktn (c : Bool) : R Bool := .ok (!c)
@[simp] theorem ktn_eq (c : Bool) : ktn c = .ok (!c) := rfl
@[simp] theorem tNot_eq (a : Tx) (e : En) : tNot a e = (a e).bind ktn := rfl
@[simp] theorem tTrue_eq (e : En) : tTrue e = .ok true := rfl
/-- and, or of tests that need no guard -/
theorem ktand_ok {b : Tx} {e : En} {c q : Bool} (h : b e = .ok q) : ktand b e c = .ok (c && q) := by cases c <;> simp [h]
theorem ktor_ok {b : Tx} {e : En} {c q : Bool} (h : b e = .ok q) : ktor b e c = .ok (c || q) := by cases c <;> simp [h]
/-! targets, walks -/
@[simp] theorem gName_eq (i : Nat) (d : D) (e : En) : gName i d e = .ok (e.set i (some (.val d))) := rfl
@[simp] theorem gNil_eq (e : En) : gNil [] e = .ok e := rfl
def kg (u : Tts) (r : List D) (e : En) : R En := u r e
@[simp] theorem kg_eq (u : Tts) (r : List D) (e : En) : kg u r e = u r e := rfl
@[simp] theorem gCons_eq (t : Tt) (u : Tts) (d : D) (r : List D) (e : En) : gCons t u (d :: r) e = (t d e).bind (kg u r) := rfl
@[simp] theorem gTup_eq (n : Nat) (u : Tts) (ds : List D) (e : En) : gTup n u (.tup ds) e = if ds.length = n then u ds e else .bad := rfl
def kcomp (al vs : List Nat) (t : Tt) (c : Tx) (m : Ex) (e : En) (ds : List D) : R S := match compL t c m (wipeE (freeze al e) vs) ds with
  | .ok ys => if ys.length ≤ 65536 then .ok (.own ys) else .bad
  | _ => .bad
@[simp] theorem eComp_eq (al vs : List Nat) (it : Ax) (t : Tt) (c : Tx) (m : Ex) (e : En) : eComp al vs it t c m e = (it e).bind (kcomp al vs t c m e) := rfl
def kit (s : S) : R (List D) := match s.d with
  | .lst ds => .ok ds
  | .tup ds => .ok ds
  | .str cs => .ok (cs.map fun c => D.str [c])
  | _ => .bad
@[simp] theorem kit_own (ds : List D) : kit (.own ds) = .ok ds := rfl
@[simp] theorem kit_lst (ds : List D) : kit (.val (.lst ds)) = .ok ds := rfl
@[simp] theorem kit_tup (ds : List D) : kit (.val (.tup ds)) = .ok ds := rfl
@[simp] theorem kit_str (cs : List Nat) : kit (.val (.str cs)) = .ok (cs.map fun c => D.str [c]) := rfl
@[simp] theorem aIter_eq (a : Ex) (e : En) : aIter a e = (a e).bind kit := rfl
def krg1 (y : S) : R (List D) := match y.d with
  | .int j => if -1000000 ≤ j ∧ j ≤ 1000000 then .ok (rangeL 0 j) else .bad
  | _ => .bad
@[simp] theorem krg1_eq (j : Int) : krg1 (.val (.int j)) = if -1000000 ≤ j ∧ j ≤ 1000000 then .ok (rangeL 0 j) else .bad := rfl
@[simp] theorem aRange1_eq (a : Ex) (e : En) : aRange1 a e = (a e).bind krg1 := rfl
def krg2b (x y : S) : R (List D) := match x.d, y.d with
  | .int i, .int j => if -1000000 ≤ i ∧ i ≤ 1000000 ∧ -1000000 ≤ j ∧ j ≤ 1000000 then .ok (rangeL i j) else .bad
  | _, _ => .bad
@[simp] theorem krg2b_eq (i j : Int) : krg2b (.val (.int i)) (.val (.int j)) = if -1000000 ≤ i ∧ i ≤ 1000000 ∧ -1000000 ≤ j ∧ j ≤ 1000000 then .ok (rangeL i j) else .bad := rfl
def krg2 (b : Ex) (e : En) (x : S) : R (List D) := (b e).bind (krg2b x)
@[simp] theorem krg2_eq (b : Ex) (e : En) (x : S) : krg2 b e x = (b e).bind (krg2b x) := rfl
@[simp] theorem aRange_eq (a b : Ex) (e : En) : aRange a b e = (a e).bind (krg2 b e) := rfl
def kzb (x y : S) : R (List D) := match x.d, y.d with
  | .lst ds, .lst es => .ok (zipD ds es)
  | .tup ds, .tup es => .ok (zipD ds es)
  | _, _ => .bad
@[simp] theorem kzb_ll (x y : S) {ds es : List D} (h : x.d = .lst ds) (h2 : y.d = .lst es) : kzb x y = .ok (zipD ds es) := by unfold kzb; rw [h, h2]
@[simp] theorem kzb_tt (ds es : List D) : kzb (.val (.tup ds)) (.val (.tup es)) = .ok (zipD ds es) := rfl
def kz (b : Ex) (e : En) (x : S) : R (List D) := (b e).bind (kzb x)
@[simp] theorem kz_eq (b : Ex) (e : En) (x : S) : kz b e x = (b e).bind (kzb x) := rfl
@[simp] theorem aZip_eq (a b : Ex) (e : En) : aZip a b e = (a e).bind (kz b e) := rfl
def ken (x : S) : R (List D) := match x.d with
  | .lst ds => .ok (enumD 0 ds)
  | _ => .bad
@[simp] theorem ken_own (ds : List D) : ken (.own ds) = .ok (enumD 0 ds) := rfl
@[simp] theorem ken_lst (ds : List D) : ken (.val (.lst ds)) = .ok (enumD 0 ds) := rfl
@[simp] theorem aEnum_eq (a : Ex) (e : En) : aEnum a e = (a e).bind ken := rfl
def ker1 (mk : List D → S) (y : S) : R S := match y.d with
  | .int j => if -1000000 ≤ j ∧ j ≤ 1000000 then .ok (mk (rangeL 0 j)) else .bad
  | _ => .bad
@[simp] theorem ker1_eq (mk : List D → S) (j : Int) : ker1 mk (.val (.int j)) = if -1000000 ≤ j ∧ j ≤ 1000000 then .ok (mk (rangeL 0 j)) else .bad := rfl
@[simp] theorem eRg1_eq (mk : List D → S) (a : Ex) (e : En) : eRg1 mk a e = (a e).bind (ker1 mk) := rfl
@[simp] theorem mkO_eq (ds : List D) : mkO ds = .own ds := rfl
@[simp] theorem mkT_eq (ds : List D) : mkT ds = .val (.tup ds) := rfl
/-! slices -/
@[simp] theorem pNone_eq (e : En) : pNone e = .ok none := rfl
def kps (s : S) : R (Option Int) := match s.d with
  | .int i => .ok (some i)
  | _ => .bad
@[simp] theorem kps_eq (i : Int) : kps (.val (.int i)) = .ok (some i) := rfl
@[simp] theorem pSome_eq (a : Ex) (e : En) : pSome a e = (a e).bind kps := rfl
def ksl3 (s : S) (i : Option Int) (j : Option Int) : R S := oSl i j s.d
@[simp] theorem ksl3_eq (s : S) (i j : Option Int) : ksl3 s i j = oSl i j s.d := rfl
def ksl2 (hi : Ox) (e : En) (s : S) (i : Option Int) : R S := (hi e).bind (ksl3 s i)
@[simp] theorem ksl2_eq (hi : Ox) (e : En) (s : S) (i : Option Int) : ksl2 hi e s i = (hi e).bind (ksl3 s i) := rfl
def ksl1 (lo hi : Ox) (e : En) (s : S) : R S := (lo e).bind (ksl2 hi e s)
@[simp] theorem ksl1_eq (lo hi : Ox) (e : En) (s : S) : ksl1 lo hi e s = (lo e).bind (ksl2 hi e s) := rfl
@[simp] theorem eSl_eq (a : Ex) (lo hi : Ox) (e : En) : eSl a lo hi e = (a e).bind (ksl1 lo hi e) := rfl
/-! isinstance -/
def kis (c : String) (s : S) : R S := match isT s.d with
  | some T => (match kitB T c with
    | some b => .ok (.val (.bl b))
    | none => .bad)
  | none => .bad
@[simp] theorem eIs_eq (c : String) (a : Ex) (e : En) : eIs c a e = (a e).bind (kis c) := rfl

@[simp] theorem kis_bool_non  : kis "bool" (.val .non) = .ok (.val (.bl false)) := rfl
@[simp] theorem kis_bool_bl (b : Bool) : kis "bool" (.val (.bl b)) = .ok (.val (.bl true)) := rfl
@[simp] theorem kis_bool_int (b : Int) : kis "bool" (.val (.int b)) = .ok (.val (.bl false)) := rfl
@[simp] theorem kis_bool_str (b : List Nat) : kis "bool" (.val (.str b)) = .ok (.val (.bl false)) := rfl
@[simp] theorem kis_bool_tup (b : List D) : kis "bool" (.val (.tup b)) = .ok (.val (.bl false)) := rfl
@[simp] theorem kis_bool_lst (b : List D) : kis "bool" (.val (.lst b)) = .ok (.val (.bl false)) := rfl
@[simp] theorem kis_int_non  : kis "int" (.val .non) = .ok (.val (.bl false)) := rfl
@[simp] theorem kis_int_bl (b : Bool) : kis "int" (.val (.bl b)) = .ok (.val (.bl true)) := rfl
@[simp] theorem kis_int_int (b : Int) : kis "int" (.val (.int b)) = .ok (.val (.bl true)) := rfl
@[simp] theorem kis_int_str (b : List Nat) : kis "int" (.val (.str b)) = .ok (.val (.bl false)) := rfl
@[simp] theorem kis_int_tup (b : List D) : kis "int" (.val (.tup b)) = .ok (.val (.bl false)) := rfl
@[simp] theorem kis_int_lst (b : List D) : kis "int" (.val (.lst b)) = .ok (.val (.bl false)) := rfl
@[simp] theorem kis_str_non  : kis "str" (.val .non) = .ok (.val (.bl false)) := rfl
@[simp] theorem kis_str_bl (b : Bool) : kis "str" (.val (.bl b)) = .ok (.val (.bl false)) := rfl
@[simp] theorem kis_str_int (b : Int) : kis "str" (.val (.int b)) = .ok (.val (.bl false)) := rfl
@[simp] theorem kis_str_str (b : List Nat) : kis "str" (.val (.str b)) = .ok (.val (.bl true)) := rfl
@[simp] theorem kis_str_tup (b : List D) : kis "str" (.val (.tup b)) = .ok (.val (.bl false)) := rfl
@[simp] theorem kis_str_lst (b : List D) : kis "str" (.val (.lst b)) = .ok (.val (.bl false)) := rfl
@[simp] theorem kis_tuple_non  : kis "tuple" (.val .non) = .ok (.val (.bl false)) := rfl
@[simp] theorem kis_tuple_bl (b : Bool) : kis "tuple" (.val (.bl b)) = .ok (.val (.bl false)) := rfl
@[simp] theorem kis_tuple_int (b : Int) : kis "tuple" (.val (.int b)) = .ok (.val (.bl false)) := rfl
@[simp] theorem kis_tuple_str (b : List Nat) : kis "tuple" (.val (.str b)) = .ok (.val (.bl false)) := rfl
@[simp] theorem kis_tuple_tup (b : List D) : kis "tuple" (.val (.tup b)) = .ok (.val (.bl true)) := rfl
@[simp] theorem kis_tuple_lst (b : List D) : kis "tuple" (.val (.lst b)) = .ok (.val (.bl false)) := rfl
@[simp] theorem kis_list_non  : kis "list" (.val .non) = .ok (.val (.bl false)) := rfl
@[simp] theorem kis_list_bl (b : Bool) : kis "list" (.val (.bl b)) = .ok (.val (.bl false)) := rfl
@[simp] theorem kis_list_int (b : Int) : kis "list" (.val (.int b)) = .ok (.val (.bl false)) := rfl
@[simp] theorem kis_list_str (b : List Nat) : kis "list" (.val (.str b)) = .ok (.val (.bl false)) := rfl
@[simp] theorem kis_list_tup (b : List D) : kis "list" (.val (.tup b)) = .ok (.val (.bl false)) := rfl
@[simp] theorem kis_list_lst (b : List D) : kis "list" (.val (.lst b)) = .ok (.val (.bl true)) := rfl

def kisX (tab : List (String × Bool)) (s : S) : R S := match s.d with
  | .exc nm _ => (match tab.lookup nm with
    | some b => .ok (.val (.bl b))
    | none => .bad)
  | _ => .bad
@[simp] theorem kisX_eq (tab : List (String × Bool)) (nm : String) (fs : List D) : kisX tab (.val (.exc nm fs)) = match tab.lookup nm with
    | some b => .ok (.val (.bl b))
    | none => .bad := rfl
@[simp] theorem eIsX_eq (tab : List (String × Bool)) (m : Ex) (e : En) : eIsX tab m e = (m e).bind (kisX tab) := rfl
@[simp] theorem sRaise_eq (nm : String) (e : En) : sRaise nm e = .ex (.exc nm []) := rfl
def kTry (i j : Nat) (cs : List String) (e : En) (r : R Fl) : R Fl := match r with
  | .ok f => .ok f
  | .ex (.exc nm fs) => if nm ∈ cs ∧ i < e.length then .ok (.nx (((e.set i none).set j (some (.val (.exc nm fs)))).set i none)) else .bad
  | .ex _ => .bad
  | .bad => .bad
@[simp] theorem kTry_ok (i j : Nat) (cs : List String) (e : En) (f : Fl) : kTry i j cs e (.ok f) = .ok f := rfl
@[simp] theorem kTry_ex (i j : Nat) (cs : List String) (e : En) (nm : String) (fs : List D) : kTry i j cs e (.ex (.exc nm fs)) = if nm ∈ cs ∧ i < e.length then .ok (.nx (((e.set i none).set j (some (.val (.exc nm fs)))).set i none)) else .bad := rfl
@[simp] theorem sTry_eq (i j : Nat) (cs : List String) (M : Sx) (e : En) : sTry i j cs M e = kTry i j cs e (M e) := by
  unfold sTry kTry
  rfl
@[simp] theorem flat_exc (c : String) (fs : List D) : (D.exc c fs).flat = D.flatL fs := rfl
@[simp] theorem isNon_exc (c : String) (fs : List D) : isNon (.exc c fs) = false := rfl

/-! statements -/
@[simp] theorem sNop_eq (e : En) : sNop e = .ok (.nx e) := rfl
def cont (b : Sx) (f : Fl) : R Fl := match f with
  | .nx e' => b e'
  | .rt s => .ok (.rt s)
@[simp] theorem cont_nx (b : Sx) (e : En) : cont b (.nx e) = b e := rfl
@[simp] theorem cont_rt (b : Sx) (s : S) : cont b (.rt s) = .ok (.rt s) := rfl
@[simp] theorem sSeq_eq (a b : Sx) (e : En) : sSeq a b e = (a e).bind (cont b) := rfl
def kset (al : List Nat) (i : Nat) (e : En) (s : S) : R Fl := .ok (.nx ((keep al s.flat e).set i (some s)))
@[simp] theorem kset_eq (al : List Nat) (i : Nat) (e : En) (s : S) : kset al i e s = .ok (.nx ((keep al s.flat e).set i (some s))) := rfl
@[simp] theorem sSet_eq (al : List Nat) (i : Nat) (a : Ex) (e : En) : sSet al i a e = (a e).bind (kset al i e) := rfl
@[simp] theorem sMove_eq (i j : Nat) (e : En) : sMove i j e = match e[j]? with
  | some (some (.own ds)) => .ok (.nx ((e.set j none).set i (some (.own ds))))
  | some (some (.val d)) => .ok (.nx (e.set i (some (.val d))))
  | _ => .bad := rfl
def knx (e : En) : R Fl := .ok (.nx e)
@[simp] theorem knx_eq (e : En) : knx e = .ok (.nx e) := rfl
def kasg (al : List Nat) (t : Tt) (e : En) (s : S) : R Fl := (t s.d (keep al s.flat e)).bind knx
@[simp] theorem kasg_eq (al : List Nat) (t : Tt) (e : En) (s : S) : kasg al t e s = (t s.d (keep al s.flat e)).bind knx := rfl
@[simp] theorem sAsg_eq (al : List Nat) (t : Tt) (a : Ex) (e : En) : sAsg al t a e = (a e).bind (kasg al t e) := rfl
def kdrop (e : En) (s : S) : R Fl := .ok (.nx e)
@[simp] theorem kdrop_eq (e : En) (s : S) : kdrop e s = .ok (.nx e) := rfl
@[simp] theorem sDrop_eq (a : Ex) (e : En) : sDrop a e = (a e).bind (kdrop e) := rfl
def kret (s : S) : R Fl := .ok (.rt s)
@[simp] theorem kret_eq (s : S) : kret s = .ok (.rt s) := rfl
@[simp] theorem sRet_eq (a : Ex) (e : En) : sRet a e = (a e).bind kret := rfl
@[simp] theorem sRetN_eq (e : En) : sRetN e = .ok (.rt (.val .non)) := rfl
@[simp] theorem sRetV_eq (i : Nat) (e : En) : sRetV i e = match e[i]? with
  | some (some s) => s.rt
  | _ => .bad := rfl
def kif (a b : Sx) (e : En) (k : Bool) : R Fl := if k = true then a e else b e
@[simp] theorem kif_t (a b : Sx) (e : En) : kif a b e true = a e := rfl
@[simp] theorem kif_f (a b : Sx) (e : En) : kif a b e false = b e := rfl
@[simp] theorem sIf_eq (c : Tx) (a b : Sx) (e : En) : sIf c a b e = (c e).bind (kif a b e) := rfl
def kfor (t : Tt) (b : Sx) (e : En) (ds : List D) : R Fl := forL t b ds e
@[simp] theorem sFor_eq (al : List Nat) (it : Ax) (t : Tt) (b : Sx) (e : En) : sFor al it t b e = (it e).bind (kfor t b (freeze al e)) := rfl
@[simp] theorem sWhile_eq (n : Nat) (c : Tx) (b : Sx) (e : En) : sWhile n c b e = whileL c b n e := rfl
def kitem (al : List Nat) (i : Nat) (k : Ex) (e : En) (v : S) : R Fl := match k e, (keep al v.flat e)[i]? with
  | .ok (.val (.int j)), some (some (.own ds)) => (match L2.ixN ds.length j with
    | some n => .ok (.nx ((keep al v.flat e).set i (some (.own (ds.set n v.d)))))
    | none => .bad)
  | _, _ => .bad
theorem kitem_eq (al : List Nat) (i : Nat) (k : Ex) (e : En) (v : S) : kitem al i k e v = match k e, (keep al v.flat e)[i]? with
  | .ok (.val (.int j)), some (some (.own ds)) => (match L2.ixN ds.length j with
    | some n => .ok (.nx ((keep al v.flat e).set i (some (.own (ds.set n v.d)))))
    | none => .bad)
  | _, _ => .bad := rfl
@[simp] theorem sItem_eq (al : List Nat) (i : Nat) (a k : Ex) (e : En) : sItem al i a k e = (a e).bind (kitem al i k e) := rfl
@[simp] theorem sBad_eq (e : En) : sBad e = .bad := rfl
def kown2 (i : Nat) (e : En) (ds' : List D) : R Fl := .ok (.nx (e.set i (some (.own ds'))))
@[simp] theorem kown2_eq (i : Nat) (e : En) (ds' : List D) : kown2 i e ds' = .ok (.nx (e.set i (some (.own ds')))) := rfl
def kown (al : List Nat) (i : Nat) (f : List D → D → R (List D)) (e : En) (x : S) : R Fl := match (keep al x.flat e)[i]? with
    | some (some (.own ds)) => (f ds x.d).bind (kown2 i (keep al x.flat e))
    | _ => .bad
@[simp] theorem kown_eq (al : List Nat) (i : Nat) (f : List D → D → R (List D)) (e : En) (x : S) : kown al i f e x = match (keep al x.flat e)[i]? with
    | some (some (.own ds)) => (f ds x.d).bind (kown2 i (keep al x.flat e))
    | _ => .bad := rfl
@[simp] theorem sOwn_eq (al : List Nat) (i : Nat) (f : List D → D → R (List D)) (a : Ex) (e : En) : sOwn al i f a e = match e[i]? with
  | some (some (.own _)) => (a e).bind (kown al i f e)
  | _ => .bad := rfl
@[simp] theorem sClear_eq (i : Nat) (e : En) : sClear i e = match e[i]? with
  | some (some (.own _)) => .ok (.nx (e.set i (some (.own []))))
  | _ => .bad := rfl
def kins2 (al : List Nat) (i : Nat) (n : Int) (e : En) (v : S) : R Fl := match (keep al v.flat e)[i]? with
    | some (some (.own ds)) => if 0 ≤ n ∧ n ≤ 65536 ∧ ds.length ≤ 65536 then .ok (.nx ((keep al v.flat e).set i (some (.own (ds.take n.toNat ++ [v.d] ++ ds.drop n.toNat))))) else .bad
    | _ => .bad
@[simp] theorem kins2_eq (al : List Nat) (i : Nat) (n : Int) (e : En) (v : S) : kins2 al i n e v = match (keep al v.flat e)[i]? with
    | some (some (.own ds)) => if 0 ≤ n ∧ n ≤ 65536 ∧ ds.length ≤ 65536 then .ok (.nx ((keep al v.flat e).set i (some (.own (ds.take n.toNat ++ [v.d] ++ ds.drop n.toNat))))) else .bad
    | _ => .bad := rfl
@[simp] theorem sInsert_eq (al : List Nat) (i : Nat) (k a : Ex) (e : En) : sInsert al i k a e = match k e, e[i]? with
  | .ok (.val (.int n)), some (some (.own _)) => (a e).bind (kins2 al i n e)
  | _, _ => .bad := rfl
@[simp] theorem freeze1_eq (i : Nat) (e : En) : freeze1 i e = match e[i]? with
  | some (some (.own ds)) => e.set i (some (.val (.lst ds)))
  | _ => e := rfl

/-! flat data -/
@[simp] theorem flat_int (i : Int) : (D.int i).flat = true := rfl
@[simp] theorem flat_bl (i : Bool) : (D.bl i).flat = true := rfl
@[simp] theorem flat_str (i : List Nat) : (D.str i).flat = true := rfl
@[simp] theorem flat_non : D.non.flat = true := rfl
@[simp] theorem flat_tup (ds : List D) : (D.tup ds).flat = D.flatL ds := rfl
@[simp] theorem flat_lst (ds : List D) : (D.lst ds).flat = false := rfl
@[simp] theorem flat_scr (ds : List Int) : (D.scr ds).flat = true := rfl
@[simp] theorem flatL_nil : D.flatL [] = true := rfl
@[simp] theorem flatL_cons (d : D) (r : List D) : D.flatL (d :: r) = (d.flat && D.flatL r) := rfl
@[simp] theorem flatL_app : ∀ a b : List D, D.flatL (a ++ b) = (D.flatL a && D.flatL b)
  | [], b => by simp
  | d :: r, b => by simp [flatL_app r b, Bool.and_assoc]
theorem flatL_map {α : Type} {f : α → D} (h : ∀ x, (f x).flat = true) : ∀ xs : List α, D.flatL (xs.map f) = true
  | [] => rfl
  | x :: r => by simp [h x, flatL_map h r]
theorem flatL_map' {α : Type} {f : α → D} : ∀ xs : List α, (∀ x ∈ xs, (f x).flat = true) → D.flatL (xs.map f) = true
  | [], _ => rfl
  | x :: r, h => by simp [h x List.mem_cons_self, flatL_map' r fun y hy => h y (List.mem_cons_of_mem _ hy)]
theorem flatL_all : ∀ xs : List D, (∀ x ∈ xs, x.flat = true) → D.flatL xs = true
  | [], _ => rfl
  | x :: r, h => by simp [h x List.mem_cons_self, flatL_all r fun y hy => h y (List.mem_cons_of_mem _ hy)]
@[simp] theorem flatL_int (xs : List Int) : D.flatL (xs.map .int) = true := flatL_map (fun _ => rfl) xs
@[simp] theorem flatL_bl (xs : List Bool) : D.flatL (xs.map .bl) = true := flatL_map (fun _ => rfl) xs
@[simp] theorem flatL_str (xs : List (List Nat)) : D.flatL (xs.map .str) = true := flatL_map (fun _ => rfl) xs

theorem set_map_int (xs : List Int) (i : Nat) (v : Int) : (xs.map D.int).set i (.int v) = (xs.set i v).map D.int := List.map_set.symm
theorem set_map_bl (xs : List Bool) (i : Nat) (v : Bool) : (xs.map D.bl).set i (.bl v) = (xs.set i v).map D.bl := List.map_set.symm
theorem set_map_str (xs : List (List Nat)) (i : Nat) (v : List Nat) : (xs.map D.str).set i (.str v) = (xs.set i v).map D.str := List.map_set.symm

/-! operators -/
@[simp] theorem oAdd_i (i j : Int) : oAdd (.int i) (.int j) = .ok (.val (.int (i + j))) := rfl
@[simp] theorem oAdd_s (a b : List Nat) : oAdd (.str a) (.str b) = if a.length + b.length ≤ 65536 then .ok (.val (.str (a ++ b))) else .bad := rfl
@[simp] theorem oAdd_t (a b : List D) : oAdd (.tup a) (.tup b) = if a.length + b.length ≤ 65536 then .ok (.val (.tup (a ++ b))) else .bad := rfl
@[simp] theorem oAdd_l (a b : List D) : oAdd (.lst a) (.lst b) = if a.length + b.length ≤ 65536 then .ok (.own (a ++ b)) else .bad := rfl
@[simp] theorem oSub_i (i j : Int) : oSub (.int i) (.int j) = .ok (.val (.int (i - j))) := rfl
@[simp] theorem oMul_i (i j : Int) : oMul (.int i) (.int j) = if i.natAbs < 2 ^ 200 ∧ j.natAbs < 2 ^ 200 then .ok (.val (.int (i * j))) else .bad := rfl
@[simp] theorem oMul_l (a : List D) (k : Int) : oMul (.lst a) (.int k) = if k ≤ 1000 ∧ -1000 ≤ k ∧ a.length ≤ 1000 then .ok (.own (List.replicate k.toNat a).flatten) else .bad := rfl
@[simp] theorem oMul_t (a : List D) (k : Int) : oMul (.tup a) (.int k) = if a ≠ [] ∧ (k = 1 ∨ k = 0) then .ok (.val (.tup (if k = 1 then a else []))) else .bad := rfl
@[simp] theorem oMul_s (a : List Nat) (k : Int) : oMul (.str a) (.int k) = if k ≤ 1000 ∧ -1000 ≤ k ∧ a.length ≤ 1000 then .ok (.val (.str (List.replicate k.toNat a).flatten)) else .bad := rfl
@[simp] theorem oFdiv_i (i j : Int) : oFdiv (.int i) (.int j) = if 0 < j ∧ j.natAbs < 2 ^ 200 then .ok (.val (.int (i / j))) else .bad := rfl
@[simp] theorem oMod_i (i j : Int) : oMod (.int i) (.int j) = if 0 < j then .ok (.val (.int (i % j))) else .bad := rfl
@[simp] theorem oPow_i (i j : Int) : oPow (.int i) (.int j) = if 0 ≤ j ∧ j ≤ 1000 ∧ i.natAbs < 2 ^ 64 then .ok (.val (.int (i ^ j.toNat))) else .bad := rfl
@[simp] theorem oShl_i (i j : Int) : oShl (.int i) (.int j) = if 0 ≤ j ∧ j ≤ 1000 ∧ i.natAbs < 2 ^ 64 then .ok (.val (.int (i * 2 ^ j.toNat))) else .bad := rfl
@[simp] theorem oShr_i (i j : Int) : oShr (.int i) (.int j) = if 0 ≤ j then .ok (.val (.int (i / 2 ^ j.toNat))) else .bad := rfl
@[simp] theorem oAnd_i (i j : Int) : oAnd (.int i) (.int j) = .ok (.val (.int (Builtin.bitAnd i j))) := rfl
@[simp] theorem oOr_i (i j : Int) : oOr (.int i) (.int j) = .ok (.val (.int (Builtin.bitOr i j))) := rfl
@[simp] theorem oNeg_i (i : Int) : oNeg (.int i) = .ok (.val (.int (-i))) := rfl
@[simp] theorem oNot_b (b : Bool) : oNot (.bl b) = .ok (.val (.bl (!b))) := rfl
@[simp] theorem oLt_i (i j : Int) : oLt (.int i) (.int j) = .ok (.val (.bl (decide (i < j)))) := rfl
@[simp] theorem oLt_s (i j : List Nat) : oLt (.str i) (.str j) = .ok (.val (.bl (decide (i < j)))) := rfl
@[simp] theorem oLt_t (i j : List Int) : oLt (.tup (i.map .int)) (.tup (j.map .int)) = .ok (.val (.bl (HT.lexLt i j))) := by simp [oLt]
@[simp] theorem oGt_i (i j : Int) : oGt (.int i) (.int j) = .ok (.val (.bl (decide (j < i)))) := rfl
@[simp] theorem oGt_s (i j : List Nat) : oGt (.str i) (.str j) = .ok (.val (.bl (decide (j < i)))) := rfl
@[simp] theorem oLe_i (i j : Int) : oLe (.int i) (.int j) = .ok (.val (.bl (decide (i ≤ j)))) := rfl
@[simp] theorem oGe_i (i j : Int) : oGe (.int i) (.int j) = .ok (.val (.bl (decide (j ≤ i)))) := rfl
@[simp] theorem oIsN_eq (d : D) : oIsN d = .ok (.val (.bl (isNon d))) := rfl
@[simp] theorem oNotN_eq (d : D) : oNotN d = .ok (.val (.bl (!isNon d))) := rfl
@[simp] theorem isNon_non : isNon .non = true := rfl
@[simp] theorem isNon_bl (b : Bool) : isNon (.bl b) = false := rfl
@[simp] theorem isNon_int (b : Int) : isNon (.int b) = false := rfl
@[simp] theorem isNon_str (b : List Nat) : isNon (.str b) = false := rfl
@[simp] theorem isNon_tup (b : List D) : isNon (.tup b) = false := rfl
@[simp] theorem isNon_lst (b : List D) : isNon (.lst b) = false := rfl
/-- == of ints, of texts -/
theorem eqv_int (i j : Int) : PyData.eqv (D.int i).py (D.int j).py = decide (i = j) := by
  show PyData.eqv (.int i) (.int j) = _
  unfold PyData.eqv
  rw [Bool.eq_iff_iff]
  simp
@[simp] theorem oEq_i (i j : Int) : oEq (.int i) (.int j) = .ok (.val (.bl (decide (i = j)))) := by
  show R.ok (S.val (D.bl (PyData.eqv (D.int i).py (D.int j).py))) = _
  rw [eqv_int]
@[simp] theorem oNe_i (i j : Int) : oNe (.int i) (.int j) = .ok (.val (.bl (decide (i ≠ j)))) := by
  show R.ok (S.val (D.bl (!PyData.eqv (D.int i).py (D.int j).py))) = _
  rw [eqv_int, decide_not]
theorem eqv_str (a b : List Nat) : PyData.eqv (D.str a).py (D.str b).py = decide (a = b) := by
  show PyData.eqv (.str ⟨a.toArray⟩) (.str ⟨b.toArray⟩) = _
  unfold PyData.eqv
  rw [Bool.eq_iff_iff]
  simp
theorem eqv_non : PyData.eqv D.non.py D.non.py = true := rfl
theorem eqv_bl (i j : Bool) : PyData.eqv (D.bl i).py (D.bl j).py = (i == j) := by cases i <;> cases j <;> rfl
@[simp] theorem oEq_b (i j : Bool) : oEq (.bl i) (.bl j) = .ok (.val (.bl (i == j))) := by
  show R.ok (S.val (D.bl (PyData.eqv (D.bl i).py (D.bl j).py))) = _
  rw [eqv_bl]
@[simp] theorem oNe_b (i j : Bool) : oNe (.bl i) (.bl j) = .ok (.val (.bl (i != j))) := by
  show R.ok (S.val (D.bl (!PyData.eqv (D.bl i).py (D.bl j).py))) = _
  rw [eqv_bl]
  rfl
/-- an item -/
def ofO (o : Option D) : R S := match o with
  | some d => .ok (.val d)
  | none => .bad
@[simp] theorem ofO_some (d : D) : ofO (some d) = .ok (.val d) := rfl
@[simp] theorem oItem_l (ds : List D) (i : Int) : oItem (.lst ds) (.int i) = ofO (atI ds i) := by show (match atI ds i with | some d => _ | none => _) = _; cases atI ds i <;> rfl
@[simp] theorem oItem_t (ds : List D) (i : Int) : oItem (.tup ds) (.int i) = ofO (atI ds i) := by show (match atI ds i with | some d => _ | none => _) = _; cases atI ds i <;> rfl
@[simp] theorem oItem_c (ns : List Int) (i : Int) : oItem (.scr ns) (.int i) = ofO ((atI ns i).map .int) := by show (match atI ns i with | some d => _ | none => _) = _; cases atI ns i <;> rfl
@[simp] theorem oItem_s (cs : List Nat) (i : Int) : oItem (.str cs) (.int i) = if cs.length ≤ 65536 then ofO ((atI cs i).map fun c => .str [c]) else .bad := by
  show (if _ then (match atI cs i with | some d => _ | none => _) else _) = _
  cases atI cs i <;> rfl
@[simp] theorem oLen_l (ds : List D) : oLen (.lst ds) = .ok (.val (.int ds.length)) := rfl
@[simp] theorem oLen_t (ds : List D) : oLen (.tup ds) = .ok (.val (.int ds.length)) := rfl
@[simp] theorem oLen_c (ds : List Int) : oLen (.scr ds) = .ok (.val (.int ds.length)) := rfl
@[simp] theorem oLen_s (ds : List Nat) : oLen (.str ds) = if ds.length ≤ 65536 then .ok (.val (.int ds.length)) else .bad := rfl
@[simp] theorem oList_l (ds : List D) : oList (.lst ds) = .ok (.own ds) := rfl
@[simp] theorem oList_t (ds : List D) : oList (.tup ds) = .ok (.own ds) := rfl
@[simp] theorem oTuple_l (ds : List D) : oTuple (.lst ds) = .ok (.val (.tup ds)) := rfl
@[simp] theorem oTuple_t (ds : List D) : oTuple (.tup ds) = .ok (.val (.tup ds)) := rfl
@[simp] theorem oInt_i (i : Int) : oInt (.int i) = .ok (.val (.int i)) := rfl
@[simp] theorem oInt_b (b : Bool) : oInt (.bl b) = .ok (.val (.int (if b then 1 else 0))) := rfl
@[simp] theorem oMax2_i (i j : Int) : oMax2 (.int i) (.int j) = .ok (.val (.int (if j > i then j else i))) := rfl
@[simp] theorem oRev_l (ds : List D) : oRev (.lst ds) = .ok (.own ds.reverse) := rfl
@[simp] theorem oSl_l (lo hi : Option Int) (ds : List D) : oSl lo hi (.lst ds) = .ok (.own (cutL ds lo hi)) := rfl
@[simp] theorem oSl_t (lo hi : Option Int) (ds : List D) : oSl lo hi (.tup ds) = .ok (.val (.tup (cutL ds lo hi))) := rfl
@[simp] theorem oSl_c (lo hi : Option Int) (ds : List Int) : oSl lo hi (.scr ds) = .ok (.own ((cutL ds lo hi).map .int)) := rfl
@[simp] theorem oSl_s (lo hi : Option Int) (ds : List Nat) : oSl lo hi (.str ds) = if ds.length ≤ 65536 then .ok (.val (.str (cutL ds lo hi))) else .bad := rfl
@[simp] theorem oMin_t2 (x y : Int) : oMin (.tup [.int x, .int y]) = .ok (.val (.int (minI x [y]))) := rfl
@[simp] theorem oMax_t2 (x y : Int) : oMax (.tup [.int x, .int y]) = .ok (.val (.int (maxI x [y]))) := rfl
@[simp] theorem oMin_i (x : Int) (r : List Int) : oMin (.lst (.int x :: r.map .int)) = .ok (.val (.int (minI x r))) := by
  show (match D.ints (.int x :: r.map .int) with | some (x :: r) => _ | _ => _) = _
  rw [show (D.int x :: r.map D.int) = (x :: r).map D.int from rfl, ints_map]
@[simp] theorem oSum_i (r : List Int) : oSum (.lst (r.map .int)) = .ok (.val (.int r.sum)) := by
  show (match D.ints (r.map .int) with | some ns => _ | _ => _) = _
  rw [ints_map]
@[simp] theorem oAny_b (r : List Bool) : oAny (.lst (r.map .bl)) = .ok (.val (.bl (r.any id))) := by
  show (match D.bls (r.map .bl) with | some ns => _ | _ => _) = _
  rw [bls_map]
@[simp] theorem oAll_b (r : List Bool) : oAll (.lst (r.map .bl)) = .ok (.val (.bl (r.all id))) := by
  show (match D.bls (r.map .bl) with | some ns => _ | _ => _) = _
  rw [bls_map]
@[simp] theorem oSorted_l (r : List Int) : oSorted (.lst (r.map .int)) = if r.length < 64 then .ok (.own ((sortI r).map .int)) else .bad := by
  show (match D.ints (r.map .int) with | some ns => _ | _ => _) = _
  rw [ints_map]
@[simp] theorem oSorted_t (r : List Int) : oSorted (.tup (r.map .int)) = if r.length < 64 then .ok (.own ((sortI r).map .int)) else .bad := by
  show (match D.ints (r.map .int) with | some ns => _ | _ => _) = _
  rw [ints_map]
@[simp] theorem fAppend_eq (ds : List D) (d : D) : fAppend ds d = if ds.length ≤ 65536 then .ok (ds ++ [d]) else .bad := rfl
@[simp] theorem fExtend_eq (ds es : List D) : fExtend ds (.lst es) = if ds.length + es.length ≤ 65536 then .ok (ds ++ es) else .bad := rfl

@[simp] theorem oJoin_eq (sep : List Nat) (xs : List (List Nat)) : oJoin (.str sep) (.lst (xs.map .str)) = if xs.length ≤ 1000 ∧ (∀ x ∈ xs, x.length ≤ 1000) ∧ sep.length ≤ 1000 then .ok (.val (.str (joinL sep xs))) else .bad := by
  show (match D.strs (xs.map .str) with | some xs => _ | none => _) = _
  rw [strs_map]
@[simp] theorem oFind_eq (a : List Nat) (c : Nat) : oFind (.str a) (.str [c]) = if a.length ≤ 65536 then .ok (.val (.int (findN c 0 a))) else .bad := rfl
theorem joinL_nil : ∀ xs : List (List Nat), joinL [] xs = xs.flatten
  | [] => rfl
  | [x] => by simp [joinL]
  | x :: y :: r => by
    show x ++ [] ++ joinL [] (y :: r) = _
    rw [joinL_nil (y :: r)]
    simp
@[simp] theorem oNotIn_c (c : Nat) (b : List Nat) : oNotIn (.str [c]) (.str b) = .ok (.val (.bl (!decide (c ∈ b)))) := rfl
@[simp] theorem oIn_c (c : Nat) (b : List Nat) : oIn (.str [c]) (.str b) = .ok (.val (.bl (decide (c ∈ b)))) := rfl
/-! slices -/
theorem cut_to {α : Type} {xs : List α} {a : Int} (h0 : 0 ≤ a) : cutL xs none (some a) = xs.take a.toNat := by
  unfold cutL HT.sIx
  simp [show ¬ a < 0 by omega]
theorem cut_from {α : Type} {xs : List α} {a : Int} (h0 : 0 ≤ a) : cutL xs (some a) none = xs.drop a.toNat := by
  unfold cutL HT.sIx
  simp [show ¬ a < 0 by omega]
  by_cases h : a.toNat ≤ xs.length
  · rw [Nat.min_eq_left h, List.take_of_length_le (by rw [List.length_drop]; omega)]
  · rw [Nat.min_eq_right (by omega), List.drop_of_length_le (Nat.le_refl _), List.drop_of_length_le (by omega)]
    simp
/-! places -/
theorem ixN_of {n : Nat} {i : Int} (h0 : 0 ≤ i) (h1 : i < n) : ixN n i = some i.toNat := by unfold ixN; rw [if_pos h0, if_pos h1]
theorem atI_of {α : Type} {xs : List α} {i : Int} (h0 : 0 ≤ i) (h1 : i < xs.length) : atI xs i = xs[i.toNat]? := by unfold atI; rw [ixN_of h0 h1]; rfl
@[simp] theorem atI_nat' {α : Type} (xs : List α) (k : Nat) : atI xs (k : Int) = xs[k]? := by
  by_cases h : k < xs.length
  · rw [atI_of (by omega) (by omega)]; rfl
  · unfold atI ixN
    rw [if_pos (by omega), if_neg (by omega), List.getElem?_eq_none (by omega)]
    rfl
@[simp] theorem atI_0 {α : Type} (xs : List α) : atI xs 0 = xs[0]? := atI_nat' xs 0
@[simp] theorem atI_1 {α : Type} (xs : List α) : atI xs 1 = xs[1]? := atI_nat' xs 1
@[simp] theorem atI_lit {α : Type} (xs : List α) (k : Nat) : atI xs (no_index (OfNat.ofNat k : Int)) = xs[(OfNat.ofNat k : Nat)]? := atI_nat' xs k
@[simp] theorem atI_map {α β : Type} (f : α → β) (xs : List α) (i : Int) : atI (xs.map f) i = (atI xs i).map f := by
  unfold atI
  rw [List.length_map]
  cases ixN xs.length i with
  | none => rfl
  | some k => exact List.getElem?_map
theorem atI_some {α : Type} {xs : List α} {i : Int} (h0 : -(xs.length : Int) ≤ i) (h1 : i < xs.length) : ∃ x, atI xs i = some x ∧ x ∈ xs := by
  unfold atI ixN
  by_cases h : 0 ≤ i
  · rw [if_pos h, if_pos h1]
    have hk : i.toNat < xs.length := by omega
    exact ⟨xs[i.toNat], List.getElem?_eq_getElem hk, List.getElem_mem hk⟩
  · rw [if_neg h, if_pos h0]
    have hk : (i + xs.length).toNat < xs.length := by omega
    exact ⟨xs[(i + xs.length).toNat], List.getElem?_eq_getElem hk, List.getElem_mem hk⟩

def nth (a : List Int) (w : Int) : Int := (a[w.toNat]?).getD 0
theorem nth_at {a : List Int} {w : Int} (h0 : 0 ≤ w) (h1 : w < a.length) : atI a w = some (nth a w) := by
  rw [atI_of h0 h1]
  unfold nth
  rw [List.getElem?_eq_getElem (by omega)]
  rfl
/-! loops -/
def PQ (Q : En → Prop) (T : S → Prop) (f : Fl) : Prop := match f with
  | .nx e => Q e
  | .rt s => T s
@[simp] theorem PQ_nx (Q : En → Prop) (T : S → Prop) (e : En) : PQ Q T (.nx e) ↔ Q e := Iff.rfl
@[simp] theorem PQ_rt (Q : En → Prop) (T : S → Prop) (s : S) : PQ Q T (.rt s) ↔ T s := Iff.rfl
theorem runB_W {n : Nat} {b : Sx} {ds : List D} {P : S → Prop} {E : D → Prop} (h : W (b (ds.map (fun d => some (.val d)) ++ List.replicate (n - ds.length) none)) (PQ (fun _ => P (.val .non)) P) E) : W (runB n b ds) P E := by
  unfold runB
  cases hb : b (ds.map (fun d => some (.val d)) ++ List.replicate (n - ds.length) none) with
  | ok f =>
    rw [hb] at h
    cases f <;> exact h
  | ex d => rw [hb] at h; exact h
  | bad => rw [hb] at h; exact h
theorem W_for {t : Tt} {b : Sx} {P : Fl → Prop} {E : D → Prop} (I : Nat → En → Prop) {ds : List D} {e : En} (h0 : I 0 e)
    (hs : ∀ i d e, ds[i]? = some d → I i e → W ((t d e).bind b) (PQ (I (i + 1)) fun s => P (.rt s)) E) (h1 : ∀ e, I ds.length e → P (.nx e)) : W (kfor t b e ds) P E := by
  have go : ∀ (r : List D) (i : Nat) (e : En), i + r.length = ds.length → ds.drop i = r → I i e → W (forL t b r e) P E := by
    intro r
    induction r with
    | nil => exact fun i e hl hd hi => h1 e (by rw [← hl]; exact hi)
    | cons d r ih =>
      intro i e hl hd hi
      have hi2 : i < ds.length := by rw [← hl, List.length_cons]; omega
      have hd2 := List.drop_eq_getElem_cons hi2
      rw [hd] at hd2
      injection hd2 with h2 h3
      have st := hs i d e (by rw [List.getElem?_eq_getElem hi2, ← h2]) hi
      show W ((t d e).bind fun e' => (b e').bind fun f => _) P E
      rw [W_bind] at st ⊢
      refine W_mono st fun e' st' => ?_
      rw [W_bind]
      refine W_mono st' fun f hf => ?_
      cases f with
      | nx e2 => exact ih (i + 1) e2 (by rw [← hl, List.length_cons]; omega) h3.symm hf
      | rt s => exact hf
  exact go ds 0 e (by omega) rfl h0
/-- for x in range(n) -/
theorem rangeL_length (a b : Int) : (rangeL a b).length = (b - a).toNat := by unfold rangeL; rw [List.length_map, List.length_range]
theorem rangeL_get {a b : Int} {i : Nat} {d : D} (h : (rangeL a b)[i]? = some d) : d = .int (a + i) ∧ a + i < b := by
  unfold rangeL at h
  rw [List.getElem?_map] at h
  cases q : (List.range (b - a).toNat)[i]? with
  | none => rw [q] at h; cases h
  | some k =>
    rw [q] at h
    obtain ⟨h1, h2⟩ := List.getElem?_eq_some_iff.mp q
    rw [List.getElem_range] at h2
    subst h2
    rw [List.length_range] at h1
    cases h
    exact ⟨rfl, by omega⟩
theorem W_range {t : Tt} {b : Sx} {P : Fl → Prop} {E : D → Prop} (I : Nat → En → Prop) {n : Int} {e : En} (h0 : I 0 e)
    (hs : ∀ (i : Nat) e, (i : Int) < n → I i e → W ((t (.int i) e).bind b) (PQ (I (i + 1)) fun s => P (.rt s)) E) (h1 : ∀ e, I n.toNat e → P (.nx e)) : W (kfor t b e (rangeL 0 n)) P E := by
  refine W_for I h0 (fun i d e hd hi => ?_) (fun e he => h1 e (by rw [rangeL_length] at he; simpa using he))
  obtain ⟨rfl, h⟩ := rangeL_get hd
  have e0 : (0 : Int) + i = i := by omega
  rw [e0] at h ⊢
  exact hs i e h hi
theorem W_while {c : Tx} {b : Sx} {P : Fl → Prop} {E : D → Prop} (I : Nat → En → Prop) {n k : Nat} {e : En} (h0 : I k e) (hk : k < n)
    (hs : ∀ k e, I k e → W (c e) (fun g => (g = true → W (b e) (PQ (fun e' => ∃ j, j < k ∧ I j e') fun s => P (.rt s)) E) ∧ (g = false → P (.nx e))) E) : W (whileL c b n e) P E := by
  induction n generalizing k e with
  | zero => omega
  | succ n ih =>
    have st := hs k e h0
    show W ((c e).bind fun k => _) P E
    rw [W_bind]
    refine W_mono st fun g ⟨g1, g2⟩ => ?_
    cases g with
    | false => exact g2 rfl
    | true =>
      show W ((b e).bind fun f => _) P E
      rw [W_bind]
      refine W_mono (g1 rfl) fun f hf => ?_
      cases f with
      | nx e2 =>
        obtain ⟨j, h1, h2⟩ := hf
        exact ih h2 (by omega)
      | rt s => exact hf
/-- one step of a comprehension -/
def kcs2 (s : S) : R (Option D) := .ok (some s.d)
@[simp] theorem kcs2_eq (s : S) : kcs2 s = .ok (some s.d) := rfl
def kcs1 (m : Ex) (e : En) (b : Bool) : R (Option D) := match b with
  | true => (m e).bind kcs2
  | false => .ok none
@[simp] theorem kcs1_t (m : Ex) (e : En) : kcs1 m e true = (m e).bind kcs2 := rfl
@[simp] theorem kcs1_f (m : Ex) (e : En) : kcs1 m e false = .ok none := rfl
def kcs (c : Tx) (m : Ex) (e : En) : R (Option D) := (c e).bind (kcs1 m e)
@[simp] theorem kcs_eq (c : Tx) (m : Ex) (e : En) : kcs c m e = (c e).bind (kcs1 m e) := rfl
theorem compL_map {α : Type} {t : Tt} {c : Tx} {m : Ex} {e : En} {f : α → D} {g : α → Option D} : ∀ xs : List α, (∀ x ∈ xs, (t (f x) e).bind (kcs c m) = .ok (g x)) → compL t c m e (xs.map f) = .ok (xs.filterMap g)
  | [], _ => rfl
  | x :: r, h => by
    have ih := compL_map r fun y hy => h y (List.mem_cons_of_mem _ hy)
    have hx := h x List.mem_cons_self
    show (t (f x) e).bind _ = _
    cases ht : t (f x) e with
    | bad => rw [ht] at hx; cases hx
    | ex d => rw [ht] at hx; cases hx
    | ok e' =>
      rw [ht] at hx
      rw [R.bind_ok] at hx ⊢
      rw [kcs_eq] at hx
      cases hc : c e' with
      | bad => rw [hc] at hx; cases hx
      | ex d => rw [hc] at hx; cases hx
      | ok b =>
        rw [hc] at hx
        rw [R.bind_ok] at hx ⊢
        cases b with
        | false =>
          show compL t c m e (r.map f) = _
          have hx' : R.ok none = R.ok (g x) := hx
          injection hx' with hg
          rw [ih, List.filterMap_cons, ← hg]
        | true =>
          show (m e').bind _ = _
          rw [kcs1_t] at hx
          cases hm : m e' with
          | bad => rw [hm] at hx; cases hx
          | ex d => rw [hm] at hx; cases hx
          | ok s =>
            rw [hm] at hx
            have hx' : R.ok (some s.d) = R.ok (g x) := hx
            injection hx' with hg
            rw [R.bind_ok, ih, R.bind_ok, List.filterMap_cons, ← hg]
theorem W_comp {α : Type} {al vs : List Nat} {t : Tt} {c : Tx} {m : Ex} {e : En} {P : S → Prop} {E : D → Prop} {ds : List D} (xs : List α) (f : α → D) (g : α → Option D) (hd : ds = xs.map f) (hl : xs.length ≤ 65536) (h : ∀ x ∈ xs, (t (f x) (wipeE (freeze al e) vs)).bind (kcs c m) = .ok (g x)) (k : P (.own (xs.filterMap g))) :
    W (kcomp al vs t c m e ds) P E := by
  subst hd
  unfold kcomp
  rw [compL_map xs h]
  show W (if _ then _ else _) P E
  rw [W_ite]
  exact ⟨Nat.le_trans (List.length_filterMap_le _ _) hl, k⟩
/-- [g(x) for x in ..] -/
theorem W_cmap {α : Type} {al vs : List Nat} {t : Tt} {c : Tx} {m : Ex} {e : En} {P : S → Prop} {E : D → Prop} {ds : List D} (xs : List α) (f : α → D) (g : α → D) (hd : ds = xs.map f) (hl : xs.length ≤ 65536) (h : ∀ x ∈ xs, (t (f x) (wipeE (freeze al e) vs)).bind (kcs c m) = .ok (some (g x))) (k : P (.own (xs.map g))) :
    W (kcomp al vs t c m e ds) P E := W_comp xs f (fun x => some (g x)) hd hl h (by
      have e : xs.filterMap (fun x => some (g x)) = xs.map g := by induction xs with
        | nil => rfl
        | cons x r ih => simp
      rw [e]; exact k)
/-- [b(x) for x in ..], [b(x) for x in .. if p(x)] by kinds of values -/
theorem W_cm {α β : Type} {al vs : List Nat} {t : Tt} {c : Tx} {m : Ex} {e : En} {P : S → Prop} {E : D → Prop} {ds : List D} (xs : List α) (f : α → D) (mk : β → D) (b : α → β) (hd : ds = xs.map f) (hl : xs.length ≤ 65536) (h : ∀ x ∈ xs, (t (f x) (wipeE (freeze al e) vs)).bind (kcs c m) = .ok (some (mk (b x)))) (k : P (.own ((xs.map b).map mk))) :
    W (kcomp al vs t c m e ds) P E := W_cmap xs f (fun x => mk (b x)) hd hl h (by rw [List.map_map] at k; exact k)
theorem filterMap_if {α β : Type} (p : α → Bool) (g : α → β) : ∀ xs : List α, xs.filterMap (fun x => if p x = true then some (g x) else none) = (xs.filter p).map g
  | [] => rfl
  | x :: r => by
    rw [List.filterMap_cons, List.filter_cons]
    by_cases hp : p x = true
    · rw [if_pos hp, if_pos hp, filterMap_if p g r]; rfl
    · rw [if_neg hp, if_neg hp, filterMap_if p g r]
theorem W_cf {α β : Type} {al vs : List Nat} {t : Tt} {c : Tx} {m : Ex} {e : En} {P : S → Prop} {E : D → Prop} {ds : List D} (xs : List α) (f : α → D) (mk : β → D) (b : α → β) (p : α → Bool) (hd : ds = xs.map f) (hl : xs.length ≤ 65536) (h : ∀ x ∈ xs, (t (f x) (wipeE (freeze al e) vs)).bind (kcs c m) = .ok (if p x = true then some (mk (b x)) else none)) (k : P (.own (((xs.filter p).map b).map mk))) :
    W (kcomp al vs t c m e ds) P E := W_comp xs f (fun x => if p x = true then some (mk (b x)) else none) hd hl h (by
      rw [filterMap_if p (fun x => mk (b x)), ]
      rw [List.map_map] at k; exact k)
/-- a comprehension over calls of which only promises are known -/
theorem compL_W {α : Type} {t : Tt} {c : Tx} {m : Ex} {e : En} {f : α → D} {E : D → Prop} (A : α → D → Prop) : ∀ xs : List α, (∀ x ∈ xs, W ((t (f x) e).bind (kcs c m)) (fun o => ∃ d, o = some d ∧ A x d) E) →
    W (compL t c m e (xs.map f)) (fun ys => ys.length = xs.length ∧ ∀ (i : Nat) x, xs[i]? = some x → ∃ d, ys[i]? = some d ∧ A x d) E
  | [], _ => ⟨rfl, fun i x h => by simp at h⟩
  | x :: r, h => by
    have ih := compL_W A r fun y hy => h y (List.mem_cons_of_mem _ hy)
    have hx := h x List.mem_cons_self
    show W ((t (f x) e).bind _) _ E
    rw [W_bind] at hx ⊢
    refine W_mono hx fun e' hx => ?_
    rw [kcs_eq, W_bind] at hx
    rw [W_bind]
    refine W_mono hx fun b hx => ?_
    cases b with
    | false =>
      obtain ⟨d, hd, _⟩ := (hx : ∃ d, none = some d ∧ A x d)
      cases hd
    | true =>
      rw [kcs1_t, W_bind] at hx
      show W ((m e').bind _) _ E
      rw [W_bind]
      refine W_mono hx fun s hx => ?_
      obtain ⟨d, hd, ha⟩ := (hx : ∃ d, some s.d = some d ∧ A x d)
      cases hd
      rw [W_bind]
      refine W_mono ih fun ys ⟨h1, h2⟩ => ⟨by simp [h1], fun i y hy => ?_⟩
      cases i with
      | zero =>
        have e : x = y := by simpa using hy
        exact ⟨s.d, rfl, e ▸ ha⟩
      | succ i => exact h2 i y (by simpa using hy)
theorem W_cW {α : Type} {al vs : List Nat} {t : Tt} {c : Tx} {m : Ex} {e : En} {P : S → Prop} {ds : List D} (xs : List α) (f : α → D) (A : α → D → Prop) (hd : ds = xs.map f) (hl : xs.length ≤ 65536) (h : ∀ x ∈ xs, W ((t (f x) (wipeE (freeze al e) vs)).bind (kcs c m)) (fun o => ∃ d, o = some d ∧ A x d) NE)
    (k : ∀ ys : List D, ys.length = xs.length → (∀ (i : Nat) x, xs[i]? = some x → ∃ d, ys[i]? = some d ∧ A x d) → P (.own ys)) : W (kcomp al vs t c m e ds) P NE := by
  subst hd
  obtain ⟨ys, e1, h1, h2⟩ := W_ex' (compL_W (E := NE) A xs h)
  unfold kcomp
  rw [e1]
  show W (if _ then _ else _) P NE
  rw [W_ite]
  exact ⟨by omega, k ys h1 h2⟩
theorem maps_of {β : Type} {mk : β → D} {A : β → Prop} : ∀ ys : List D, (∀ d ∈ ys, ∃ b, d = mk b ∧ A b) → ∃ bs : List β, ys = bs.map mk ∧ bs.length = ys.length ∧ ∀ b ∈ bs, A b
  | [], _ => ⟨[], rfl, rfl, fun b h => by cases h⟩
  | d :: r, h => by
    obtain ⟨b, e, ha⟩ := h d List.mem_cons_self
    obtain ⟨bs, e2, e3, h2⟩ := maps_of r fun y hy => h y (List.mem_cons_of_mem _ hy)
    exact ⟨b :: bs, by rw [e, e2]; rfl, by simp [e3], fun x hx => by
      rcases List.mem_cons.mp hx with e | hx
      · rw [e]; exact ha
      · exact h2 x hx⟩
theorem W_rows {α β : Type} {mk : β → D} {al vs : List Nat} {t : Tt} {c : Tx} {m : Ex} {e : En} {P : S → Prop} {ds : List D} (xs : List α) (f : α → D) (A : β → Prop) (hd : ds = xs.map f) (hl : xs.length ≤ 65536) (h : ∀ x ∈ xs, W ((t (f x) (wipeE (freeze al e) vs)).bind (kcs c m)) (fun o => ∃ b, o = some (mk b) ∧ A b) NE)
    (k : ∀ bs : List β, bs.length = xs.length → (∀ b ∈ bs, A b) → P (.own (bs.map mk))) : W (kcomp al vs t c m e ds) P NE := by
  refine W_cW xs f (fun _ d => ∃ b, d = mk b ∧ A b) hd hl (fun x hx => W_mono (h x hx) fun o ⟨b, e, ha⟩ => ⟨_, e, b, rfl, ha⟩) fun ys h1 h2 => ?_
  obtain ⟨bs, e, e2, h3⟩ := maps_of (mk := mk) (A := A) ys fun d hd => by
    obtain ⟨i, hi, e⟩ := List.mem_iff_getElem.mp hd
    obtain ⟨d', hd', hb⟩ := h2 i _ (List.getElem?_eq_getElem (by omega))
    rw [List.getElem?_eq_getElem hi, e] at hd'
    cases hd'
    exact hb
  rw [e]
  exact k bs (by omega) h3
theorem rangeL_map (n : Int) : rangeL 0 n = (List.range n.toNat).map fun (i : Nat) => D.int (i : Int) := by
  unfold rangeL
  simp
end Tg
namespace Tg
open PySem L2
mutual
/-- data as laws compare it: at most n deep, not too long -/
def D.sm : Nat → D → Bool
  | _, .non => true
  | _, .bl _ => true
  | _, .int _ => true
  | _, .str s => s.all (· < 0x110000)
  | 0, .tup _ => false
  | n + 1, .tup ds => decide (ds.length ≤ 1000000) && D.smL n ds
  | 0, .lst _ => false
  | n + 1, .lst ds => decide (ds.length ≤ 1000000) && D.smL n ds
  | _, .scr _ => false
  | _, .exc _ _ => false
  | _, .jnk => false
def D.smL : Nat → List D → Bool
  | _, [] => true
  | n, d :: r => D.sm n d && D.smL n r
end
theorem smL_mem : ∀ {n : Nat} {ds : List D}, D.smL n ds = true → ∀ d ∈ ds, d.sm n = true
  | n, [], _, d, h => nomatch h
  | n, c :: r, h, d, hd => by
    simp only [D.smL, Bool.and_eq_true] at h
    rcases List.mem_cons.mp hd with e | hd
    · rw [e]; exact h.1
    · exact smL_mem h.2 d hd
theorem smL_of : ∀ {n : Nat} {ds : List D}, (∀ d ∈ ds, d.sm n = true) → D.smL n ds = true
  | n, [], _ => rfl
  | n, c :: r, h => by simp only [D.smL, h c List.mem_cons_self, smL_of fun d hd => h d (List.mem_cons_of_mem _ hd), Bool.and_self]
end Tg
namespace Tg
open PySem L2
/-! == of lists of alike things -/
theorem pyL_map {α : Type} (f : α → D) : ∀ xs : List α, D.pyL (xs.map f) = xs.map fun x => (f x).py
  | [] => rfl
  | x :: r => by
    show (f x).py :: D.pyL (r.map f) = _
    rw [pyL_map f r]
    rfl
theorem eqvAll_map {α : Type} [DecidableEq α] {f : α → D} : ∀ xs ys : List α, (∀ x ∈ xs, ∀ y ∈ ys, PyData.eqv (f x).py (f y).py = decide (x = y)) → PyData.eqvAll (D.pyL (xs.map f)) (D.pyL (ys.map f)) = decide (xs = ys)
  | [], [], _ => by simp [D.pyL, PyData.eqvAll]
  | [], y :: s, _ => by simp [D.pyL, PyData.eqvAll]
  | x :: r, [], _ => by simp [D.pyL, PyData.eqvAll]
  | x :: r, y :: s, h => by
    have ih := eqvAll_map r s fun a ha b hb => h a (List.mem_cons_of_mem _ ha) b (List.mem_cons_of_mem _ hb)
    show PyData.eqvAll ((f x).py :: D.pyL (r.map f)) ((f y).py :: D.pyL (s.map f)) = _
    rw [PyData.eqvAll, ih, h x List.mem_cons_self y List.mem_cons_self, Bool.eq_iff_iff]
    simp
theorem eqv_lmap {α : Type} [DecidableEq α] {f : α → D} {xs ys : List α} (h : ∀ x ∈ xs, ∀ y ∈ ys, PyData.eqv (f x).py (f y).py = decide (x = y)) : PyData.eqv (D.lst (xs.map f)).py (D.lst (ys.map f)).py = decide (xs = ys) := by
  show PyData.eqv (.list (D.pyL (xs.map f))) (.list (D.pyL (ys.map f))) = _
  rw [PyData.eqv, eqvAll_map xs ys h]
theorem eqv_tmap {α : Type} [DecidableEq α] {f : α → D} {xs ys : List α} (h : ∀ x ∈ xs, ∀ y ∈ ys, PyData.eqv (f x).py (f y).py = decide (x = y)) : PyData.eqv (D.tup (xs.map f)).py (D.tup (ys.map f)).py = decide (xs = ys) := by
  show PyData.eqv (.tuple (D.pyL (xs.map f))) (.tuple (D.pyL (ys.map f))) = _
  rw [PyData.eqv, eqvAll_map xs ys h]
theorem shpL_map {α : Type} {f : α → D} {n : Nat} : ∀ xs : List α, (∀ x ∈ xs, (f x).shp n = true) → D.shpL n (xs.map f) = true
  | [], _ => by simp [D.shpL]
  | x :: r, h => by
    rw [List.map_cons, D.shpL, h x List.mem_cons_self, shpL_map r fun y hy => h y (List.mem_cons_of_mem _ hy)]
    rfl
theorem shp_int (n : Nat) (i : Int) : (D.int i).shp n = true := by cases n <;> rfl
theorem shp_bl (n : Nat) (i : Bool) : (D.bl i).shp n = true := by cases n <;> rfl
theorem shp_non (n : Nat) : D.non.shp n = true := by cases n <;> rfl
theorem shp_str (n : Nat) (s : List Nat) : (D.str s).shp n = s.all (· < 0x110000) := by cases n <;> rfl
theorem shp_tup (n : Nat) (ds : List D) : (D.tup ds).shp (n + 1) = D.shpL n ds := rfl
theorem shp_lst (n : Nat) (ds : List D) : (D.lst ds).shp (n + 1) = D.shpL n ds := rfl
theorem shpL_int (n : Nat) (xs : List Int) : D.shpL n (xs.map .int) = true := shpL_map xs fun x _ => shp_int n x
@[simp] theorem oEq_li (a b : List Int) : oEq (.lst (a.map .int)) (.lst (b.map .int)) = .ok (.val (.bl (decide (a = b)))) := by
  unfold oEq
  rw [show D.shp DEP (.lst (a.map .int)) = true from shpL_int _ a, show D.shp DEP (.lst (b.map .int)) = true from shpL_int _ b, eqv_lmap fun x _ y _ => eqv_int x y]
  rfl
@[simp] theorem oNe_li (a b : List Int) : oNe (.lst (a.map .int)) (.lst (b.map .int)) = .ok (.val (.bl (decide (a ≠ b)))) := by
  unfold oNe
  rw [show D.shp DEP (.lst (a.map .int)) = true from shpL_int _ a, show D.shp DEP (.lst (b.map .int)) = true from shpL_int _ b, eqv_lmap fun x _ y _ => eqv_int x y, decide_not]
  rfl
@[simp] theorem oEq_ti (a b : List Int) : oEq (.tup (a.map .int)) (.tup (b.map .int)) = .ok (.val (.bl (decide (a = b)))) := by
  unfold oEq
  rw [show D.shp DEP (.tup (a.map .int)) = true from shpL_int _ a, show D.shp DEP (.tup (b.map .int)) = true from shpL_int _ b, eqv_tmap fun x _ y _ => eqv_int x y]
  rfl
@[simp] theorem oNe_ti (a b : List Int) : oNe (.tup (a.map .int)) (.tup (b.map .int)) = .ok (.val (.bl (decide (a ≠ b)))) := by
  unfold oNe
  rw [show D.shp DEP (.tup (a.map .int)) = true from shpL_int _ a, show D.shp DEP (.tup (b.map .int)) = true from shpL_int _ b, eqv_tmap fun x _ y _ => eqv_int x y, decide_not]
  rfl
/-- texts of signs -/
def Sg (s : List Nat) : Prop := ∀ c ∈ s, c < 0x110000
theorem Sg.all {s : List Nat} (h : Sg s) : s.all (· < 0x110000) = true := List.all_eq_true.mpr fun c hc => decide_eq_true (h c hc)
theorem oEq_s {a b : List Nat} (ha : Sg a) (hb : Sg b) : oEq (.str a) (.str b) = .ok (.val (.bl (decide (a = b)))) := by
  unfold oEq
  rw [shp_str, shp_str, ha.all, hb.all, eqv_str]
  rfl
theorem oNe_s {a b : List Nat} (ha : Sg a) (hb : Sg b) : oNe (.str a) (.str b) = .ok (.val (.bl (decide (a ≠ b)))) := by
  unfold oNe
  rw [shp_str, shp_str, ha.all, hb.all, eqv_str, decide_not]
  rfl
mutual
theorem eqv_self : ∀ (n : Nat) (d : D), d.shp n = true → PyData.eqv d.py d.py = true
  | _, .non, _ => rfl
  | _, .bl b, _ => by rw [eqv_bl]; simp
  | _, .int i, _ => by rw [eqv_int]; simp
  | _, .str s, _ => by rw [eqv_str]; simp
  | 0, .tup ds, h => by simp [D.shp] at h
  | n + 1, .tup ds, h => by
    rw [shp_tup] at h
    show PyData.eqv (.tuple (D.pyL ds)) (.tuple (D.pyL ds)) = _
    rw [PyData.eqv, eqvAll_self n ds h]
  | 0, .lst ds, h => by simp [D.shp] at h
  | n + 1, .lst ds, h => by
    rw [shp_lst] at h
    show PyData.eqv (.list (D.pyL ds)) (.list (D.pyL ds)) = _
    rw [PyData.eqv, eqvAll_self n ds h]
  | n, .scr _, h => by cases n <;> simp [D.shp] at h
  | n, .exc _ _, h => by cases n <;> simp [D.shp] at h
  | n, .jnk, h => by cases n <;> simp [D.shp] at h
theorem eqvAll_self : ∀ (n : Nat) (ds : List D), D.shpL n ds = true → PyData.eqvAll (D.pyL ds) (D.pyL ds) = true
  | _, [], _ => rfl
  | n, d :: r, h => by
    rw [D.shpL, Bool.and_eq_true] at h
    show PyData.eqvAll (d.py :: D.pyL r) (d.py :: D.pyL r) = _
    rw [PyData.eqvAll, eqv_self n d h.1, eqvAll_self n r h.2]
    rfl
end
theorem oEq_self {d : D} (h : d.shp DEP = true) : oEq d d = .ok (.val (.bl true)) := by
  unfold oEq
  rw [h, eqv_self DEP d h]
  rfl
theorem oNe_self {d : D} (h : d.shp DEP = true) : oNe d d = .ok (.val (.bl false)) := by
  unfold oNe
  rw [h, eqv_self DEP d h]
  rfl
end Tg

/-! Tg, part 17: loops by what is done so far; in, not in; lists of things. -/
namespace Tg
open PySem L2
/-- a loop over the things of xs, the invariant over those that are done -/
theorem W_forM {α : Type} {t : Tt} {b : Sx} {P : Fl → Prop} {E : D → Prop} {ds : List D} {e : En} (xs : List α) (f : α → D) (hd : ds = xs.map f) (I : List α → En → Prop) (h0 : I [] e)
    (hs : ∀ pre x post e, xs = pre ++ x :: post → I pre e → W ((t (f x) e).bind b) (PQ (I (pre ++ [x])) fun s => P (.rt s)) E) (h1 : ∀ e, I xs e → P (.nx e)) : W (kfor t b e ds) P E := by
  subst hd
  have go : ∀ (post pre : List α) (e : En), xs = pre ++ post → I pre e → W (forL t b (post.map f) e) P E := by
    intro post
    induction post with
    | nil =>
      intro pre e hx hi
      rw [List.append_nil] at hx
      subst hx
      exact h1 e hi
    | cons x post ih =>
      intro pre e hx hi
      have st := hs pre x post e hx hi
      show W ((t (f x) e).bind fun e' => (b e').bind fun f => _) P E
      rw [W_bind] at st ⊢
      refine W_mono st fun e' st' => ?_
      rw [W_bind]
      refine W_mono st' fun g hg => ?_
      cases g with
      | nx e2 => exact ih (pre ++ [x]) e2 (by rw [hx]; simp) hg
      | rt s => exact hg
  exact go xs [] e rfl h0
theorem mem_mid {α : Type} {xs pre post : List α} {x : α} (h : xs = pre ++ x :: post) : x ∈ xs := by rw [h]; simp
/-- the runs whose result is known -/
theorem W_ok_ex {r : R S} {P : S → Prop} (h : W r P NE) : ∃ s, r = .ok s ∧ P s := W_ex' h
theorem any_dint (w : Int) (p : List Int) : ((p.map D.int).any fun z => PyData.eqv z.py (D.int w).py) = decide (w ∈ p) := by
  rw [Bool.eq_iff_iff]
  simp only [List.any_eq_true, List.mem_map, decide_eq_true_eq]
  constructor
  · rintro ⟨_, ⟨x, hm, rfl⟩, q⟩
    rw [eqv_int] at q
    rw [← of_decide_eq_true q]
    exact hm
  · exact fun hm => ⟨_, ⟨w, hm, rfl⟩, by rw [eqv_int]; simp⟩
@[simp] theorem oNotIn_ti (w : Int) (p : List Int) : oNotIn (.int w) (.tup (p.map .int)) = .ok (.val (.bl (!decide (w ∈ p)))) := by
  show (if ((D.int w).shp DEP && D.shpL DEP (p.map .int)) = true then R.ok (S.val (D.bl (!(p.map D.int).any fun z => PyData.eqv z.py (D.int w).py))) else .bad) = _
  rw [shpL_int, shp_int, any_dint]
  rfl
@[simp] theorem oNotIn_li (w : Int) (p : List Int) : oNotIn (.int w) (.lst (p.map .int)) = .ok (.val (.bl (!decide (w ∈ p)))) := by
  show (if ((D.int w).shp DEP && D.shpL DEP (p.map .int)) = true then R.ok (S.val (D.bl (!(p.map D.int).any fun z => PyData.eqv z.py (D.int w).py))) else .bad) = _
  rw [shpL_int, shp_int, any_dint]
  rfl
@[simp] theorem oIn_ti (w : Int) (p : List Int) : oIn (.int w) (.tup (p.map .int)) = .ok (.val (.bl (decide (w ∈ p)))) := by
  show (if ((D.int w).shp DEP && D.shpL DEP (p.map .int)) = true then R.ok (S.val (D.bl ((p.map D.int).any fun z => PyData.eqv z.py (D.int w).py))) else .bad) = _
  rw [shpL_int, shp_int, any_dint]
  rfl
@[simp] theorem oIn_li (w : Int) (p : List Int) : oIn (.int w) (.lst (p.map .int)) = .ok (.val (.bl (decide (w ∈ p)))) := by
  show (if ((D.int w).shp DEP && D.shpL DEP (p.map .int)) = true then R.ok (S.val (D.bl ((p.map D.int).any fun z => PyData.eqv z.py (D.int w).py))) else .bad) = _
  rw [shpL_int, shp_int, any_dint]
  rfl
theorem any_dstr {a : List Nat} {xs : List (List Nat)} : ((xs.map D.str).any fun z => PyData.eqv z.py (D.str a).py) = decide (a ∈ xs) := by
  rw [Bool.eq_iff_iff]
  simp only [List.any_eq_true, List.mem_map, decide_eq_true_eq]
  constructor
  · rintro ⟨_, ⟨x, hm, rfl⟩, q⟩
    rw [eqv_str] at q
    rw [← of_decide_eq_true q]
    exact hm
  · exact fun hm => ⟨_, ⟨a, hm, rfl⟩, by rw [eqv_str]; simp⟩
theorem oIn_ls {a : List Nat} {xs : List (List Nat)} (ha : Sg a) (hx : ∀ x ∈ xs, Sg x) : oIn (.str a) (.lst (xs.map .str)) = .ok (.val (.bl (decide (a ∈ xs)))) := by
  have h1 : D.shpL DEP (xs.map .str) = true := shpL_map xs fun x hm => by rw [shp_str]; exact (hx x hm).all
  have red : ∀ ds : List D, oIn (.str a) (.lst ds) = if (D.str a).shp DEP && D.shpL DEP ds then .ok (.val (.bl (ds.any fun z => PyData.eqv z.py (D.str a).py))) else .bad := fun ds => by
    rcases a with _ | ⟨c, _ | ⟨d, t⟩⟩ <;> rfl
  rw [red, h1, shp_str, ha.all, any_dstr]
  rfl
theorem oNotIn_ls {a : List Nat} {xs : List (List Nat)} (ha : Sg a) (hx : ∀ x ∈ xs, Sg x) : oNotIn (.str a) (.lst (xs.map .str)) = .ok (.val (.bl (!decide (a ∈ xs)))) := by
  have h1 : D.shpL DEP (xs.map .str) = true := shpL_map xs fun x hm => by rw [shp_str]; exact (hx x hm).all
  have red : ∀ ds : List D, oNotIn (.str a) (.lst ds) = if (D.str a).shp DEP && D.shpL DEP ds then .ok (.val (.bl (!ds.any fun z => PyData.eqv z.py (D.str a).py))) else .bad := fun ds => by
    rcases a with _ | ⟨c, _ | ⟨d, t⟩⟩ <;> rfl
  rw [red, h1, shp_str, ha.all, any_dstr]
  rfl
/-- == of a list of ints and [] -/
@[simp] theorem oEq_nil (a : List Int) : oEq (.lst (a.map .int)) (.lst []) = .ok (.val (.bl (decide (a = [])))) := oEq_li a []
@[simp] theorem oNe_nil (a : List Int) : oNe (.lst (a.map .int)) (.lst []) = .ok (.val (.bl (decide (a ≠ [])))) := oNe_li a []
@[simp] theorem oEq_nn : oEq (.lst []) (.lst []) = .ok (.val (.bl true)) := oEq_li [] []
@[simp] theorem oNe_nn : oNe (.lst []) (.lst []) = .ok (.val (.bl false)) := oNe_li [] []
theorem nodup_le {a b : List Int} (h : a.Nodup) (s : ∀ x ∈ a, x ∈ b) : a.length ≤ b.length := h.length_le_of_subset s
/-- == of lists of texts -/
theorem oEq_lss {a b : List (List Nat)} (ha : ∀ x ∈ a, Sg x) (hb : ∀ x ∈ b, Sg x) : oEq (.lst (a.map .str)) (.lst (b.map .str)) = .ok (.val (.bl (decide (a = b)))) := by
  unfold oEq
  rw [show D.shp DEP (.lst (a.map .str)) = true from shpL_map (n := 59) a fun x hm => by rw [shp_str]; exact (ha x hm).all, show D.shp DEP (.lst (b.map .str)) = true from shpL_map (n := 59) b fun x hm => by rw [shp_str]; exact (hb x hm).all, eqv_lmap fun x _ y _ => eqv_str x y]
  rfl
theorem oNe_lss {a b : List (List Nat)} (ha : ∀ x ∈ a, Sg x) (hb : ∀ x ∈ b, Sg x) : oNe (.lst (a.map .str)) (.lst (b.map .str)) = .ok (.val (.bl (decide (a ≠ b)))) := by
  unfold oNe
  rw [show D.shp DEP (.lst (a.map .str)) = true from shpL_map (n := 59) a fun x hm => by rw [shp_str]; exact (ha x hm).all, show D.shp DEP (.lst (b.map .str)) = true from shpL_map (n := 59) b fun x hm => by rw [shp_str]; exact (hb x hm).all, eqv_lmap fun x _ y _ => eqv_str x y, decide_not]
  rfl
/-- lists of lists of ints -/
abbrev lint (f : List Int) : D := .lst (f.map .int)
theorem eqv_lint (x y : List Int) : PyData.eqv (lint x).py (lint y).py = decide (x = y) := eqv_lmap fun a _ b _ => eqv_int a b
theorem shp_lint (n : Nat) (x : List Int) : (lint x).shp (n + 1) = true := shpL_int n x
theorem oEq_lli (a b : List (List Int)) : oEq (.lst (a.map lint)) (.lst (b.map lint)) = .ok (.val (.bl (decide (a = b)))) := by
  unfold oEq
  rw [show D.shp DEP (.lst (a.map lint)) = true from shpL_map (n := 59) a fun x _ => shp_lint 58 x, show D.shp DEP (.lst (b.map lint)) = true from shpL_map (n := 59) b fun x _ => shp_lint 58 x, eqv_lmap fun x _ y _ => eqv_lint x y]
  rfl
/-- a comprehension of things that are all told: what is known of the wished ones -/
theorem atI_int {α : Type} {xs : List α} {i : Int} {x : α} (h : atI xs i = some x) (f : α → D) : atI (xs.map f) i = some (f x) := by rw [atI_map, h]; rfl
theorem emod_lt' {x : Int} {n : Nat} (h : 0 < n) : 0 ≤ x % (n : Int) ∧ x % (n : Int) < n := ⟨Int.emod_nonneg _ (by omega), Int.emod_lt_of_pos _ (by omega)⟩
@[simp] theorem flatL_sign (cs : List Nat) : D.flatL (cs.map fun c => D.str [c]) = true := flatL_map (fun _ => rfl) cs
theorem filter_snoc {α : Type} (p : α → Bool) (l : List α) (x : α) : (l ++ [x]).filter p = l.filter p ++ if p x = true then [x] else [] := by
  rw [List.filter_append, List.filter_cons]
  rfl
end Tg

/-! Tg, part 21: the plain side of dicts, zips of any kinds, chosen things. -/
namespace Tg
open PySem L2
@[simp] theorem dctAt_eq (e : En) (i : Nat) : dctAt e i = match e[i]? with
  | some (some (.dct t kvs)) => some (t, kvs)
  | _ => none := rfl
@[simp] theorem eDGet_eq (i : Nat) (n : Ex) (e : En) : eDGet i n e = match dctAt e i with
  | some (t, kvs) => (n e).bind (kDGet t kvs)
  | _ => .bad := rfl
@[simp] theorem eDIn_eq (neg : Bool) (i : Nat) (n : Ex) (e : En) : eDIn neg i n e = match dctAt e i with
  | some (t, kvs) => (n e).bind (kDIn neg t kvs)
  | _ => .bad := rfl
@[simp] theorem eDLen_eq (i : Nat) (e : En) : eDLen i e = match dctAt e i with
  | some (_, kvs) => .ok (.val (.int kvs.length))
  | _ => .bad := rfl
@[simp] theorem sDNew_eq (t i : Nat) (e : En) : sDNew t i e = .ok (.nx (e.set i (some (.dct t [])))) := rfl
@[simp] theorem sDCst_eq (i : Nat) (kvs : List (List Nat × D)) (e : En) : sDCst i kvs e = .ok (.nx (e.set i (some (.dct 2 (kvI kvs))))) := rfl
@[simp] theorem sDPut_eq (i : Nat) (a n : Ex) (e : En) : sDPut i a n e = match dctAt e i with
  | some (t, kvs) => (a e).bind (kDPut t kvs i n e)
  | _ => .bad := rfl
@[simp] theorem kDPut_eq (t : Nat) (kvs : List (List Int × D)) (i : Nat) (n : Ex) (e : En) (v : S) : kDPut t kvs i n e v = (n e).bind (kDPut2 t kvs i e v) := rfl
def ofO2 (o : Option D) : R S := match o with
  | some d => .ok (.val d)
  | none => .bad
@[simp] theorem ofO2_some (d : D) : ofO2 (some d) = .ok (.val d) := rfl
@[simp] theorem kDGet_int (kvs : List (List Int × D)) (i : Int) : kDGet 0 kvs (.val (.int i)) = ofO2 (lookI kvs [i]) := by
  show (match lookI kvs [i] with | some d => _ | none => _) = _
  cases lookI kvs [i] <;> rfl
@[simp] theorem kDIn_int (kvs : List (List Int × D)) (i : Int) : kDIn false 0 kvs (.val (.int i)) = .ok (.val (.bl (lookI kvs [i]).isSome)) := rfl
@[simp] theorem kDNotIn_int (kvs : List (List Int × D)) (i : Int) : kDIn true 0 kvs (.val (.int i)) = .ok (.val (.bl (!(lookI kvs [i]).isSome))) := rfl
@[simp] theorem kDPut2_int (kvs : List (List Int × D)) (i : Nat) (e : En) (v : S) (j : Int) : kDPut2 0 kvs i e v (.val (.int j)) = if v.d.flat = true ∧ kvs.length ≤ 60000 then .ok (.nx (e.set i (some (.dct 0 (putI kvs [j] v.d))))) else .bad := rfl
@[simp] theorem kDGet_str (kvs : List (List Int × D)) (s : List Nat) : kDGet 2 kvs (.val (.str s)) = ofO2 (lookI kvs (s.map Int.ofNat)) := by
  show (match lookI kvs (s.map Int.ofNat) with | some d => _ | none => _) = _
  cases lookI kvs (s.map Int.ofNat) <;> rfl
theorem kDGet_tup (kvs : List (List Int × D)) (ns : List Int) : kDGet 1 kvs (.val (.tup (ns.map .int))) = ofO2 (lookI kvs ns) := by
  show (match D.ints (ns.map .int) with | some q => (match lookI kvs q with | some d => _ | none => _) | none => _) = _
  rw [ints_map]
  show (match lookI kvs ns with | some d => _ | none => _) = _
  cases lookI kvs ns <;> rfl
theorem kDIn_tup (neg : Bool) (kvs : List (List Int × D)) (ns : List Int) : kDIn neg 1 kvs (.val (.tup (ns.map .int))) = .ok (.val (.bl (if neg then !(lookI kvs ns).isSome else (lookI kvs ns).isSome))) := by
  show (match D.ints (ns.map .int) with | some q => _ | none => _) = _
  rw [ints_map]
theorem kDPut2_tup (kvs : List (List Int × D)) (i : Nat) (e : En) (v : S) (ns : List Int) : kDPut2 1 kvs i e v (.val (.tup (ns.map .int))) = if v.d.flat = true ∧ kvs.length ≤ 60000 then .ok (.nx (e.set i (some (.dct 1 (putI kvs ns v.d))))) else .bad := by
  show (match D.ints (ns.map .int) with | some q => _ | none => _) = _
  rw [ints_map]
theorem lookI_put (kvs : List (List Int × D)) (k : List Int) (d : D) (j : List Int) : lookI (putI kvs k d) j = if j = k then some d else lookI kvs j := by
  have snoc : ∀ kvs : List (List Int × D), (kvs.any fun p => decide (p.1 = k)) = false → lookI (kvs ++ [(k, d)]) j = if j = k then some d else lookI kvs j := by
    intro kvs
    induction kvs with
    | nil =>
      intro _
      by_cases e : j = k
      · subst e; simp [lookI]
      · have e' : ¬ k = j := fun z => e z.symm
        simp [lookI, e, e']
    | cons p r ih =>
      intro h
      rw [List.any_cons, Bool.or_eq_false_iff] at h
      have ih := ih h.2
      have hp := of_decide_eq_false h.1
      by_cases e : p.1 = j
      · have : ¬ j = k := fun z => hp (e.trans z)
        simp [lookI, e, this]
      · have e1 : lookI (p :: r ++ [(k, d)]) j = lookI (r ++ [(k, d)]) j := by simp [lookI, List.find?_cons, e]
        have e2 : lookI (p :: r) j = lookI r j := by simp [lookI, List.find?_cons, e]
        rw [e1, e2, ih]
  have upd : ∀ kvs : List (List Int × D), (kvs.any fun p => decide (p.1 = k)) = true → lookI (kvs.map fun p => if p.1 = k then (p.1, d) else p) j = if j = k then some d else lookI kvs j := by
    intro kvs
    have go : ∀ kvs : List (List Int × D), ¬ j = k → lookI (kvs.map fun p => if p.1 = k then (p.1, d) else p) j = lookI kvs j := by
      intro kvs hj
      induction kvs with
      | nil => rfl
      | cons p r ih =>
        rw [List.map_cons]
        by_cases e : p.1 = k
        · have e2 : ¬ p.1 = j := fun z => hj (z.symm.trans e)
          rw [if_pos e]
          simp only [lookI, List.find?_cons, e2, decide_false] at ih ⊢
          exact ih
        · rw [if_neg e]
          by_cases e2 : p.1 = j
          · simp [lookI, e2]
          · simp only [lookI, List.find?_cons, e2, decide_false] at ih ⊢
            exact ih
    intro h
    by_cases hj : j = k
    · subst hj
      rw [if_pos rfl]
      induction kvs with
      | nil => cases h
      | cons p r ih =>
        rw [List.map_cons]
        by_cases e : p.1 = j
        · rw [if_pos e]
          simp [lookI, e]
        · rw [if_neg e]
          rw [List.any_cons, decide_eq_false e, Bool.false_or] at h
          have := ih h
          simp only [lookI, List.find?_cons, e, decide_false] at this ⊢
          exact this
    · rw [if_neg hj]
      exact go kvs hj
  unfold putI
  by_cases h : (kvs.any fun p => decide (p.1 = k)) = true
  · rw [if_pos h]; exact upd kvs h
  · rw [if_neg h]; exact snoc kvs (Bool.eq_false_iff.mpr h)
theorem putI_new {kvs : List (List Int × D)} {k : List Int} {d : D} (h : lookI kvs k = none) : putI kvs k d = kvs ++ [(k, d)] := by
  unfold putI
  rw [if_neg]
  intro z
  rw [List.any_eq_true] at z
  obtain ⟨p, hp, e⟩ := z
  have : (kvs.find? fun p => decide (p.1 = k)).isSome = true := by
    rw [List.find?_isSome]
    exact ⟨p, hp, e⟩
  unfold lookI at h
  cases hf : kvs.find? fun p => decide (p.1 = k) with
  | none => rw [hf] at this; cases this
  | some q => rw [hf] at h; cases h
@[simp] theorem lookI_nil (k : List Int) : lookI [] k = none := rfl
/-! zip -/
def kzM1 (b : Ex) (e : En) (x : S) : R (List D) := (b e).bind (kzM x)
@[simp] theorem kzM1_eq (b : Ex) (e : En) (x : S) : kzM1 b e x = (b e).bind (kzM x) := rfl
@[simp] theorem aZipM_eq (a b : Ex) (e : En) : aZipM a b e = (a e).bind (kzM1 b e) := rfl
@[simp] theorem seqOf_l (ds : List D) : seqOf (.lst ds) = some ds := rfl
@[simp] theorem seqOf_t (ds : List D) : seqOf (.tup ds) = some ds := rfl
@[simp] theorem seqOf_s (cs : List Nat) : seqOf (.str cs) = some (cs.map fun c => D.str [c]) := rfl
theorem kzM_eq {x y : S} {ds es : List D} (h1 : seqOf x.d = some ds) (h2 : seqOf y.d = some es) : kzM x y = .ok (zipD ds es) := by unfold kzM; rw [h1, h2]
@[simp] theorem kzM_tt (a b : List D) : kzM (.val (.tup a)) (.val (.tup b)) = .ok (zipD a b) := rfl
@[simp] theorem kzM_ts (a : List D) (b : List Nat) : kzM (.val (.tup a)) (.val (.str b)) = .ok (zipD a (b.map fun c => .str [c])) := rfl
@[simp] theorem kzM_ll (a b : List D) : kzM (.val (.lst a)) (.val (.lst b)) = .ok (zipD a b) := rfl
@[simp] theorem kzM_ls (a : List D) (b : List Nat) : kzM (.val (.lst a)) (.val (.str b)) = .ok (zipD a (b.map fun c => .str [c])) := rfl
@[simp] theorem kzM_lt (a b : List D) : kzM (.val (.lst a)) (.val (.tup b)) = .ok (zipD a b) := rfl
@[simp] theorem kzM_tl (a b : List D) : kzM (.val (.tup a)) (.val (.lst b)) = .ok (zipD a b) := rfl
theorem zipD_map {α β : Type} (f : α → D) (g : β → D) : ∀ (xs : List α) (ys : List β), zipD (xs.map f) (ys.map g) = (xs.zip ys).map fun p => .tup [f p.1, g p.2]
  | [], _ => by simp [zipD]
  | _ :: _, [] => by simp [zipD]
  | x :: xs, y :: ys => by simp [zipD, zipD_map f g xs ys]
/-! chosen things -/
@[simp] theorem cNil_eq (e : En) : cNil e = .ok [] := rfl
@[simp] theorem kc2_eq (x : S) (xs : List S) : kc2 x xs = .ok (x :: xs) := rfl
@[simp] theorem kc1_eq (r : AxS) (e : En) (x : S) : kc1 r e x = (r e).bind (kc2 x) := rfl
@[simp] theorem cCons_eq (a : Ex) (r : AxS) (e : En) : cCons a r e = (a e).bind (kc1 r e) := rfl
@[simp] theorem eSel_eq (m : AxS) (n : Ex) (e : En) : eSel m n e = (m e).bind (kSel0 n e) := rfl
@[simp] theorem kSel0_eq (n : Ex) (e : En) (ss : List S) : kSel0 n e ss = if ss.length ≤ 100 then (n e).bind (kSel ss) else .bad := rfl
def ofS (o : Option S) : R S := match o with
  | some s => .ok s
  | none => .bad
@[simp] theorem ofS_some (s : S) : ofS (some s) = .ok s := rfl
@[simp] theorem kSel_int (ss : List S) (i : Int) : kSel ss (.val (.int i)) = ofS (atI ss i) := by
  show (match atI ss i with | some s => _ | none => _) = _
  cases atI ss i <;> rfl
@[simp] theorem eFl_eq (m : Ex) (e : En) : eFl m e = (m e).bind kFl := rfl
@[simp] theorem kFl_eq (s : S) : kFl s = if s.flat = true then .ok s else .bad := rfl
end Tg

/-! Tg, part 23: the plain side of nested clears. -/
namespace Tg
open PySem L2
@[simp] theorem sClearN_eq (al sl : List Nat) (n : Nat) (a : Ex) (e : En) : sClearN al sl n a e = (a e).bind (kClN al sl n e) := rfl
@[simp] theorem kClN_lst (al sl : List Nat) (n : Nat) (e : En) (ds : List D) : kClN al sl n e (.val (.lst ds)) = if e.length ≤ n then .ok (.nx (killE sl (freeze al e))) else .bad := rfl
@[simp] theorem kClN_own (al sl : List Nat) (n : Nat) (e : En) (ds : List D) : kClN al sl n e (.own ds) = if e.length ≤ n then .ok (.nx (killE sl (freeze al e))) else .bad := rfl
@[simp] theorem kClN_jnk (al sl : List Nat) (n : Nat) (e : En) : kClN al sl n e (.val .jnk) = if e.length ≤ n then .ok (.nx (killE sl (freeze al e))) else .bad := rfl
@[simp] theorem killE_nil (e : En) : killE [] e = e := rfl
@[simp] theorem killE_cons (i : Nat) (r : List Nat) (e : En) : killE (i :: r) e = match e[i]? with
  | some (some s) => (killE r e).set i (some s.kill)
  | _ => killE r e := rfl
@[simp] theorem kill_sval (d : D) : (S.val d).kill = .val d.kill := rfl
@[simp] theorem kill_sown (ds : List D) : (S.own ds).kill = .own (D.killL ds) := rfl
@[simp] theorem kill_sdct (t : Nat) (kvs : List (List Int × D)) : (S.dct t kvs).kill = .dct t kvs := rfl
@[simp] theorem kill_non : D.kill .non = .non := by unfold D.kill; rfl
@[simp] theorem kill_bl (b : Bool) : D.kill (.bl b) = .bl b := by unfold D.kill; rfl
@[simp] theorem kill_int (i : Int) : D.kill (.int i) = .int i := by unfold D.kill; rfl
@[simp] theorem kill_str (s : List Nat) : D.kill (.str s) = .str s := by unfold D.kill; rfl
@[simp] theorem kill_scr (ns : List Int) : D.kill (.scr ns) = .scr ns := by unfold D.kill; rfl
@[simp] theorem kill_jnk : D.kill .jnk = .jnk := by unfold D.kill; rfl
@[simp] theorem kill_lst (ds : List D) : D.kill (.lst ds) = .jnk := by unfold D.kill; rfl
@[simp] theorem kill_tup (ds : List D) : D.kill (.tup ds) = .tup (D.killL ds) := by rw [D.kill]
@[simp] theorem kill_exc (c : String) (ds : List D) : D.kill (.exc c ds) = .exc c (D.killL ds) := by rw [D.kill]
@[simp] theorem killL_nil : D.killL [] = [] := by rw [D.killL]
@[simp] theorem killL_cons (d : D) (ds : List D) : D.killL (d :: ds) = d.kill :: D.killL ds := by rw [D.killL]
mutual
theorem kill_flat : ∀ d : D, d.flat = true → d.kill = d
  | .non, _ => kill_non
  | .bl b, _ => kill_bl b
  | .int i, _ => kill_int i
  | .str s, _ => kill_str s
  | .scr ns, _ => kill_scr ns
  | .jnk, h => by simp [D.flat] at h
  | .lst ds, h => by simp [D.flat] at h
  | .tup ds, h => by rw [kill_tup, killL_flat ds (by simpa [D.flat] using h)]
  | .exc c fs, h => by rw [kill_exc, killL_flat fs (by simpa [D.flat] using h)]
theorem killL_flat : ∀ ds : List D, D.flatL ds = true → D.killL ds = ds
  | [], _ => killL_nil
  | d :: r, h => by
    have h' : D.flat d = true ∧ D.flatL r = true := by simpa [D.flatL] using h
    rw [killL_cons, kill_flat d h'.1, killL_flat r h'.2]
end
@[simp] theorem killL_int (xs : List Int) : D.killL (xs.map .int) = xs.map .int := killL_flat _ (flatL_map (fun _ => rfl) xs)
@[simp] theorem killL_str (xs : List (List Nat)) : D.killL (xs.map .str) = xs.map .str := killL_flat _ (flatL_map (fun _ => rfl) xs)
@[simp] theorem sForClr_eq (t : Bool) (al sl : List Nat) (n i : Nat) (a : Ex) (e : En) : sForClr t al sl n i a e = (a e).bind (kFC t al sl n i e) := rfl
@[simp] theorem kFC_lst (t : Bool) (al sl : List Nat) (n i : Nat) (e : En) (ds : List D) : kFC t al sl n i e (.val (.lst ds)) = if i < e.length ∧ e.length ≤ n then (if ds.all (clr1 t) = true then .ok (.nx ((killE sl (freeze al e)).set i none)) else .bad) else .bad := rfl
@[simp] theorem kFC_own (t : Bool) (al sl : List Nat) (n i : Nat) (e : En) (ds : List D) : kFC t al sl n i e (.own ds) = if i < e.length ∧ e.length ≤ n then (if ds.all (clr1 t) = true then .ok (.nx ((killE sl (freeze al e)).set i none)) else .bad) else .bad := rfl
@[simp] theorem sForClrT_eq (al sl : List Nat) (n i : Nat) (a : Ex) (e : En) : sForClrT al sl n i a e = (a e).bind (kFCT al sl n i e) := rfl
@[simp] theorem kFCT_lst (al sl : List Nat) (n i : Nat) (e : En) (ds : List D) : kFCT al sl n i e (.val (.lst ds)) = if i < e.length ∧ e.length ≤ n then (if ds.all clr3 = true then .ok (.nx ((killE sl (freeze al e)).set i none)) else .bad) else .bad := rfl
@[simp] theorem kFCT_own (al sl : List Nat) (n i : Nat) (e : En) (ds : List D) : kFCT al sl n i e (.own ds) = if i < e.length ∧ e.length ≤ n then (if ds.all clr3 = true then .ok (.nx ((killE sl (freeze al e)).set i none)) else .bad) else .bad := rfl
theorem runBO_W {n : Nat} {b : Sx} {ds es : List D} {P : S → Prop} {E : D → Prop} (h : W (b ((ds.map (fun d => some (S.val d)) ++ List.replicate (n - ds.length) none).set ds.length (some (S.own es)))) (PQ (fun _ => P (.val .non)) P) E) : W (runBO n b ds es) P E := by
  unfold runBO
  cases hb : b ((ds.map (fun d => some (S.val d)) ++ List.replicate (n - ds.length) none).set ds.length (some (S.own es))) with
  | ok f =>
    rw [hb] at h
    cases f <;> exact h
  | ex d => rw [hb] at h; exact h
  | bad => rw [hb] at h; exact h
def kO3 (F : List D → List D → R S) (a b c : S) : R S := match c with
  | .own ds => if D.flatL ds = true then F [a.d, b.d] ds else .bad
  | _ => .bad
@[simp] theorem kO3_own (F : List D → List D → R S) (a b : S) (ds : List D) : kO3 F a b (.own ds) = if D.flatL ds = true then F [a.d, b.d] ds else .bad := rfl
def kO2 (F : List D → List D → R S) (m3 : Ex) (e : En) (a b : S) : R S := (m3 e).bind (kO3 F a b)
@[simp] theorem kO2_eq (F : List D → List D → R S) (m3 : Ex) (e : En) (a b : S) : kO2 F m3 e a b = (m3 e).bind (kO3 F a b) := rfl
def kO1 (F : List D → List D → R S) (m2 m3 : Ex) (e : En) (a : S) : R S := (m2 e).bind (kO2 F m3 e a)
@[simp] theorem kO1_eq (F : List D → List D → R S) (m2 m3 : Ex) (e : En) (a : S) : kO1 F m2 m3 e a = (m2 e).bind (kO2 F m3 e a) := rfl
@[simp] theorem eCall3O_eq (F : List D → List D → R S) (m1 m2 m3 : Ex) (e : En) : eCall3O F m1 m2 m3 e = (m1 e).bind (kO1 F m2 m3 e) := rfl
def kItO (c : Int) (o : Option (Option S)) : R S := match o with
  | some (some (.own ds)) => (match L2.atI ds c with
    | some d => .ok (.val d)
    | none => .bad)
  | _ => .bad
@[simp] theorem eItO_eq (i : Nat) (c : Int) (e : En) : eItO i c e = kItO c e[i]? := rfl
@[simp] theorem kItO_own (c : Int) (ds : List D) : kItO c (some (some (.own ds))) = match L2.atI ds c with
    | some d => .ok (.val d)
    | none => .bad := rfl
theorem clr_lint (t : Bool) (xs : List (List Int)) : (xs.map lint).all (clr1 t) = true := by
  rw [List.all_eq_true]
  intro d hd
  obtain ⟨x, _, rfl⟩ := List.mem_map.mp hd
  show (D.ints (x.map .int)).isSome = true
  rw [ints_map]
  rfl
@[simp] theorem sSetW_eq (i : Nat) (m : Ex) (e : En) : sSetW i m e = (m e).bind (kSW i e) := rfl
@[simp] theorem kSW_eq (i : Nat) (e : En) (s : S) : kSW i e s = if s.flat = true then .ok (.nx (e.set i (some s))) else .ok (.nx (e.set i none)) := rfl
@[simp] theorem sRaiseF_eq (nm : String) (m : Ex) (e : En) : sRaiseF nm m e = (m e).bind fun _ => .ex (.exc nm []) := rfl
def kRG (nm : String) (s : S) : R Fl := .ex (.exc nm [s.d])
@[simp] theorem kRG_eq (nm : String) (s : S) : kRG nm s = .ex (.exc nm [s.d]) := rfl
@[simp] theorem sRaiseG_eq (nm : String) (m : Ex) (e : En) : sRaiseG nm m e = (m e).bind (kRG nm) := rfl
def kFld (nm : String) (s : S) : R S := match s.d with
  | .exc c [d] => if c = nm then .ok (.val d) else .bad
  | _ => .bad
@[simp] theorem kFld_eq (nm c : String) (d : D) : kFld nm (.val (.exc c [d])) = if c = nm then .ok (.val d) else .bad := rfl
@[simp] theorem eFld_eq (nm : String) (m : Ex) (e : En) : eFld nm m e = (m e).bind (kFld nm) := rfl
def kDS1 (i : Nat) (v : Ex) (e : En) (k : S) : R Fl := (v e).bind (kDS2 i e k)
@[simp] theorem kDS1_eq (i : Nat) (v : Ex) (e : En) (k : S) : kDS1 i v e k = (v e).bind (kDS2 i e k) := rfl
@[simp] theorem sDSet1_eq (i : Nat) (k v : Ex) (e : En) : sDSet1 i k v e = (k e).bind (kDS1 i v e) := rfl
theorem kDS2_tup (i : Nat) (e : En) (ns : List Int) (v : S) : kDS2 i e (.val (.tup (ns.map .int))) v = if v.d.flat = true then .ok (.nx (e.set i (some (.dct 1 [(ns, v.d)])))) else .bad := by
  unfold kDS2
  show (match D.ints (ns.map .int) with | some g => _ | none => _) = _
  rw [ints_map]
end Tg

namespace Tg
open PySem PySem.Spec PyProof.Rows L2
abbrev topS (i : Nat) : Stmt := PySem.Challenge.pw_tonguerank_k06_what_is_no_ranking.main.body.getD i (.Pass ⟨0, 0, 0, 0⟩)
/-! look_ranking -/
abbrev st_look_ranking : Stmt := topS 17
def body_look_ranking : Sx := (sIf (tOr (tVal (eOp2 oNe (eOp1 oLen (eVar 0)) (eVar 1))) (tVal (eOp2 oNe (eOp1 oSorted (eVar 0)) (eRg1 mkO (eVar 1))))) (sRaise "NoRanking") sNop)
def F_look_ranking : List D → R S := runB 2 body_look_ranking
theorem sc_look_ranking : FnScope ["ranking", "count"] ["ranking", "count"] (defScope st_look_ranking) := ⟨rfl, rfl, rfl, by decide +kernel, rfl, by decide +kernel, by decide +kernel⟩
theorem ok_look_ranking {P : Program} {w : World} {K : PySem.W.Frag} {mg : Str → Option Value} {base : Heap} {f : Addr} {fd : FuncData} (h : Has K mg "look_ranking" st_look_ranking ["ranking", "count"] f fd) (z_len : mg "len" = none) (z_list : mg "list" = none) (z_range : mg "range" = none) (z_sorted : mg "sorted" = none) {C_NoRanking : Addr} (E_NoRanking : Exc1 K mg "NoRanking" C_NoRanking) : Cal P w K mg base (XR K) 1 "look_ranking" F_look_ranking 2 := by
  refine def_cal (N := ["ranking", "count"]) h sc_look_ranking rfl fun cdv A outer s H E Z0 hr => ?_
  have hu := Hu hr
  exact (b_one (s_if (t_w (w_or (t_ne hu (x_len z_len (x_var 0)) (x_var 1)) (w_or1 (t_ne hu (x_sorted z_sorted (x_var 0)) (x_listRg1 rfl z_list z_range (x_var 1)))))) (b_one (s_raise E_NoRanking rfl (takes_of rfl rfl rfl rfl) (fun _ _ _ _ _ z => z))) b_nil))
/-! beats -/
abbrev st_beats : Stmt := topS 18
def body_beats : Sx := (sSeq (sDrop (eCall F_look_ranking (aCons (eVar 0) (aCons (eOp1 oLen (eVar 1)) aNil))))
  (sSeq (sFor [0] (aIter (eVar 0)) (gName 3) (sIf (tVal (eOp2 oNe (eOp2 oItem (eVar 1) (eVar 3)) (eOp2 oItem (eVar 2) (eVar 3)))) (sRet (eOp2 oLt (eOp2 oItem (eVar 1) (eVar 3)) (eOp2 oItem (eVar 2) (eVar 3)))) sNop))
  (sRet (eBl false))))
def F_beats : List D → R S := runB 4 body_beats
theorem sc_beats : FnScope ["ranking", "one", "two", "wish"] ["ranking", "one", "two"] (defScope st_beats) := ⟨rfl, rfl, rfl, by decide +kernel, rfl, by decide +kernel, by decide +kernel⟩
theorem ok_beats {P : Program} {w : World} {K : PySem.W.Frag} {mg : Str → Option Value} {base : Heap} {f : Addr} {fd : FuncData} (h : Has K mg "beats" st_beats ["ranking", "one", "two"] f fd) (C_look_ranking : Cal P w K mg base (XR K) 1 "look_ranking" F_look_ranking 2) (z_len : mg "len" = none) : Cal P w K mg base (XR K) 2 "beats" F_beats 3 := by
  refine def_cal (N := ["ranking", "one", "two", "wish"]) h sc_beats rfl fun cdv A outer s H E Z0 hr => ?_
  have hu := Hu hr
  exact (b_cons (s_drop (x_cal C_look_ranking hr (by decide) (takes_of rfl rfl rfl rfl) (fun _ _ _ _ _ z => z) (a_cons (x_var 0) (a_cons (x_len z_len (x_var 1)) a_nil)) (aLen_cons (aLen_cons aLen_nil))))
  (b_cons (s_for 0 (passes_of rfl) rfl (i_seq (x_var 0)) (g_name sc_beats.nd) (b_one (s_if (t_ne hu (x_item (x_var 1) (x_var 3)) (x_item (x_var 2) (x_var 3))) (b_one (s_ret (x_lt hu (x_item (x_var 1) (x_var 3)) (x_item (x_var 2) (x_var 3))))) b_nil)))
  (b_one (s_ret x_bl))))
/-! best -/
abbrev st_best : Stmt := topS 19
def body_best : Sx := (sSeq (sDrop (eCall F_look_ranking (aCons (eVar 0) (aCons (eOp1 oLen (eOp2 oItem (eVar 1) (eInt 0))) aNil))))
  (sSeq (sSet [] 2 (eLst aNil))
  (sSeq (sFor [] (aRange1 (eOp1 oLen (eVar 1))) (gName 3) (sIf (tNot (tVal (eOp1 oAny (eComp [1] [4] (aIter (eVar 1)) (gName 4) tTrue (eCall F_beats (aCons (eVar 0) (aCons (eVar 4) (aCons (eOp2 oItem (eVar 1) (eVar 3)) aNil)))))))) (sOwn [3] 2 fAppend (eVar 3)) sNop))
  (sRetV 2))))
def F_best : List D → R S := runB 5 body_best
theorem sc_best : FnScope ["ranking", "word", "found", "k", "other"] ["ranking", "word"] (defScope st_best) := ⟨rfl, rfl, rfl, by decide +kernel, rfl, by decide +kernel, by decide +kernel⟩
theorem ok_best {P : Program} {w : World} {K : PySem.W.Frag} {mg : Str → Option Value} {base : Heap} {f : Addr} {fd : FuncData} (h : Has K mg "best" st_best ["ranking", "word"] f fd) (C_beats : Cal P w K mg base (XR K) 2 "beats" F_beats 3) (C_look_ranking : Cal P w K mg base (XR K) 1 "look_ranking" F_look_ranking 2) (z_any : mg "any" = none) (z_len : mg "len" = none) (z_range : mg "range" = none) : Cal P w K mg base (XR K) 3 "best" F_best 2 := by
  refine def_cal (N := ["ranking", "word", "found", "k", "other"]) h sc_best rfl fun cdv A outer s H E Z0 hr => ?_
  have hu := Hu hr
  exact (b_cons (s_drop (x_cal C_look_ranking hr (by decide) (takes_of rfl rfl rfl rfl) (fun _ _ _ _ _ z => z) (a_cons (x_var 0) (a_cons (x_len z_len (x_item (x_var 1) x_int)) a_nil)) (aLen_cons (aLen_cons aLen_nil))))
  (b_cons (s_set 2 sc_best.nd (x_lst a_nil aLen_nil))
  (b_cons (s_for 0 (passes_of rfl) rfl (i_range1 z_range (x_len z_len (x_var 1))) (g_name sc_best.nd) (b_one (s_if (t_not (t_val (x_any rfl z_any (x_comp 0 (k_name 4) rfl sc_best.nd (i_seq (x_var 1)) (blkOk_by (own := [("other", 4)]) rfl) (fun _ _ _ _ _ => (g_name sc_best.nd)) (fun _ _ _ _ _ => ts_nil) (fun _ _ _ _ _ => (x_cal C_beats hr (by decide) takes0 (fun _ _ _ _ _ _ => trivial) (a_cons (x_var 0) (a_cons (x_var 4) (a_cons (x_item (x_var 1) (x_var 3)) a_nil))) (aLen_cons (aLen_cons (aLen_cons aLen_nil))))))))) (b_one (s_append 2 (x_var 3))) b_nil)))
  (b_one (s_retV 2)))))
/-! added -/
abbrev st_added : Stmt := topS 21
def body_added : Sx := (sRet (eOp1 oTuple (eComp [0, 1] [2, 3] (aZipM (eVar 0) (eVar 1)) (gTup 2 (gCons (gName 2) (gCons (gName 3) gNil))) tTrue (eOp2 oAdd (eVar 2) (eVar 3)))))
def F_added : List D → R S := runB 4 body_added
theorem sc_added : FnScope ["one", "two", "here", "there"] ["one", "two"] (defScope st_added) := ⟨rfl, rfl, rfl, by decide +kernel, rfl, by decide +kernel, by decide +kernel⟩
theorem ok_added {P : Program} {w : World} {K : PySem.W.Frag} {mg : Str → Option Value} {base : Heap} {f : Addr} {fd : FuncData} (h : Has K mg "added" st_added ["one", "two"] f fd) (z_tuple : mg "tuple" = none) (z_zip : mg "zip" = none) : Cal P w K mg base (XR K) 1 "added" F_added 2 := by
  refine def_cal (N := ["one", "two", "here", "there"]) h sc_added rfl fun cdv A outer s H E Z0 hr => ?_
  have hu := Hu hr
  exact (b_one (s_ret (x_tuple z_tuple (x_comp 0 (k_tup (ks_cons (k_name 2) (ks_cons (k_name 3) ks_nil))) rfl sc_added.nd (i_zipM z_zip (x_var 0) (x_var 1)) (blkOk_by (own := [("here", 2), ("there", 3)]) rfl) (fun _ _ _ _ _ => (g_tup rfl (gs_cons (g_name sc_added.nd) (gs_cons (g_name sc_added.nd) gs_nil)))) (fun _ _ _ _ _ => ts_nil) (fun _ _ _ _ _ => (x_add (x_var 2) (x_var 3)))))))
/-! spread -/
abbrev st_spread : Stmt := topS 22
def body_spread : Sx := (sSeq (sSet [1] 3 (eComp [1] [11] (aIter (eOp2 oItem (eVar 1) (eInt 0))) (gName 11) tTrue eNon))
  (sSeq (sItem [] 3 (eTup (aCons (eOp1 oTuple (eComp [] [12] (aRange1 (eVar 0)) (gName 12) tTrue (eInt 0))) (aCons eNon aNil))) (eInt 0))
  (sSeq (sSet [] 4 (eBl true))
  (sSeq (sWhile 5000 (tVal (eVar 4)) (sSeq (sSet [] 4 (eBl false))
  (sFor [] (aRange1 (eOp1 oLen (eOp2 oItem (eVar 1) (eInt 1)))) (gName 5) (sSeq (sAsg [1, 5] (gTup 4 (gCons (gName 6) (gCons (gName 7) (gCons (gName 8) (gCons (gName 9) gNil))))) (eOp2 oItem (eOp2 oItem (eVar 1) (eInt 1)) (eVar 5)))
  (sIf (tVal (eOp1 oNotN (eOp2 oItem (eVar 3) (eVar 6)))) (sSeq (sSet [3, 6, 9] 10 (eCall F_added (aCons (eOp2 oItem (eOp2 oItem (eVar 3) (eVar 6)) (eInt 0)) (aCons (eVar 9) aNil))))
  (sIf (tOr (tVal (eOp1 oIsN (eOp2 oItem (eVar 3) (eVar 7)))) (tVal (eCall F_beats (aCons (eVar 2) (aCons (eVar 10) (aCons (eOp2 oItem (eOp2 oItem (eVar 3) (eVar 7)) (eInt 0)) aNil)))))) (sSeq (sItem [10, 5] 3 (eTup (aCons (eVar 10) (aCons (eVar 5) aNil))) (eVar 7))
  (sSet [] 4 (eBl true))) sNop)) sNop)))))
  (sRetV 3)))))
def F_spread : List D → R S := runB 13 body_spread
theorem sc_spread : FnScope ["count", "machine", "ranking", "found", "again", "k", "here", "there", "text", "marks", "sums", "room", "wish"] ["count", "machine", "ranking"] (defScope st_spread) := ⟨rfl, rfl, rfl, by decide +kernel, rfl, by decide +kernel, by decide +kernel⟩
theorem ok_spread {P : Program} {w : World} {K : PySem.W.Frag} {mg : Str → Option Value} {base : Heap} {f : Addr} {fd : FuncData} (h : Has K mg "spread" st_spread ["count", "machine", "ranking"] f fd) (C_added : Cal P w K mg base (XR K) 1 "added" F_added 2) (C_beats : Cal P w K mg base (XR K) 2 "beats" F_beats 3) (z_len : mg "len" = none) (z_range : mg "range" = none) (z_tuple : mg "tuple" = none) : Cal P w K mg base (XR K) 3 "spread" F_spread 3 := by
  refine def_cal (N := ["count", "machine", "ranking", "found", "again", "k", "here", "there", "text", "marks", "sums", "room", "wish"]) h sc_spread rfl fun cdv A outer s H E Z0 hr => ?_
  have hu := Hu hr
  exact (b_cons (s_setLc 3 0 (k_name 11) rfl sc_spread.nd (i_seq (x_item (x_var 1) x_int)) (blkOk_by (own := [("room", 11)]) rfl) (fun _ _ _ _ _ => (g_name sc_spread.nd)) (fun _ _ _ _ _ => ts_nil) (fun _ _ _ _ _ => x_non) (by rfl))
  (b_cons (s_item 3 (x_tup (a_cons (x_tuple z_tuple (x_comp 0 (k_name 12) rfl sc_spread.nd (i_range1 z_range (x_var 0)) (blkOk_by (own := [("wish", 12)]) rfl) (fun _ _ _ _ _ => (g_name sc_spread.nd)) (fun _ _ _ _ _ => ts_nil) (fun _ _ _ _ _ => x_int))) (a_cons x_non a_nil)) (aLen_cons (aLen_cons aLen_nil))) x_int)
  (b_cons (s_set 4 sc_spread.nd x_bl)
  (b_cons (s_while 5000 (passes_of rfl) (t_val (x_var 4)) (b_cons (s_set 4 sc_spread.nd x_bl)
  (b_one (s_for 0 (passes_of rfl) rfl (i_range1 z_range (x_len z_len (x_item (x_var 1) x_int))) (g_name sc_spread.nd) (b_cons (s_asg 0 (x_item (x_item (x_var 1) x_int) (x_var 5)) (g_tup rfl (gs_cons (g_name sc_spread.nd) (gs_cons (g_name sc_spread.nd) (gs_cons (g_name sc_spread.nd) (gs_cons (g_name sc_spread.nd) gs_nil))))))
  (b_one (s_if (t_notN (x_item (x_var 3) (x_var 6))) (b_cons (s_set 10 sc_spread.nd (x_cal C_added hr (by decide) (takes_of rfl rfl rfl rfl) (fun _ _ _ _ _ z => z) (a_cons (x_item (x_item (x_var 3) (x_var 6)) x_int) (a_cons (x_var 9) a_nil)) (aLen_cons (aLen_cons aLen_nil))))
  (b_one (s_if (t_w (w_or (t_isN (x_item (x_var 3) (x_var 7))) (w_or1 (t_val (x_cal C_beats hr (by decide) (takes_of rfl rfl rfl rfl) (fun _ _ _ _ _ z => z) (a_cons (x_var 2) (a_cons (x_var 10) (a_cons (x_item (x_item (x_var 3) (x_var 7)) x_int) a_nil))) (aLen_cons (aLen_cons (aLen_cons aLen_nil)))))))) (b_cons (s_item 3 (x_tup (a_cons (x_var 10) (a_cons (x_var 5) a_nil)) (aLen_cons (aLen_cons aLen_nil))) (x_var 7))
  (b_one (s_set 4 sc_spread.nd x_bl))) b_nil))) b_nil)))))))
  (b_one (s_retV 3))))))
/-! way_to -/
abbrev st_way_to : Stmt := topS 23
def body_way_to : Sx := (sSeq (sSet [] 3 (eLst aNil))
  (sSeq (sWhile 5000 (tVal (eOp1 oNotN (eOp2 oItem (eOp2 oItem (eVar 1) (eVar 2)) (eInt 1)))) (sSeq (sSet [1, 2, 3] 3 (eOp2 oAdd (eLst (aCons (eOp2 oItem (eOp2 oItem (eVar 1) (eVar 2)) (eInt 1)) aNil)) (eVar 3)))
  (sSet [0, 3] 2 (eOp2 oItem (eOp2 oItem (eOp2 oItem (eVar 0) (eInt 1)) (eOp2 oItem (eVar 3) (eInt 0))) (eInt 0)))))
  (sRetV 3)))
def F_way_to : List D → R S := runB 4 body_way_to
theorem sc_way_to : FnScope ["machine", "found", "room", "walk"] ["machine", "found", "room"] (defScope st_way_to) := ⟨rfl, rfl, rfl, by decide +kernel, rfl, by decide +kernel, by decide +kernel⟩
theorem ok_way_to {P : Program} {w : World} {K : PySem.W.Frag} {mg : Str → Option Value} {base : Heap} {f : Addr} {fd : FuncData} (h : Has K mg "way_to" st_way_to ["machine", "found", "room"] f fd) : Cal P w K mg base (XR K) 1 "way_to" F_way_to 3 := by
  refine def_cal (N := ["machine", "found", "room", "walk"]) h sc_way_to rfl fun cdv A outer s H E Z0 hr => ?_
  have hu := Hu hr
  exact (b_cons (s_set 3 sc_way_to.nd (x_lst a_nil aLen_nil))
  (b_cons (s_while 5000 (passes_of rfl) (t_notN (x_item (x_item (x_var 1) (x_var 2)) x_int)) (b_cons (s_set 3 sc_way_to.nd (x_add (x_lst (a_cons (x_item (x_item (x_var 1) (x_var 2)) x_int) a_nil) (aLen_cons aLen_nil)) (x_var 3)))
  (b_one (s_set 2 sc_way_to.nd (x_item (x_item (x_item (x_var 0) x_int) (x_item (x_var 3) x_int)) x_int)))))
  (b_one (s_retV 3))))
/-! best_walk -/
abbrev st_best_walk : Stmt := topS 24
def body_best_walk : Sx := (sSeq (sSet [] 3 (eOp1 oTuple (eComp [] [9] (aRange1 (eVar 0)) (gName 9) tTrue (eInt 0))))
  (sSeq (sDrop (eCall F_beats (aCons (eVar 2) (aCons (eVar 3) (aCons (eVar 3) aNil)))))
  (sSeq (sSet [0, 1, 2] 4 (eCall F_spread (aCons (eVar 0) (aCons (eVar 1) (aCons (eVar 2) aNil)))))
  (sSeq (sSet [] 5 eNon)
  (sSeq (sFor [] (aRange1 (eOp1 oLen (eVar 4))) (gName 6) (sIf (tAnd (tVal (eOp2 oItem (eOp2 oItem (eVar 1) (eInt 0)) (eVar 6))) (tVal (eOp1 oNotN (eOp2 oItem (eVar 4) (eVar 6))))) (sIf (tOr (tVal (eOp1 oIsN (eVar 5))) (tVal (eCall F_beats (aCons (eVar 2) (aCons (eOp2 oItem (eOp2 oItem (eVar 4) (eVar 6)) (eInt 0)) (aCons (eOp2 oItem (eOp2 oItem (eVar 4) (eVar 5)) (eInt 0)) aNil)))))) (sSet [6] 5 (eVar 6)) sNop) sNop))
  (sSeq (sIf (tVal (eOp1 oIsN (eVar 5))) (sRet eNon) sNop)
  (sSeq (sSet [] 7 (eLst aNil))
  (sSeq (sFor [4] (aIter (eVar 4)) (gName 8) (sIf (tVal (eOp1 oIsN (eVar 8))) (sOwn [] 7 fAppend eNon) (sOwn [8] 7 fAppend (eOp2 oItem (eVar 8) (eInt 0)))))
  (sRet (eTup (aCons (eOp2 oItem (eOp2 oItem (eVar 4) (eVar 5)) (eInt 0)) (aCons (eCall F_way_to (aCons (eVar 1) (aCons (eVar 4) (aCons (eVar 5) aNil)))) (aCons (eVar 7) aNil)))))))))))))
def F_best_walk : List D → R S := runB 10 body_best_walk
theorem sc_best_walk : FnScope ["count", "machine", "ranking", "none", "found", "chosen", "room", "costs", "row", "wish"] ["count", "machine", "ranking"] (defScope st_best_walk) := ⟨rfl, rfl, rfl, by decide +kernel, rfl, by decide +kernel, by decide +kernel⟩
theorem ok_best_walk {P : Program} {w : World} {K : PySem.W.Frag} {mg : Str → Option Value} {base : Heap} {f : Addr} {fd : FuncData} (h : Has K mg "best_walk" st_best_walk ["count", "machine", "ranking"] f fd) (C_beats : Cal P w K mg base (XR K) 2 "beats" F_beats 3) (C_spread : Cal P w K mg base (XR K) 3 "spread" F_spread 3) (C_way_to : Cal P w K mg base (XR K) 1 "way_to" F_way_to 3) (z_len : mg "len" = none) (z_range : mg "range" = none) (z_tuple : mg "tuple" = none) : Cal P w K mg base (XR K) 4 "best_walk" F_best_walk 3 := by
  refine def_cal (N := ["count", "machine", "ranking", "none", "found", "chosen", "room", "costs", "row", "wish"]) h sc_best_walk rfl fun cdv A outer s H E Z0 hr => ?_
  have hu := Hu hr
  exact (b_cons (s_set 3 sc_best_walk.nd (x_tuple z_tuple (x_comp 0 (k_name 9) rfl sc_best_walk.nd (i_range1 z_range (x_var 0)) (blkOk_by (own := [("wish", 9)]) rfl) (fun _ _ _ _ _ => (g_name sc_best_walk.nd)) (fun _ _ _ _ _ => ts_nil) (fun _ _ _ _ _ => x_int))))
  (b_cons (s_drop (x_cal C_beats hr (by decide) (takes_of rfl rfl rfl rfl) (fun _ _ _ _ _ z => z) (a_cons (x_var 2) (a_cons (x_var 3) (a_cons (x_var 3) a_nil))) (aLen_cons (aLen_cons (aLen_cons aLen_nil)))))
  (b_cons (s_set 4 sc_best_walk.nd (x_cal C_spread hr (by decide) (takes_of rfl rfl rfl rfl) (fun _ _ _ _ _ z => z) (a_cons (x_var 0) (a_cons (x_var 1) (a_cons (x_var 2) a_nil))) (aLen_cons (aLen_cons (aLen_cons aLen_nil)))))
  (b_cons (s_set 5 sc_best_walk.nd x_non)
  (b_cons (s_for 0 (passes_of rfl) rfl (i_range1 z_range (x_len z_len (x_var 4))) (g_name sc_best_walk.nd) (b_one (s_if (t_w (w_and (t_val (x_item (x_item (x_var 1) x_int) (x_var 6))) (w_and1 (t_notN (x_item (x_var 4) (x_var 6)))))) (b_one (s_if (t_w (w_or (t_isN (x_var 5)) (w_or1 (t_val (x_cal C_beats hr (by decide) (takes_of rfl rfl rfl rfl) (fun _ _ _ _ _ z => z) (a_cons (x_var 2) (a_cons (x_item (x_item (x_var 4) (x_var 6)) x_int) (a_cons (x_item (x_item (x_var 4) (x_var 5)) x_int) a_nil))) (aLen_cons (aLen_cons (aLen_cons aLen_nil)))))))) (b_one (s_set 5 sc_best_walk.nd (x_var 6))) b_nil)) b_nil)))
  (b_cons (s_if (t_isN (x_var 5)) (b_one (s_ret x_non)) b_nil)
  (b_cons (s_set 7 sc_best_walk.nd (x_lst a_nil aLen_nil))
  (b_cons (s_for 0 (passes_of rfl) rfl (i_seq (x_var 4)) (g_name sc_best_walk.nd) (b_one (s_if (t_isN (x_var 8)) (b_one (s_append 7 x_non)) (b_one (s_append 7 (x_item (x_var 8) x_int))))))
  (b_one (s_ret (x_tup (a_cons (x_item (x_item (x_var 4) (x_var 5)) x_int) (a_cons (x_cal C_way_to hr (by decide) (takes_of rfl rfl rfl rfl) (fun _ _ _ _ _ z => z) (a_cons (x_var 1) (a_cons (x_var 4) (a_cons (x_var 5) a_nil))) (aLen_cons (aLen_cons (aLen_cons aLen_nil)))) (a_cons (x_var 7) a_nil))) (aLen_cons (aLen_cons (aLen_cons aLen_nil))))))))))))))
/-! fits -/
abbrev st_fits : Stmt := topS 28
def body_fits : Sx := (sSeq (sDrop (eCall F_look_ranking (aCons (eVar 0) (aCons (eOp1 oLen (eVar 1)) aNil))))
  (sSeq (sFor [0] (aIter (eVar 0)) (gName 2) (sIf (tVal (eOp2 oNe (eOp2 oItem (eVar 1) (eVar 2)) (eStr [101]))) (sRet (eOp2 oEq (eOp2 oItem (eVar 1) (eVar 2)) (eStr [87]))) sNop))
  (sRet (eBl true))))
def F_fits : List D → R S := runB 3 body_fits
theorem sc_fits : FnScope ["ranking", "row", "wish"] ["ranking", "row"] (defScope st_fits) := ⟨rfl, rfl, rfl, by decide +kernel, rfl, by decide +kernel, by decide +kernel⟩
theorem ok_fits {P : Program} {w : World} {K : PySem.W.Frag} {mg : Str → Option Value} {base : Heap} {f : Addr} {fd : FuncData} (h : Has K mg "fits" st_fits ["ranking", "row"] f fd) (C_look_ranking : Cal P w K mg base (XR K) 1 "look_ranking" F_look_ranking 2) (z_len : mg "len" = none) : Cal P w K mg base (XR K) 2 "fits" F_fits 2 := by
  refine def_cal (N := ["ranking", "row", "wish"]) h sc_fits rfl fun cdv A outer s H E Z0 hr => ?_
  have hu := Hu hr
  exact (b_cons (s_drop (x_cal C_look_ranking hr (by decide) (takes_of rfl rfl rfl rfl) (fun _ _ _ _ _ z => z) (a_cons (x_var 0) (a_cons (x_len z_len (x_var 1)) a_nil)) (aLen_cons (aLen_cons aLen_nil))))
  (b_cons (s_for 0 (passes_of rfl) rfl (i_seq (x_var 0)) (g_name sc_fits.nd) (b_one (s_if (t_ne hu (x_item (x_var 1) (x_var 2)) (x_str [101])) (b_one (s_ret (x_eq hu (x_item (x_var 1) (x_var 2)) (x_str [87])))) b_nil)))
  (b_one (s_ret x_bl))))
/-! row_of -/
abbrev st_row_of : Stmt := topS 27
def body_row_of : Sx := (sSeq (sSet [] 2 (eStr []))
  (sSeq (sFor [0, 1] (aZipM (eVar 0) (eVar 1)) (gTup 2 (gCons (gName 3) (gCons (gName 4) gNil))) (sSet [2] 2 (eOp2 oAdd (eVar 2) (eOp2 oItem (eStr [87, 101, 76]) (eOp2 oAdd (eOp1 oInt (eOp2 oGe (eVar 3) (eVar 4))) (eOp1 oInt (eOp2 oGt (eVar 3) (eVar 4))))))))
  (sRetV 2)))
def F_row_of : List D → R S := runB 5 body_row_of
theorem sc_row_of : FnScope ["one", "two", "found", "mine", "theirs"] ["one", "two"] (defScope st_row_of) := ⟨rfl, rfl, rfl, by decide +kernel, rfl, by decide +kernel, by decide +kernel⟩
theorem ok_row_of {P : Program} {w : World} {K : PySem.W.Frag} {mg : Str → Option Value} {base : Heap} {f : Addr} {fd : FuncData} (h : Has K mg "row_of" st_row_of ["one", "two"] f fd) (z_int : mg "int" = none) (z_zip : mg "zip" = none) {t_SIGNS : Tok} (c_SIGNS : mg "SIGNS" = some (.str "WeL" t_SIGNS)) : Cal P w K mg base (XR K) 1 "row_of" F_row_of 2 := by
  refine def_cal (N := ["one", "two", "found", "mine", "theirs"]) h sc_row_of rfl fun cdv A outer s H E Z0 hr => ?_
  have hu := Hu hr
  exact (b_cons (s_set 2 sc_row_of.nd (x_str []))
  (b_cons (s_for 0 (passes_of rfl) rfl (i_zipM z_zip (x_var 0) (x_var 1)) (g_tup rfl (gs_cons (g_name sc_row_of.nd) (gs_cons (g_name sc_row_of.nd) gs_nil))) (b_one (s_set 2 sc_row_of.nd (x_add (x_var 2) (x_item (x_gstr [87, 101, 76] c_SIGNS (by decide +kernel)) (x_add (x_toInt z_int (x_ge (x_var 3) (x_var 4))) (x_toInt z_int (x_gt (x_var 3) (x_var 4)))))))))
  (b_one (s_retV 2))))
/-! tongue -/
abbrev st_tongue : Stmt := topS 30
def body_tongue : Sx := (sRet (eOp1 oTuple (eCompX [1] [2] (aIter (eVar 1)) (gName 2) tTrue (eOp1 oTuple (eCall F_best (aCons (eVar 0) (aCons (eVar 2) aNil)))))))
def F_tongue : List D → R S := runB 3 body_tongue
theorem sc_tongue : FnScope ["ranking", "words", "word"] ["ranking", "words"] (defScope st_tongue) := ⟨rfl, rfl, rfl, by decide +kernel, rfl, by decide +kernel, by decide +kernel⟩
theorem ok_tongue {P : Program} {w : World} {K : PySem.W.Frag} {mg : Str → Option Value} {base : Heap} {f : Addr} {fd : FuncData} (h : Has K mg "tongue" st_tongue ["ranking", "words"] f fd) (C_best : Cal P w K mg base (XR K) 3 "best" F_best 2) (z_tuple : mg "tuple" = none) : Cal P w K mg base (XR K) 4 "tongue" F_tongue 2 := by
  refine def_cal (N := ["ranking", "words", "word"]) h sc_tongue rfl fun cdv A outer s H E Z0 hr => ?_
  have hu := Hu hr
  exact (b_one (s_ret (x_tuple z_tuple (x_compX 0 (k_name 2) (takes_of rfl rfl rfl rfl) rfl rfl rfl sc_tongue.nd (i_seq (x_var 1)) (blkOk_by (own := [("word", 2)]) rfl) (fun _ _ _ _ _ => (g_name sc_tongue.nd)) (fun _ _ _ _ _ => ts_nil) (fun _ _ _ _ _ _ _ tkb => (x_tuple z_tuple (x_calB C_best hr (by decide) tkb (fun _ _ _ _ _ z => z) (a_cons (x_var 0) (a_cons (x_var 2) a_nil)) (aLen_cons (aLen_cons aLen_nil)))))))))
/-! _law_asked -/
abbrev st__law_asked : Stmt := topS 39
def body__law_asked : Sx := (sSeq (sIf (tVal (eOp2 oEq (eVar 0) (eInt 0))) (sRet (eCall F_beats (aCons (eVar 1) (aCons (eOp2 oItem (eVar 2) (eInt 0)) (aCons (eOp2 oItem (eVar 2) (eInt 1)) aNil))))) sNop)
  (sSeq (sIf (tVal (eOp2 oEq (eVar 0) (eInt 1))) (sRet (eCall F_best (aCons (eVar 1) (aCons (eVar 2) aNil)))) sNop)
  (sSeq (sIf (tVal (eOp2 oEq (eVar 0) (eInt 2))) (sRet (eCall F_fits (aCons (eVar 1) (aCons (eCall F_row_of (aCons (eOp2 oItem (eVar 2) (eInt 0)) (aCons (eOp2 oItem (eVar 2) (eInt 1)) aNil))) aNil)))) sNop)
  (sSeq (sIf (tVal (eOp2 oEq (eVar 0) (eInt 3))) (sRet (eCall F_tongue (aCons (eVar 1) (aCons (eLst (aCons (eSl (eVar 2) pNone (pSome (eInt 5))) (aCons (eSl (eVar 2) pNone (pSome (eInt 1))) aNil))) aNil)))) sNop)
  (sRet (eCall F_best_walk (aCons (eOp1 oLen (eOp2 oItem (eVar 2) (eInt 0))) (aCons (eTup (aCons (eTup (aCons (eOp2 oEq (eVar 0) (eInt 4)) aNil)) (aCons (eTup aNil) aNil))) (aCons (eVar 1) aNil)))))))))
def F__law_asked : List D → R S := runB 3 body__law_asked
theorem sc__law_asked : FnScope ["_law_which", "_law_ranking_here", "_law_word_here"] ["_law_which", "_law_ranking_here", "_law_word_here"] (defScope st__law_asked) := ⟨rfl, rfl, rfl, by decide +kernel, rfl, by decide +kernel, by decide +kernel⟩
theorem ok__law_asked {P : Program} {w : World} {K : PySem.W.Frag} {mg : Str → Option Value} {base : Heap} {f : Addr} {fd : FuncData} (h : Has K mg "_law_asked" st__law_asked ["_law_which", "_law_ranking_here", "_law_word_here"] f fd) (C_beats : Cal P w K mg base (XR K) 2 "beats" F_beats 3) (C_best : Cal P w K mg base (XR K) 3 "best" F_best 2) (C_best_walk : Cal P w K mg base (XR K) 4 "best_walk" F_best_walk 3) (C_fits : Cal P w K mg base (XR K) 2 "fits" F_fits 2) (C_row_of : Cal P w K mg base (XR K) 1 "row_of" F_row_of 2) (C_tongue : Cal P w K mg base (XR K) 4 "tongue" F_tongue 2) (z_len : mg "len" = none) : Cal P w K mg base (XR K) 5 "_law_asked" F__law_asked 3 := by
  refine def_cal (N := ["_law_which", "_law_ranking_here", "_law_word_here"]) h sc__law_asked rfl fun cdv A outer s H E Z0 hr => ?_
  have hu := Hu hr
  exact (b_cons (s_if (t_eq hu (x_var 0) x_int) (b_one (s_ret (x_cal C_beats hr (by decide) (takes_of rfl rfl rfl rfl) (fun _ _ _ _ _ z => z) (a_cons (x_var 1) (a_cons (x_item (x_var 2) x_int) (a_cons (x_item (x_var 2) x_int) a_nil))) (aLen_cons (aLen_cons (aLen_cons aLen_nil)))))) b_nil)
  (b_cons (s_if (t_eq hu (x_var 0) x_int) (b_one (s_ret (x_cal C_best hr (by decide) (takes_of rfl rfl rfl rfl) (fun _ _ _ _ _ z => z) (a_cons (x_var 1) (a_cons (x_var 2) a_nil)) (aLen_cons (aLen_cons aLen_nil))))) b_nil)
  (b_cons (s_if (t_eq hu (x_var 0) x_int) (b_one (s_ret (x_cal C_fits hr (by decide) (takes_of rfl rfl rfl rfl) (fun _ _ _ _ _ z => z) (a_cons (x_var 1) (a_cons (x_cal C_row_of hr (by decide) (takes_of rfl rfl rfl rfl) (fun _ _ _ _ _ z => z) (a_cons (x_item (x_var 2) x_int) (a_cons (x_item (x_var 2) x_int) a_nil)) (aLen_cons (aLen_cons aLen_nil))) a_nil)) (aLen_cons (aLen_cons aLen_nil))))) b_nil)
  (b_cons (s_if (t_eq hu (x_var 0) x_int) (b_one (s_ret (x_cal C_tongue hr (by decide) (takes_of rfl rfl rfl rfl) (fun _ _ _ _ _ z => z) (a_cons (x_var 1) (a_cons (x_lst (a_cons (x_sl (x_var 2) p_none (p_some x_int)) (a_cons (x_sl (x_var 2) p_none (p_some x_int)) a_nil)) (aLen_cons (aLen_cons aLen_nil))) a_nil)) (aLen_cons (aLen_cons aLen_nil))))) b_nil)
  (b_one (s_ret (x_cal C_best_walk hr (by decide) (takes_of rfl rfl rfl rfl) (fun _ _ _ _ _ z => z) (a_cons (x_len z_len (x_item (x_var 2) x_int)) (a_cons (x_tup (a_cons (x_tup (a_cons (x_eq hu (x_var 0) x_int) a_nil) (aLen_cons aLen_nil)) (a_cons (x_tup a_nil aLen_nil) a_nil)) (aLen_cons (aLen_cons aLen_nil))) (a_cons (x_var 1) a_nil))) (aLen_cons (aLen_cons (aLen_cons aLen_nil))))))))))
/-! _law_mixed -/
abbrev st__law_mixed : Stmt := topS 33
def body__law_mixed : Sx := (sSeq (sSet [] 2 (eLst aNil))
  (sSeq (sSet [] 3 (eOp2 oFdiv (eVar 0) (eInt 2)))
  (sSeq (sIf (tVal (eOp2 oEq (eOp2 oMod (eVar 0) (eInt 2)) (eInt 1))) (sSeq (sFor [] (aRange1 (eVar 1)) (gName 4) (sSeq (sOwn [] 2 fAppend (eOp2 oMod (eVar 3) (eInt 5040)))
  (sSet [] 3 (eOp2 oFdiv (eVar 3) (eInt 5040)))))
  (sRetV 2)) sNop)
  (sSeq (sSet [] 3 (eOp2 oMod (eOp2 oAdd (eOp2 oMul (eOp2 oMod (eVar 3) (eInt 2147483647)) (eInt 16807)) (eInt 11)) (eInt 2147483647)))
  (sSeq (sFor [] (aRange1 (eVar 1)) (gName 4) (sSeq (sSet [] 3 (eOp2 oMod (eOp2 oAdd (eOp2 oAdd (eOp2 oAdd (eOp2 oMul (eVar 3) (eVar 3)) (eOp2 oMul (eInt 48271) (eVar 3))) (eVar 4)) (eInt 1)) (eInt 2147483647)))
  (sOwn [3] 2 fAppend (eVar 3))))
  (sRetV 2))))))
def F__law_mixed : List D → R S := runB 5 body__law_mixed
theorem sc__law_mixed : FnScope ["_law_cell", "_law_many", "_law_found", "_law_number", "_law_k"] ["_law_cell", "_law_many"] (defScope st__law_mixed) := ⟨rfl, rfl, rfl, by decide +kernel, rfl, by decide +kernel, by decide +kernel⟩
theorem ok__law_mixed {P : Program} {w : World} {K : PySem.W.Frag} {mg : Str → Option Value} {base : Heap} {f : Addr} {fd : FuncData} (h : Has K mg "_law_mixed" st__law_mixed ["_law_cell", "_law_many"] f fd) (z_range : mg "range" = none) : Cal P w K mg base (XR K) 1 "_law_mixed" F__law_mixed 2 := by
  refine def_cal (N := ["_law_cell", "_law_many", "_law_found", "_law_number", "_law_k"]) h sc__law_mixed rfl fun cdv A outer s H E Z0 hr => ?_
  have hu := Hu hr
  exact (b_cons (s_set 2 sc__law_mixed.nd (x_lst a_nil aLen_nil))
  (b_cons (s_set 3 sc__law_mixed.nd (x_fdiv (x_var 0) x_int))
  (b_cons (s_if (t_eq hu (x_mod (x_var 0) x_int) x_int) (b_cons (s_for 0 (passes_of rfl) rfl (i_range1 z_range (x_var 1)) (g_name sc__law_mixed.nd) (b_cons (s_append 2 (x_mod (x_var 3) x_int))
  (b_one (s_set 3 sc__law_mixed.nd (x_fdiv (x_var 3) x_int)))))
  (b_one (s_retV 2))) b_nil)
  (b_cons (s_set 3 sc__law_mixed.nd (x_mod (x_add (x_mul (x_mod (x_var 3) x_int) x_int) x_int) x_int))
  (b_cons (s_for 0 (passes_of rfl) rfl (i_range1 z_range (x_var 1)) (g_name sc__law_mixed.nd) (b_cons (s_set 3 sc__law_mixed.nd (x_mod (x_add (x_add (x_add (x_mul (x_var 3) (x_var 3)) (x_mul x_int (x_var 3))) (x_var 4)) x_int) x_int))
  (b_one (s_append 2 (x_var 3)))))
  (b_one (s_retV 2)))))))
/-! _law_bad -/
abbrev st__law_bad : Stmt := topS 38
def body__law_bad : Sx := (sSeq (sSet [1] 2 (eCall F__law_mixed (aCons (eVar 1) (aCons (eInt 4) aNil))))
  (sSeq (sSet [] 3 (eOp2 oMod (eOp2 oItem (eVar 2) (eInt 0)) (eOp1 oLen (eVar 0))))
  (sSeq (sSet [] 4 (eOp2 oMul (eOp2 oMod (eOp2 oFdiv (eVar 1) (eInt 8)) (eOp2 oPow (eInt 10) (eInt 39))) (eOp2 oMod (eOp2 oItem (eVar 2) (eInt 1)) (eInt 2))))
  (sSeq (sIf (tAnd (tVal (eOp2 oEq (eOp2 oMod (eOp2 oItem (eVar 2) (eInt 2)) (eInt 5)) (eInt 0))) (tVal (eOp2 oGt (eOp1 oLen (eVar 0)) (eInt 1)))) (sRet (eOp2 oAdd (eOp2 oAdd (eSl (eVar 0) pNone (pSome (eVar 3))) (eTup (aCons (eOp2 oItem (eVar 0) (eOp2 oSub (eVar 3) (eInt 1))) aNil))) (eSl (eVar 0) (pSome (eOp2 oAdd (eVar 3) (eInt 1))) pNone))) sNop)
  (sSeq (sIf (tVal (eOp2 oEq (eOp2 oMod (eOp2 oItem (eVar 2) (eInt 2)) (eInt 5)) (eInt 1))) (sRet (eOp2 oAdd (eOp2 oAdd (eSl (eVar 0) pNone (pSome (eVar 3))) (eTup (aCons (eOp2 oSub (eOp1 oNeg (eInt 1)) (eVar 4)) aNil))) (eSl (eVar 0) (pSome (eOp2 oAdd (eVar 3) (eInt 1))) pNone))) sNop)
  (sSeq (sIf (tVal (eOp2 oEq (eOp2 oMod (eOp2 oItem (eVar 2) (eInt 2)) (eInt 5)) (eInt 2))) (sRet (eOp2 oAdd (eSl (eVar 0) pNone (pSome (eVar 3))) (eSl (eVar 0) (pSome (eOp2 oAdd (eVar 3) (eInt 1))) pNone))) sNop)
  (sSeq (sIf (tVal (eOp2 oEq (eOp2 oMod (eOp2 oItem (eVar 2) (eInt 2)) (eInt 5)) (eInt 3))) (sRet (eOp2 oAdd (eOp2 oAdd (eSl (eVar 0) pNone (pSome (eVar 3))) (eTup (aCons (eOp2 oMod (eOp2 oItem (eVar 2) (eInt 3)) (eOp1 oLen (eVar 0))) aNil))) (eSl (eVar 0) (pSome (eVar 3)) pNone))) sNop)
  (sRet (eOp2 oAdd (eOp2 oAdd (eSl (eVar 0) pNone (pSome (eVar 3))) (eTup (aCons (eOp2 oAdd (eOp1 oLen (eVar 0)) (eVar 4)) aNil))) (eSl (eVar 0) (pSome (eOp2 oAdd (eVar 3) (eInt 1))) pNone))))))))))
def F__law_bad : List D → R S := runB 5 body__law_bad
theorem sc__law_bad : FnScope ["_law_ranking_here", "_law_cell", "_law_xs", "_law_at", "_law_far"] ["_law_ranking_here", "_law_cell"] (defScope st__law_bad) := ⟨rfl, rfl, rfl, by decide +kernel, rfl, by decide +kernel, by decide +kernel⟩
theorem ok__law_bad {P : Program} {w : World} {K : PySem.W.Frag} {mg : Str → Option Value} {base : Heap} {f : Addr} {fd : FuncData} (h : Has K mg "_law_bad" st__law_bad ["_law_ranking_here", "_law_cell"] f fd) (C__law_mixed : Cal P w K mg base (XR K) 1 "_law_mixed" F__law_mixed 2) (z_len : mg "len" = none) : Cal P w K mg base (XR K) 2 "_law_bad" F__law_bad 2 := by
  refine def_cal (N := ["_law_ranking_here", "_law_cell", "_law_xs", "_law_at", "_law_far"]) h sc__law_bad rfl fun cdv A outer s H E Z0 hr => ?_
  have hu := Hu hr
  exact (b_cons (s_set 2 sc__law_bad.nd (x_cal C__law_mixed hr (by decide) (takes_of rfl rfl rfl rfl) (fun _ _ _ _ _ z => z) (a_cons (x_var 1) (a_cons x_int a_nil)) (aLen_cons (aLen_cons aLen_nil))))
  (b_cons (s_set 3 sc__law_bad.nd (x_mod (x_item (x_var 2) x_int) (x_len z_len (x_var 0))))
  (b_cons (s_set 4 sc__law_bad.nd (x_mul (x_mod (x_fdiv (x_var 1) x_int) (x_pow x_int x_int)) (x_mod (x_item (x_var 2) x_int) x_int)))
  (b_cons (s_if (t_w (w_and (t_eq hu (x_mod (x_item (x_var 2) x_int) x_int) x_int) (w_and1 (t_gt (x_len z_len (x_var 0)) x_int)))) (b_one (s_ret (x_add (x_add (x_sl (x_var 0) p_none (p_some (x_var 3))) (x_tup (a_cons (x_item (x_var 0) (x_sub (x_var 3) x_int)) a_nil) (aLen_cons aLen_nil))) (x_sl (x_var 0) (p_some (x_add (x_var 3) x_int)) p_none)))) b_nil)
  (b_cons (s_if (t_eq hu (x_mod (x_item (x_var 2) x_int) x_int) x_int) (b_one (s_ret (x_add (x_add (x_sl (x_var 0) p_none (p_some (x_var 3))) (x_tup (a_cons (x_sub (x_neg x_int) (x_var 4)) a_nil) (aLen_cons aLen_nil))) (x_sl (x_var 0) (p_some (x_add (x_var 3) x_int)) p_none)))) b_nil)
  (b_cons (s_if (t_eq hu (x_mod (x_item (x_var 2) x_int) x_int) x_int) (b_one (s_ret (x_add (x_sl (x_var 0) p_none (p_some (x_var 3))) (x_sl (x_var 0) (p_some (x_add (x_var 3) x_int)) p_none)))) b_nil)
  (b_cons (s_if (t_eq hu (x_mod (x_item (x_var 2) x_int) x_int) x_int) (b_one (s_ret (x_add (x_add (x_sl (x_var 0) p_none (p_some (x_var 3))) (x_tup (a_cons (x_mod (x_item (x_var 2) x_int) (x_len z_len (x_var 0))) a_nil) (aLen_cons aLen_nil))) (x_sl (x_var 0) (p_some (x_var 3)) p_none)))) b_nil)
  (b_one (s_ret (x_add (x_add (x_sl (x_var 0) p_none (p_some (x_var 3))) (x_tup (a_cons (x_add (x_len z_len (x_var 0)) (x_var 4)) a_nil) (aLen_cons aLen_nil))) (x_sl (x_var 0) (p_some (x_add (x_var 3) x_int)) p_none)))))))))))
/-! _law_cell_at -/
abbrev st__law_cell_at : Stmt := topS 32
def body__law_cell_at : Sx := (sSeq (sIf (tVal (eOp2 oLt (eVar 1) (eOp1 oLen (eVar 0)))) (sRet (eOp2 oItem (eVar 0) (eVar 1))) sNop)
  (sRet (eInt 0)))
def F__law_cell_at : List D → R S := runB 2 body__law_cell_at
theorem sc__law_cell_at : FnScope ["_law_script", "_law_k"] ["_law_script", "_law_k"] (defScope st__law_cell_at) := ⟨rfl, rfl, rfl, by decide +kernel, rfl, by decide +kernel, by decide +kernel⟩
theorem ok__law_cell_at {P : Program} {w : World} {K : PySem.W.Frag} {mg : Str → Option Value} {base : Heap} {f : Addr} {fd : FuncData} (h : Has K mg "_law_cell_at" st__law_cell_at ["_law_script", "_law_k"] f fd) (z_len : mg "len" = none) : Cal P w K mg base (XR K) 1 "_law_cell_at" F__law_cell_at 2 := by
  refine def_cal (N := ["_law_script", "_law_k"]) h sc__law_cell_at rfl fun cdv A outer s H E Z0 hr => ?_
  have hu := Hu hr
  exact (b_cons (s_if (t_lt hu (x_var 1) (x_len z_len (x_var 0))) (b_one (s_ret (x_item (x_var 0) (x_var 1)))) b_nil)
  (b_one (s_ret x_int)))
/-! _law_ranking -/
abbrev st__law_ranking : Stmt := topS 36
def body__law_ranking : Sx := (sSeq (sSet [] 2 (eLst aNil))
  (sSeq (sSet [] 3 (eOp2 oFdiv (eVar 0) (eInt 2)))
  (sSeq (sIf (tVal (eOp2 oEq (eOp2 oMod (eVar 0) (eInt 2)) (eInt 0))) (sSeq (sSet [] 3 (eOp2 oMod (eOp2 oAdd (eOp2 oMul (eOp2 oMod (eVar 3) (eInt 2147483647)) (eInt 16807)) (eInt 11)) (eInt 2147483647)))
  (sSet [] 3 (eOp2 oMod (eOp2 oAdd (eOp2 oMul (eVar 3) (eVar 3)) (eInt 69621)) (eInt 2147483629)))) sNop)
  (sSeq (sFor [] (aRange1 (eVar 1)) (gName 4) (sSeq (sInsert [4] 2 (eOp2 oMod (eVar 3) (eOp2 oAdd (eVar 4) (eInt 1))) (eVar 4))
  (sSet [] 3 (eOp2 oFdiv (eVar 3) (eOp2 oAdd (eVar 4) (eInt 1))))))
  (sRet (eOp1 oTuple (eVar 2)))))))
def F__law_ranking : List D → R S := runB 5 body__law_ranking
theorem sc__law_ranking : FnScope ["_law_cell", "_law_count", "_law_found", "_law_number", "_law_k"] ["_law_cell", "_law_count"] (defScope st__law_ranking) := ⟨rfl, rfl, rfl, by decide +kernel, rfl, by decide +kernel, by decide +kernel⟩
theorem ok__law_ranking {P : Program} {w : World} {K : PySem.W.Frag} {mg : Str → Option Value} {base : Heap} {f : Addr} {fd : FuncData} (h : Has K mg "_law_ranking" st__law_ranking ["_law_cell", "_law_count"] f fd) (z_range : mg "range" = none) (z_tuple : mg "tuple" = none) : Cal P w K mg base (XR K) 1 "_law_ranking" F__law_ranking 2 := by
  refine def_cal (N := ["_law_cell", "_law_count", "_law_found", "_law_number", "_law_k"]) h sc__law_ranking rfl fun cdv A outer s H E Z0 hr => ?_
  have hu := Hu hr
  exact (b_cons (s_set 2 sc__law_ranking.nd (x_lst a_nil aLen_nil))
  (b_cons (s_set 3 sc__law_ranking.nd (x_fdiv (x_var 0) x_int))
  (b_cons (s_if (t_eq hu (x_mod (x_var 0) x_int) x_int) (b_cons (s_set 3 sc__law_ranking.nd (x_mod (x_add (x_mul (x_mod (x_var 3) x_int) x_int) x_int) x_int))
  (b_one (s_set 3 sc__law_ranking.nd (x_mod (x_add (x_mul (x_var 3) (x_var 3)) x_int) x_int)))) b_nil)
  (b_cons (s_for 0 (passes_of rfl) rfl (i_range1 z_range (x_var 1)) (g_name sc__law_ranking.nd) (b_cons (s_insert 2 (x_mod (x_var 3) (x_add (x_var 4) x_int)) (x_var 4))
  (b_one (s_set 3 sc__law_ranking.nd (x_fdiv (x_var 3) (x_add (x_var 4) x_int))))))
  (b_one (s_ret (x_tuple z_tuple (x_var 2))))))))
/-! _law_kinds -/
abbrev st__law_kinds : Stmt := topS 37
def body__law_kinds : Sx := (sSeq (sSet [] 1 (eLst aNil))
  (sSeq (sIf (tVal (eIsX [("NoRanking", false)] (eVar 0))) (sOwn [] 1 fAppend (eStr [78, 111, 67, 111, 117, 110, 116])) sNop)
  (sSeq (sIf (tVal (eIsX [("NoRanking", false)] (eVar 0))) (sOwn [] 1 fAppend (eStr [78, 111, 77, 97, 114, 107, 115])) sNop)
  (sSeq (sIf (tVal (eIsX [("NoRanking", false)] (eVar 0))) (sOwn [] 1 fAppend (eStr [78, 111, 87, 111, 114, 100])) sNop)
  (sSeq (sIf (tVal (eIsX [("NoRanking", true)] (eVar 0))) (sOwn [] 1 fAppend (eStr [78, 111, 82, 97, 110, 107, 105, 110, 103])) sNop)
  (sSeq (sIf (tVal (eIsX [("NoRanking", false)] (eVar 0))) (sOwn [] 1 fAppend (eStr [78, 111, 82, 111, 119])) sNop)
  (sSeq (sIf (tVal (eIsX [("NoRanking", false)] (eVar 0))) (sOwn [] 1 fAppend (eStr [78, 111, 77, 111, 118, 101])) sNop)
  (sSeq (sIf (tVal (eIsX [("NoRanking", false)] (eVar 0))) (sOwn [] 1 fAppend (eStr [67, 108, 97, 115, 104])) sNop)
  (sSeq (sIf (tVal (eIsX [("NoRanking", false)] (eVar 0))) (sOwn [] 1 fAppend (eStr [78, 111, 83, 97, 121, 105, 110, 103])) sNop)
  (sSeq (sIf (tVal (eIsX [("NoRanking", false)] (eVar 0))) (sOwn [] 1 fAppend (eStr [78, 111, 77, 97, 99, 104, 105, 110, 101])) sNop)
  (sSeq (sIf (tVal (eIsX [("NoRanking", false)] (eVar 0))) (sOwn [] 1 fAppend (eStr [78, 111, 82, 111, 111, 109])) sNop)
  (sSeq (sIf (tVal (eIsX [("NoRanking", false)] (eVar 0))) (sOwn [] 1 fAppend (eStr [78, 111, 76, 101, 116, 116, 101, 114])) sNop)
  (sSeq (sIf (tVal (eIsX [("NoRanking", false)] (eVar 0))) (sOwn [] 1 fAppend (eStr [84, 111, 111, 77, 97, 110, 121])) sNop)
  (sSeq (sIf (tVal (eIsX [("NoRanking", false)] (eVar 0))) (sOwn [] 1 fAppend (eStr [78, 111, 78, 97, 109, 101, 115])) sNop)
  (sSeq (sIf (tVal (eIsX [("NoRanking", false)] (eVar 0))) (sOwn [] 1 fAppend (eStr [78, 111, 84, 101, 120, 116])) sNop)
  (sSeq (sIf (tNot (tVal (eIsX [("NoRanking", true)] (eVar 0)))) (sOwn [] 1 fAppend (eStr [111, 116, 104, 101, 114])) sNop)
  (sRetV 1)))))))))))))))))
def F__law_kinds : List D → R S := runB 2 body__law_kinds
theorem sc__law_kinds : FnScope ["_law_e", "_law_found"] ["_law_e"] (defScope st__law_kinds) := ⟨rfl, rfl, rfl, by decide +kernel, rfl, by decide +kernel, by decide +kernel⟩
theorem ok__law_kinds {P : Program} {w : World} {K : PySem.W.Frag} {mg : Str → Option Value} {base : Heap} {f : Addr} {fd : FuncData} (h : Has K mg "_law_kinds" st__law_kinds ["_law_e"] f fd) (z_ValueError : mg "ValueError" = none) (z_isinstance : mg "isinstance" = none) {C_NoRanking D_NoCount D_NoMarks D_NoWord D_NoRanking D_NoRow D_NoMove D_Clash D_NoSaying D_NoMachine D_NoRoom D_NoLetter D_TooMany D_NoNames D_NoText : Addr} (E_NoRanking : Exc1 K mg "NoRanking" C_NoRanking) (e_NoRanking : ExcC K C_NoRanking) (k_NoRanking_NoCount : PySem.W.kitOne K (.ref C_NoRanking) (.ref D_NoCount) = some false) (m_NoCount : mg "NoCount" = some (.ref D_NoCount)) (k_NoRanking_NoMarks : PySem.W.kitOne K (.ref C_NoRanking) (.ref D_NoMarks) = some false) (m_NoMarks : mg "NoMarks" = some (.ref D_NoMarks)) (k_NoRanking_NoWord : PySem.W.kitOne K (.ref C_NoRanking) (.ref D_NoWord) = some false) (m_NoWord : mg "NoWord" = some (.ref D_NoWord)) (k_NoRanking_NoRanking : PySem.W.kitOne K (.ref C_NoRanking) (.ref D_NoRanking) = some true) (m_NoRanking : mg "NoRanking" = some (.ref D_NoRanking)) (k_NoRanking_NoRow : PySem.W.kitOne K (.ref C_NoRanking) (.ref D_NoRow) = some false) (m_NoRow : mg "NoRow" = some (.ref D_NoRow)) (k_NoRanking_NoMove : PySem.W.kitOne K (.ref C_NoRanking) (.ref D_NoMove) = some false) (m_NoMove : mg "NoMove" = some (.ref D_NoMove)) (k_NoRanking_Clash : PySem.W.kitOne K (.ref C_NoRanking) (.ref D_Clash) = some false) (m_Clash : mg "Clash" = some (.ref D_Clash)) (k_NoRanking_NoSaying : PySem.W.kitOne K (.ref C_NoRanking) (.ref D_NoSaying) = some false) (m_NoSaying : mg "NoSaying" = some (.ref D_NoSaying)) (k_NoRanking_NoMachine : PySem.W.kitOne K (.ref C_NoRanking) (.ref D_NoMachine) = some false) (m_NoMachine : mg "NoMachine" = some (.ref D_NoMachine)) (k_NoRanking_NoRoom : PySem.W.kitOne K (.ref C_NoRanking) (.ref D_NoRoom) = some false) (m_NoRoom : mg "NoRoom" = some (.ref D_NoRoom)) (k_NoRanking_NoLetter : PySem.W.kitOne K (.ref C_NoRanking) (.ref D_NoLetter) = some false) (m_NoLetter : mg "NoLetter" = some (.ref D_NoLetter)) (k_NoRanking_TooMany : PySem.W.kitOne K (.ref C_NoRanking) (.ref D_TooMany) = some false) (m_TooMany : mg "TooMany" = some (.ref D_TooMany)) (k_NoRanking_NoNames : PySem.W.kitOne K (.ref C_NoRanking) (.ref D_NoNames) = some false) (m_NoNames : mg "NoNames" = some (.ref D_NoNames)) (k_NoRanking_NoText : PySem.W.kitOne K (.ref C_NoRanking) (.ref D_NoText) = some false) (m_NoText : mg "NoText" = some (.ref D_NoText)) (k_NoRanking_ValueError : PySem.W.kitOne K (.ref C_NoRanking) (.type "ValueError") = some true) : Cal P w K mg base (XR K) 1 "_law_kinds" F__law_kinds 1 := by
  refine def_cal (N := ["_law_e", "_law_found"]) h sc__law_kinds rfl fun cdv A outer s H E Z0 hr => ?_
  have hu := Hu hr
  exact (b_cons (s_set 1 sc__law_kinds.nd (x_lst a_nil aLen_nil))
  (b_cons (s_if (t_val (x_isO [("NoRanking", false)] (tab_cons E_NoRanking.ns e_NoRanking k_NoRanking_NoCount tab_nil) z_isinstance m_NoCount (x_var 0))) (b_one (s_append 1 (x_str [78, 111, 67, 111, 117, 110, 116]))) b_nil)
  (b_cons (s_if (t_val (x_isO [("NoRanking", false)] (tab_cons E_NoRanking.ns e_NoRanking k_NoRanking_NoMarks tab_nil) z_isinstance m_NoMarks (x_var 0))) (b_one (s_append 1 (x_str [78, 111, 77, 97, 114, 107, 115]))) b_nil)
  (b_cons (s_if (t_val (x_isO [("NoRanking", false)] (tab_cons E_NoRanking.ns e_NoRanking k_NoRanking_NoWord tab_nil) z_isinstance m_NoWord (x_var 0))) (b_one (s_append 1 (x_str [78, 111, 87, 111, 114, 100]))) b_nil)
  (b_cons (s_if (t_val (x_isO [("NoRanking", true)] (tab_cons E_NoRanking.ns e_NoRanking k_NoRanking_NoRanking tab_nil) z_isinstance m_NoRanking (x_var 0))) (b_one (s_append 1 (x_str [78, 111, 82, 97, 110, 107, 105, 110, 103]))) b_nil)
  (b_cons (s_if (t_val (x_isO [("NoRanking", false)] (tab_cons E_NoRanking.ns e_NoRanking k_NoRanking_NoRow tab_nil) z_isinstance m_NoRow (x_var 0))) (b_one (s_append 1 (x_str [78, 111, 82, 111, 119]))) b_nil)
  (b_cons (s_if (t_val (x_isO [("NoRanking", false)] (tab_cons E_NoRanking.ns e_NoRanking k_NoRanking_NoMove tab_nil) z_isinstance m_NoMove (x_var 0))) (b_one (s_append 1 (x_str [78, 111, 77, 111, 118, 101]))) b_nil)
  (b_cons (s_if (t_val (x_isO [("NoRanking", false)] (tab_cons E_NoRanking.ns e_NoRanking k_NoRanking_Clash tab_nil) z_isinstance m_Clash (x_var 0))) (b_one (s_append 1 (x_str [67, 108, 97, 115, 104]))) b_nil)
  (b_cons (s_if (t_val (x_isO [("NoRanking", false)] (tab_cons E_NoRanking.ns e_NoRanking k_NoRanking_NoSaying tab_nil) z_isinstance m_NoSaying (x_var 0))) (b_one (s_append 1 (x_str [78, 111, 83, 97, 121, 105, 110, 103]))) b_nil)
  (b_cons (s_if (t_val (x_isO [("NoRanking", false)] (tab_cons E_NoRanking.ns e_NoRanking k_NoRanking_NoMachine tab_nil) z_isinstance m_NoMachine (x_var 0))) (b_one (s_append 1 (x_str [78, 111, 77, 97, 99, 104, 105, 110, 101]))) b_nil)
  (b_cons (s_if (t_val (x_isO [("NoRanking", false)] (tab_cons E_NoRanking.ns e_NoRanking k_NoRanking_NoRoom tab_nil) z_isinstance m_NoRoom (x_var 0))) (b_one (s_append 1 (x_str [78, 111, 82, 111, 111, 109]))) b_nil)
  (b_cons (s_if (t_val (x_isO [("NoRanking", false)] (tab_cons E_NoRanking.ns e_NoRanking k_NoRanking_NoLetter tab_nil) z_isinstance m_NoLetter (x_var 0))) (b_one (s_append 1 (x_str [78, 111, 76, 101, 116, 116, 101, 114]))) b_nil)
  (b_cons (s_if (t_val (x_isO [("NoRanking", false)] (tab_cons E_NoRanking.ns e_NoRanking k_NoRanking_TooMany tab_nil) z_isinstance m_TooMany (x_var 0))) (b_one (s_append 1 (x_str [84, 111, 111, 77, 97, 110, 121]))) b_nil)
  (b_cons (s_if (t_val (x_isO [("NoRanking", false)] (tab_cons E_NoRanking.ns e_NoRanking k_NoRanking_NoNames tab_nil) z_isinstance m_NoNames (x_var 0))) (b_one (s_append 1 (x_str [78, 111, 78, 97, 109, 101, 115]))) b_nil)
  (b_cons (s_if (t_val (x_isO [("NoRanking", false)] (tab_cons E_NoRanking.ns e_NoRanking k_NoRanking_NoText tab_nil) z_isinstance m_NoText (x_var 0))) (b_one (s_append 1 (x_str [78, 111, 84, 101, 120, 116]))) b_nil)
  (b_cons (s_if (t_not (t_val (x_isV "ValueError" [("NoRanking", true)] (tab_cons E_NoRanking.ns e_NoRanking k_NoRanking_ValueError tab_nil) z_isinstance z_ValueError (by decide +kernel) (x_var 0)))) (b_one (s_append 1 (x_str [111, 116, 104, 101, 114]))) b_nil)
  (b_one (s_retV 1))))))))))))))))))
/-! _law_refused -/
abbrev st__law_refused : Stmt := topS 40
def body__law_refused : Sx := (sSeq (sSet [] 3 eNon)
  (sSeq (sTry 4 3 ["NoRanking"] (sDrop (eCall F__law_asked (aCons (eVar 0) (aCons (eVar 1) (aCons (eVar 2) aNil))))))
  (sRet (eOp2 oEq (eCall F__law_kinds (aCons (eVar 3) aNil)) (eLst (aCons (eStr [78, 111, 82, 97, 110, 107, 105, 110, 103]) aNil))))))
def F__law_refused : List D → R S := runB 5 body__law_refused
theorem sc__law_refused : FnScope ["_law_which", "_law_ranking_here", "_law_word_here", "_law_caught", "_law_e"] ["_law_which", "_law_ranking_here", "_law_word_here"] (defScope st__law_refused) := ⟨rfl, rfl, rfl, by decide +kernel, rfl, by decide +kernel, by decide +kernel⟩
theorem ok__law_refused {P : Program} {w : World} {K : PySem.W.Frag} {mg : Str → Option Value} {base : Heap} {f : Addr} {fd : FuncData} (h : Has K mg "_law_refused" st__law_refused ["_law_which", "_law_ranking_here", "_law_word_here"] f fd) (C__law_asked : Cal P w K mg base (XR K) 5 "_law_asked" F__law_asked 3) (C__law_kinds : Cal P w K mg base (XR K) 1 "_law_kinds" F__law_kinds 1) {C_NoRanking D_RankError : Addr} (E_NoRanking : Exc1 K mg "NoRanking" C_NoRanking) (x_NoRanking_RankError : PySem.W.exmOne K (.ref C_NoRanking) (.ref D_RankError) = some true) (m_RankError : mg "RankError" = some (.ref D_RankError)) : Cal P w K mg base (XR K) 6 "_law_refused" F__law_refused 3 := by
  refine def_cal (N := ["_law_which", "_law_ranking_here", "_law_word_here", "_law_caught", "_law_e"]) h sc__law_refused rfl fun cdv A outer s H E Z0 hr => ?_
  have hu := Hu hr
  exact (b_cons (s_set 3 sc__law_refused.nd x_non)
  (b_cons (s_try 4 3 ["NoRanking"] rfl rfl sc__law_refused.nd ⟨rfl, by decide, .inl m_RankError⟩ (takes_of rfl rfl rfl rfl) (cat_cons E_NoRanking.ns x_NoRanking_RankError cat_nil) (fun w pn xe tk2 => (y_drop (x_cal C__law_asked hr (by decide) tk2 (fun _ _ _ _ _ z => z) (a_cons (x_var 0) (a_cons (x_var 1) (a_cons (x_var 2) a_nil))) (aLen_cons (aLen_cons (aLen_cons aLen_nil)))))))
  (b_one (s_ret (x_eq hu (x_cal C__law_kinds hr (by decide) (takes_of rfl rfl rfl rfl) (fun _ _ _ _ _ z => z) (a_cons (x_var 3) a_nil) (aLen_cons aLen_nil)) (x_lst (a_cons (x_str [78, 111, 82, 97, 110, 107, 105, 110, 103]) a_nil) (aLen_cons aLen_nil)))))))
/-! _law_marks -/
abbrev st__law_marks : Stmt := topS 34
def body__law_marks : Sx := (sSeq (sSet [0, 1] 2 (eCall F__law_mixed (aCons (eVar 0) (aCons (eOp2 oAdd (eVar 1) (eInt 1)) aNil))))
  (sSeq (sSet [] 3 (eOp2 oItem (eLst (aCons (eInt 2) (aCons (eInt 3) (aCons (eInt 10) (aCons (eInt 10) aNil))))) (eOp2 oMod (eOp2 oItem (eVar 2) (eVar 1)) (eInt 4))))
  (sSeq (sSet [] 4 (eLst aNil))
  (sSeq (sFor [] (aRange1 (eVar 1)) (gName 5) (sSeq (sSet [] 6 (eOp2 oMod (eOp2 oItem (eVar 2) (eVar 5)) (eVar 3)))
  (sSeq (sIf (tAnd (tVal (eOp2 oEq (eOp2 oMod (eOp2 oItem (eVar 2) (eVar 1)) (eInt 8)) (eInt 7))) (tVal (eOp2 oEq (eOp2 oMod (eOp2 oFdiv (eOp2 oItem (eVar 2) (eVar 5)) (eInt 10)) (eInt 2)) (eInt 1)))) (sSet [] 6 (eOp2 oMod (eOp2 oFdiv (eVar 0) (eOp2 oAdd (eVar 5) (eInt 1))) (eOp2 oPow (eInt 10) (eInt 39)))) sNop)
  (sOwn [6] 4 fAppend (eVar 6)))))
  (sRet (eOp1 oTuple (eVar 4)))))))
def F__law_marks : List D → R S := runB 7 body__law_marks
theorem sc__law_marks : FnScope ["_law_cell", "_law_count", "_law_xs", "_law_most", "_law_found", "_law_k", "_law_number"] ["_law_cell", "_law_count"] (defScope st__law_marks) := ⟨rfl, rfl, rfl, by decide +kernel, rfl, by decide +kernel, by decide +kernel⟩
theorem ok__law_marks {P : Program} {w : World} {K : PySem.W.Frag} {mg : Str → Option Value} {base : Heap} {f : Addr} {fd : FuncData} (h : Has K mg "_law_marks" st__law_marks ["_law_cell", "_law_count"] f fd) (C__law_mixed : Cal P w K mg base (XR K) 1 "_law_mixed" F__law_mixed 2) (z_range : mg "range" = none) (z_tuple : mg "tuple" = none) : Cal P w K mg base (XR K) 2 "_law_marks" F__law_marks 2 := by
  refine def_cal (N := ["_law_cell", "_law_count", "_law_xs", "_law_most", "_law_found", "_law_k", "_law_number"]) h sc__law_marks rfl fun cdv A outer s H E Z0 hr => ?_
  have hu := Hu hr
  exact (b_cons (s_set 2 sc__law_marks.nd (x_cal C__law_mixed hr (by decide) (takes_of rfl rfl rfl rfl) (fun _ _ _ _ _ z => z) (a_cons (x_var 0) (a_cons (x_add (x_var 1) x_int) a_nil)) (aLen_cons (aLen_cons aLen_nil))))
  (b_cons (s_set 3 sc__law_marks.nd (x_item (x_lst (a_cons x_int (a_cons x_int (a_cons x_int (a_cons x_int a_nil)))) (aLen_cons (aLen_cons (aLen_cons (aLen_cons aLen_nil))))) (x_mod (x_item (x_var 2) (x_var 1)) x_int)))
  (b_cons (s_set 4 sc__law_marks.nd (x_lst a_nil aLen_nil))
  (b_cons (s_for 0 (passes_of rfl) rfl (i_range1 z_range (x_var 1)) (g_name sc__law_marks.nd) (b_cons (s_set 6 sc__law_marks.nd (x_mod (x_item (x_var 2) (x_var 5)) (x_var 3)))
  (b_cons (s_if (t_w (w_and (t_eq hu (x_mod (x_item (x_var 2) (x_var 1)) x_int) x_int) (w_and1 (t_eq hu (x_mod (x_fdiv (x_item (x_var 2) (x_var 5)) x_int) x_int) x_int)))) (b_one (s_set 6 sc__law_marks.nd (x_mod (x_fdiv (x_var 0) (x_add (x_var 5) x_int)) (x_pow x_int x_int)))) b_nil)
  (b_one (s_append 4 (x_var 6))))))
  (b_one (s_ret (x_tuple z_tuple (x_var 4))))))))
/-! _law_word -/
abbrev st__law_word : Stmt := topS 35
def body__law_word : Sx := (sSeq (sSet [] 2 (eLst aNil))
  (sSeq (sFor [0] (aIter (eVar 0)) (gName 3) (sSeq (sSet [3, 1] 4 (eCall F__law_marks (aCons (eVar 3) (aCons (eVar 1) aNil))))
  (sSeq (sSet [] 5 (eCall F__law_mixed (aCons (eOp2 oFdiv (eVar 3) (eInt 3)) (aCons (eInt 4) aNil))))
  (sSeq (sIf (tAnd (tVal (eOp2 oEq (eOp2 oMod (eOp2 oItem (eVar 5) (eInt 0)) (eInt 4)) (eInt 1))) (tVal (eOp2 oGt (eOp1 oLen (eVar 2)) (eInt 0)))) (sSeq (sSet [2] 4 (eOp1 oList (eOp2 oItem (eVar 2) (eOp2 oMod (eOp2 oItem (eVar 5) (eInt 1)) (eOp1 oLen (eVar 2))))))
  (sItem [] 4 (eOp2 oMax2 (eInt 0) (eOp2 oSub (eOp2 oAdd (eOp2 oItem (eVar 4) (eOp2 oMod (eOp2 oItem (eVar 5) (eInt 2)) (eVar 1))) (eOp2 oMod (eOp2 oItem (eVar 5) (eInt 3)) (eInt 3))) (eInt 1))) (eOp2 oMod (eOp2 oItem (eVar 5) (eInt 2)) (eVar 1)))) sNop)
  (sOwn [4] 2 fAppend (eOp1 oTuple (eVar 4)))))))
  (sRet (eOp1 oTuple (eVar 2)))))
def F__law_word : List D → R S := runB 6 body__law_word
theorem sc__law_word : FnScope ["_law_cells", "_law_count", "_law_found", "_law_cell", "_law_marks_here", "_law_xs"] ["_law_cells", "_law_count"] (defScope st__law_word) := ⟨rfl, rfl, rfl, by decide +kernel, rfl, by decide +kernel, by decide +kernel⟩
theorem ok__law_word {P : Program} {w : World} {K : PySem.W.Frag} {mg : Str → Option Value} {base : Heap} {f : Addr} {fd : FuncData} (h : Has K mg "_law_word" st__law_word ["_law_cells", "_law_count"] f fd) (C__law_marks : Cal P w K mg base (XR K) 2 "_law_marks" F__law_marks 2) (C__law_mixed : Cal P w K mg base (XR K) 1 "_law_mixed" F__law_mixed 2) (z_len : mg "len" = none) (z_list : mg "list" = none) (z_max : mg "max" = none) (z_tuple : mg "tuple" = none) : Cal P w K mg base (XR K) 3 "_law_word" F__law_word 2 := by
  refine def_cal (N := ["_law_cells", "_law_count", "_law_found", "_law_cell", "_law_marks_here", "_law_xs"]) h sc__law_word rfl fun cdv A outer s H E Z0 hr => ?_
  have hu := Hu hr
  exact (b_cons (s_set 2 sc__law_word.nd (x_lst a_nil aLen_nil))
  (b_cons (s_for 0 (passes_of rfl) rfl (i_seq (x_var 0)) (g_name sc__law_word.nd) (b_cons (s_set 4 sc__law_word.nd (x_cal C__law_marks hr (by decide) (takes_of rfl rfl rfl rfl) (fun _ _ _ _ _ z => z) (a_cons (x_var 3) (a_cons (x_var 1) a_nil)) (aLen_cons (aLen_cons aLen_nil))))
  (b_cons (s_set 5 sc__law_word.nd (x_cal C__law_mixed hr (by decide) (takes_of rfl rfl rfl rfl) (fun _ _ _ _ _ z => z) (a_cons (x_fdiv (x_var 3) x_int) (a_cons x_int a_nil)) (aLen_cons (aLen_cons aLen_nil))))
  (b_cons (s_if (t_w (w_and (t_eq hu (x_mod (x_item (x_var 5) x_int) x_int) x_int) (w_and1 (t_gt (x_len z_len (x_var 2)) x_int)))) (b_cons (s_set 4 sc__law_word.nd (x_list z_list (x_item (x_var 2) (x_mod (x_item (x_var 5) x_int) (x_len z_len (x_var 2))))))
  (b_one (s_item 4 (x_max2 rfl z_max x_int (x_sub (x_add (x_item (x_var 4) (x_mod (x_item (x_var 5) x_int) (x_var 1))) (x_mod (x_item (x_var 5) x_int) x_int)) x_int)) (x_mod (x_item (x_var 5) x_int) (x_var 1))))) b_nil)
  (b_one (s_append 2 (x_tuple z_tuple (x_var 4))))))))
  (b_one (s_ret (x_tuple z_tuple (x_var 2))))))
/-! law -/
abbrev st_law : Stmt := topS 41
def body_law : Sx := (sSeq (sSet [] 1 (eOp2 oAdd (eInt 1) (eOp2 oMod (eCall F__law_cell_at (aCons (eVar 0) (aCons (eInt 0) aNil))) (eInt 6))))
  (sSeq (sSet [] 2 (eOp2 oAdd (eInt 2) (eOp2 oMod (eOp2 oFdiv (eCall F__law_cell_at (aCons (eVar 0) (aCons (eInt 0) aNil))) (eInt 6)) (eInt 11))))
  (sSeq (sSet [0, 9, 1] 3 (eCall F__law_word (aCons (eComp [] [9] (aRange1 (eVar 2)) (gName 9) tTrue (eCall F__law_cell_at (aCons (eVar 0) (aCons (eOp2 oAdd (eInt 2) (eVar 9)) aNil)))) (aCons (eVar 1) aNil))))
  (sSeq (sSet [0, 1] 4 (eCall F__law_ranking (aCons (eCall F__law_cell_at (aCons (eVar 0) (aCons (eInt 1) aNil))) (aCons (eVar 1) aNil))))
  (sSeq (sSet [5, 4, 3] 6 (eComp [] [5] (aRange1 (eInt 6)) (gName 5) tTrue (eCall F__law_asked (aCons (eVar 5) (aCons (eVar 4) (aCons (eVar 3) aNil))))))
  (sSeq (sFor [0, 0] (aIter (eOp2 oAdd (eLst (aCons (eCall F__law_cell_at (aCons (eVar 0) (aCons (eInt 1) aNil))) aNil)) (eSl (eVar 0) (pSome (eInt 14)) (pSome (eInt 30))))) (gName 7) (sSeq (sSet [1, 7] 8 (eCall F__law_bad (aCons (eCall F__law_ranking (aCons (eOp2 oFdiv (eVar 7) (eInt 5)) (aCons (eVar 1) aNil))) (aCons (eVar 7) aNil))))
  (sFor [] (aRange1 (eInt 6)) (gName 5) (sIf (tNot (tVal (eCall F__law_refused (aCons (eVar 5) (aCons (eVar 8) (aCons (eVar 3) aNil)))))) (sRet (eBl false)) sNop))))
  (sRet (eOp2 oEq (eComp [] [5] (aRange1 (eInt 6)) (gName 5) tTrue (eCall F__law_asked (aCons (eVar 5) (aCons (eVar 4) (aCons (eVar 3) aNil))))) (eVar 6)))))))))
def F_law : List D → R S := runB 10 body_law
theorem sc_law : FnScope ["_law_script", "_law_count", "_law_many", "_law_word_here", "_law_good", "_law_which", "_law_told", "_law_cell", "_law_bad_here", "_law_k"] ["_law_script"] (defScope st_law) := ⟨rfl, rfl, rfl, by decide +kernel, rfl, by decide +kernel, by decide +kernel⟩
theorem ok_law {P : Program} {w : World} {K : PySem.W.Frag} {mg : Str → Option Value} {base : Heap} {f : Addr} {fd : FuncData} (h : Has K mg "law" st_law ["_law_script"] f fd) (C__law_asked : Cal P w K mg base (XR K) 5 "_law_asked" F__law_asked 3) (C__law_bad : Cal P w K mg base (XR K) 2 "_law_bad" F__law_bad 2) (C__law_cell_at : Cal P w K mg base (XR K) 1 "_law_cell_at" F__law_cell_at 2) (C__law_ranking : Cal P w K mg base (XR K) 1 "_law_ranking" F__law_ranking 2) (C__law_refused : Cal P w K mg base (XR K) 6 "_law_refused" F__law_refused 3) (C__law_word : Cal P w K mg base (XR K) 3 "_law_word" F__law_word 2) (z_range : mg "range" = none) (T : ∀ ns : List Int, ns.length ≤ 63 → F_law [.scr ns] = .ok (.val (.bl true))) : FnOk P w K mg base (L2.CX P w) 7 f fd ["_law_script"] (spLaw K) := by
  refine law_fn (N := ["_law_script", "_law_count", "_law_many", "_law_word_here", "_law_good", "_law_which", "_law_told", "_law_cell", "_law_bad_here", "_law_k"]) (xr := XR K) (G := fun _ => 0) h sc_law rfl rfl (fun cdv A outer s H E Z0 hr => ?_) T
  have hu := Hu hr
  exact (b_cons (s_set 1 sc_law.nd (x_add x_int (x_mod (x_cal C__law_cell_at hr (by decide) (takes_of rfl rfl rfl rfl) (fun _ _ _ _ _ z => z) (a_cons (x_var 0) (a_cons x_int a_nil)) (aLen_cons (aLen_cons aLen_nil))) x_int)))
  (b_cons (s_set 2 sc_law.nd (x_add x_int (x_mod (x_fdiv (x_cal C__law_cell_at hr (by decide) (takes_of rfl rfl rfl rfl) (fun _ _ _ _ _ z => z) (a_cons (x_var 0) (a_cons x_int a_nil)) (aLen_cons (aLen_cons aLen_nil))) x_int) x_int)))
  (b_cons (s_set 3 sc_law.nd (x_cal C__law_word hr (by decide) (takes_of rfl rfl rfl rfl) (fun _ _ _ _ _ z => z) (a_cons (x_comp 0 (k_name 9) rfl sc_law.nd (i_range1 z_range (x_var 2)) (blkOk_by (own := [("_law_k", 9)]) rfl) (fun _ _ _ _ _ => (g_name sc_law.nd)) (fun _ _ _ _ _ => ts_nil) (fun _ _ _ _ _ => (x_cal C__law_cell_at hr (by decide) takes0 (fun _ _ _ _ _ _ => trivial) (a_cons (x_var 0) (a_cons (x_add x_int (x_var 9)) a_nil)) (aLen_cons (aLen_cons aLen_nil))))) (a_cons (x_var 1) a_nil)) (aLen_cons (aLen_cons aLen_nil))))
  (b_cons (s_set 4 sc_law.nd (x_cal C__law_ranking hr (by decide) (takes_of rfl rfl rfl rfl) (fun _ _ _ _ _ z => z) (a_cons (x_cal C__law_cell_at hr (by decide) (takes_of rfl rfl rfl rfl) (fun _ _ _ _ _ z => z) (a_cons (x_var 0) (a_cons x_int a_nil)) (aLen_cons (aLen_cons aLen_nil))) (a_cons (x_var 1) a_nil)) (aLen_cons (aLen_cons aLen_nil))))
  (b_cons (s_setLc 6 0 (k_name 5) rfl sc_law.nd (i_range1 z_range x_int) (blkOk_by (own := [("_law_which", 5)]) rfl) (fun _ _ _ _ _ => (g_name sc_law.nd)) (fun _ _ _ _ _ => ts_nil) (fun _ _ _ _ _ => (x_cal C__law_asked hr (by decide) takes0 (fun _ _ _ _ _ _ => trivial) (a_cons (x_var 5) (a_cons (x_var 4) (a_cons (x_var 3) a_nil))) (aLen_cons (aLen_cons (aLen_cons aLen_nil))))) (by rfl))
  (b_cons (s_for 0 (passes_of rfl) rfl (i_seq (x_add (x_lst (a_cons (x_cal C__law_cell_at hr (by decide) (takes_of rfl rfl rfl rfl) (fun _ _ _ _ _ z => z) (a_cons (x_var 0) (a_cons x_int a_nil)) (aLen_cons (aLen_cons aLen_nil))) a_nil) (aLen_cons aLen_nil)) (x_sl (x_var 0) (p_some x_int) (p_some x_int)))) (g_name sc_law.nd) (b_cons (s_set 8 sc_law.nd (x_cal C__law_bad hr (by decide) (takes_of rfl rfl rfl rfl) (fun _ _ _ _ _ z => z) (a_cons (x_cal C__law_ranking hr (by decide) (takes_of rfl rfl rfl rfl) (fun _ _ _ _ _ z => z) (a_cons (x_fdiv (x_var 7) x_int) (a_cons (x_var 1) a_nil)) (aLen_cons (aLen_cons aLen_nil))) (a_cons (x_var 7) a_nil)) (aLen_cons (aLen_cons aLen_nil))))
  (b_one (s_for 0 (passes_of rfl) rfl (i_range1 z_range x_int) (g_name sc_law.nd) (b_one (s_if (t_not (t_val (x_cal C__law_refused hr (by decide) (takes_of rfl rfl rfl rfl) (fun _ _ _ _ _ z => z) (a_cons (x_var 5) (a_cons (x_var 8) (a_cons (x_var 3) a_nil))) (aLen_cons (aLen_cons (aLen_cons aLen_nil)))))) (b_one (s_ret x_bl)) b_nil))))))
  (b_one (s_ret (x_eq hu (x_comp 0 (k_name 5) rfl sc_law.nd (i_range1 z_range x_int) (blkOk_by (own := [("_law_which", 5)]) rfl) (fun _ _ _ _ _ => (g_name sc_law.nd)) (fun _ _ _ _ _ => ts_nil) (fun _ _ _ _ _ => (x_cal C__law_asked hr (by decide) takes0 (fun _ _ _ _ _ _ => trivial) (a_cons (x_var 5) (a_cons (x_var 4) (a_cons (x_var 3) a_nil))) (aLen_cons (aLen_cons (aLen_cons aLen_nil)))))) (x_var 6))))))))))
theorem all_mk {l : PySem.W.OpenLaw} {w : World} {K : PySem.W.Frag} {h : Heap} {mg : Str → Option Value} {fa f0 f1 f2 f3 f4 f5 f6 f7 f8 f9 f10 f11 f12 f13 f14 f15 f16 f17 f18 f19 : Addr} (X : K.In h) (G : h.Ns mainGlobals mg) (hfa : mg "law" = some (.ref fa))
    {od0 an0 od1 an1 od2 an2 od3 an3 od4 an4 od5 an5 od6 an6 od7 an7 od8 an8 od9 an9 od10 an10 od11 an11 od12 an12 od13 an13 od14 an14 od15 an15 od16 an16 od17 an17 od18 an18 od19 an19 : Option Addr} {sl0 sl1 sl2 sl3 sl4 sl5 sl6 sl7 sl8 sl9 sl10 sl11 sl12 sl13 sl14 sl15 sl16 sl17 sl18 sl19 : Array (Option Value)} {oc0 kV0 dc0 pm0 cd0 ct0 oc1 kV1 dc1 pm1 cd1 ct1 oc2 kV2 dc2 pm2 cd2 ct2 oc3 kV3 dc3 pm3 cd3 ct3 oc4 kV4 dc4 pm4 cd4 ct4 oc5 kV5 dc5 pm5 cd5 ct5 oc6 kV6 dc6 pm6 cd6 ct6 oc7 kV7 dc7 pm7 cd7 ct7 oc8 kV8 dc8 pm8 cd8 ct8 oc9 kV9 dc9 pm9 cd9 ct9 oc10 kV10 dc10 pm10 cd10 ct10 oc11 kV11 dc11 pm11 cd11 ct11 oc12 kV12 dc12 pm12 cd12 ct12 oc13 kV13 dc13 pm13 cd13 ct13 oc14 kV14 dc14 pm14 cd14 ct14 oc15 kV15 dc15 pm15 cd15 ct15 oc16 kV16 dc16 pm16 cd16 ct16 oc17 kV17 dc17 pm17 cd17 ct17 oc18 kV18 dc18 pm18 cd18 ct18 oc19 kV19 dc19 pm19 cd19 ct19 : Value} {t_SIGNS : Tok} {C_NoRanking D_NoCount D_NoMarks D_NoWord D_NoRanking D_NoRow D_NoMove D_Clash D_NoSaying D_NoMachine D_NoRoom D_NoLetter D_TooMany D_NoNames D_NoText D_RankError : Addr} 
    (a0 : PySem.W.nsIn K mainGlobals "look_ranking" = some (some (.ref f0))) (l0 : K.lookup f0 = some ⟨oc0, od0, .func (PySem.W.fnOf "look_ranking" "look_ranking" (defArgs st_look_ranking) (defBody st_look_ranking) (defScope st_look_ranking) .none kV0 dc0 pm0 an0 cd0 ct0), sl0⟩) (c0 : PySem.W.codeIn K cd0 "look_ranking" = true) (k0 : PySem.W.keepIn K (.ref f0) = true)
    (a1 : PySem.W.nsIn K mainGlobals "beats" = some (some (.ref f1))) (l1 : K.lookup f1 = some ⟨oc1, od1, .func (PySem.W.fnOf "beats" "beats" (defArgs st_beats) (defBody st_beats) (defScope st_beats) .none kV1 dc1 pm1 an1 cd1 ct1), sl1⟩) (c1 : PySem.W.codeIn K cd1 "beats" = true) (k1 : PySem.W.keepIn K (.ref f1) = true)
    (a2 : PySem.W.nsIn K mainGlobals "best" = some (some (.ref f2))) (l2 : K.lookup f2 = some ⟨oc2, od2, .func (PySem.W.fnOf "best" "best" (defArgs st_best) (defBody st_best) (defScope st_best) .none kV2 dc2 pm2 an2 cd2 ct2), sl2⟩) (c2 : PySem.W.codeIn K cd2 "best" = true) (k2 : PySem.W.keepIn K (.ref f2) = true)
    (a3 : PySem.W.nsIn K mainGlobals "added" = some (some (.ref f3))) (l3 : K.lookup f3 = some ⟨oc3, od3, .func (PySem.W.fnOf "added" "added" (defArgs st_added) (defBody st_added) (defScope st_added) .none kV3 dc3 pm3 an3 cd3 ct3), sl3⟩) (c3 : PySem.W.codeIn K cd3 "added" = true) (k3 : PySem.W.keepIn K (.ref f3) = true)
    (a4 : PySem.W.nsIn K mainGlobals "spread" = some (some (.ref f4))) (l4 : K.lookup f4 = some ⟨oc4, od4, .func (PySem.W.fnOf "spread" "spread" (defArgs st_spread) (defBody st_spread) (defScope st_spread) .none kV4 dc4 pm4 an4 cd4 ct4), sl4⟩) (c4 : PySem.W.codeIn K cd4 "spread" = true) (k4 : PySem.W.keepIn K (.ref f4) = true)
    (a5 : PySem.W.nsIn K mainGlobals "way_to" = some (some (.ref f5))) (l5 : K.lookup f5 = some ⟨oc5, od5, .func (PySem.W.fnOf "way_to" "way_to" (defArgs st_way_to) (defBody st_way_to) (defScope st_way_to) .none kV5 dc5 pm5 an5 cd5 ct5), sl5⟩) (c5 : PySem.W.codeIn K cd5 "way_to" = true) (k5 : PySem.W.keepIn K (.ref f5) = true)
    (a6 : PySem.W.nsIn K mainGlobals "best_walk" = some (some (.ref f6))) (l6 : K.lookup f6 = some ⟨oc6, od6, .func (PySem.W.fnOf "best_walk" "best_walk" (defArgs st_best_walk) (defBody st_best_walk) (defScope st_best_walk) .none kV6 dc6 pm6 an6 cd6 ct6), sl6⟩) (c6 : PySem.W.codeIn K cd6 "best_walk" = true) (k6 : PySem.W.keepIn K (.ref f6) = true)
    (a7 : PySem.W.nsIn K mainGlobals "fits" = some (some (.ref f7))) (l7 : K.lookup f7 = some ⟨oc7, od7, .func (PySem.W.fnOf "fits" "fits" (defArgs st_fits) (defBody st_fits) (defScope st_fits) .none kV7 dc7 pm7 an7 cd7 ct7), sl7⟩) (c7 : PySem.W.codeIn K cd7 "fits" = true) (k7 : PySem.W.keepIn K (.ref f7) = true)
    (a8 : PySem.W.nsIn K mainGlobals "row_of" = some (some (.ref f8))) (l8 : K.lookup f8 = some ⟨oc8, od8, .func (PySem.W.fnOf "row_of" "row_of" (defArgs st_row_of) (defBody st_row_of) (defScope st_row_of) .none kV8 dc8 pm8 an8 cd8 ct8), sl8⟩) (c8 : PySem.W.codeIn K cd8 "row_of" = true) (k8 : PySem.W.keepIn K (.ref f8) = true)
    (a9 : PySem.W.nsIn K mainGlobals "tongue" = some (some (.ref f9))) (l9 : K.lookup f9 = some ⟨oc9, od9, .func (PySem.W.fnOf "tongue" "tongue" (defArgs st_tongue) (defBody st_tongue) (defScope st_tongue) .none kV9 dc9 pm9 an9 cd9 ct9), sl9⟩) (c9 : PySem.W.codeIn K cd9 "tongue" = true) (k9 : PySem.W.keepIn K (.ref f9) = true)
    (a10 : PySem.W.nsIn K mainGlobals "_law_asked" = some (some (.ref f10))) (l10 : K.lookup f10 = some ⟨oc10, od10, .func (PySem.W.fnOf "_law_asked" "_law_asked" (defArgs st__law_asked) (defBody st__law_asked) (defScope st__law_asked) .none kV10 dc10 pm10 an10 cd10 ct10), sl10⟩) (c10 : PySem.W.codeIn K cd10 "_law_asked" = true) (k10 : PySem.W.keepIn K (.ref f10) = true)
    (a11 : PySem.W.nsIn K mainGlobals "_law_mixed" = some (some (.ref f11))) (l11 : K.lookup f11 = some ⟨oc11, od11, .func (PySem.W.fnOf "_law_mixed" "_law_mixed" (defArgs st__law_mixed) (defBody st__law_mixed) (defScope st__law_mixed) .none kV11 dc11 pm11 an11 cd11 ct11), sl11⟩) (c11 : PySem.W.codeIn K cd11 "_law_mixed" = true) (k11 : PySem.W.keepIn K (.ref f11) = true)
    (a12 : PySem.W.nsIn K mainGlobals "_law_bad" = some (some (.ref f12))) (l12 : K.lookup f12 = some ⟨oc12, od12, .func (PySem.W.fnOf "_law_bad" "_law_bad" (defArgs st__law_bad) (defBody st__law_bad) (defScope st__law_bad) .none kV12 dc12 pm12 an12 cd12 ct12), sl12⟩) (c12 : PySem.W.codeIn K cd12 "_law_bad" = true) (k12 : PySem.W.keepIn K (.ref f12) = true)
    (a13 : PySem.W.nsIn K mainGlobals "_law_cell_at" = some (some (.ref f13))) (l13 : K.lookup f13 = some ⟨oc13, od13, .func (PySem.W.fnOf "_law_cell_at" "_law_cell_at" (defArgs st__law_cell_at) (defBody st__law_cell_at) (defScope st__law_cell_at) .none kV13 dc13 pm13 an13 cd13 ct13), sl13⟩) (c13 : PySem.W.codeIn K cd13 "_law_cell_at" = true) (k13 : PySem.W.keepIn K (.ref f13) = true)
    (a14 : PySem.W.nsIn K mainGlobals "_law_ranking" = some (some (.ref f14))) (l14 : K.lookup f14 = some ⟨oc14, od14, .func (PySem.W.fnOf "_law_ranking" "_law_ranking" (defArgs st__law_ranking) (defBody st__law_ranking) (defScope st__law_ranking) .none kV14 dc14 pm14 an14 cd14 ct14), sl14⟩) (c14 : PySem.W.codeIn K cd14 "_law_ranking" = true) (k14 : PySem.W.keepIn K (.ref f14) = true)
    (a15 : PySem.W.nsIn K mainGlobals "_law_kinds" = some (some (.ref f15))) (l15 : K.lookup f15 = some ⟨oc15, od15, .func (PySem.W.fnOf "_law_kinds" "_law_kinds" (defArgs st__law_kinds) (defBody st__law_kinds) (defScope st__law_kinds) .none kV15 dc15 pm15 an15 cd15 ct15), sl15⟩) (c15 : PySem.W.codeIn K cd15 "_law_kinds" = true) (k15 : PySem.W.keepIn K (.ref f15) = true)
    (a16 : PySem.W.nsIn K mainGlobals "_law_refused" = some (some (.ref f16))) (l16 : K.lookup f16 = some ⟨oc16, od16, .func (PySem.W.fnOf "_law_refused" "_law_refused" (defArgs st__law_refused) (defBody st__law_refused) (defScope st__law_refused) .none kV16 dc16 pm16 an16 cd16 ct16), sl16⟩) (c16 : PySem.W.codeIn K cd16 "_law_refused" = true) (k16 : PySem.W.keepIn K (.ref f16) = true)
    (a17 : PySem.W.nsIn K mainGlobals "_law_marks" = some (some (.ref f17))) (l17 : K.lookup f17 = some ⟨oc17, od17, .func (PySem.W.fnOf "_law_marks" "_law_marks" (defArgs st__law_marks) (defBody st__law_marks) (defScope st__law_marks) .none kV17 dc17 pm17 an17 cd17 ct17), sl17⟩) (c17 : PySem.W.codeIn K cd17 "_law_marks" = true) (k17 : PySem.W.keepIn K (.ref f17) = true)
    (a18 : PySem.W.nsIn K mainGlobals "_law_word" = some (some (.ref f18))) (l18 : K.lookup f18 = some ⟨oc18, od18, .func (PySem.W.fnOf "_law_word" "_law_word" (defArgs st__law_word) (defBody st__law_word) (defScope st__law_word) .none kV18 dc18 pm18 an18 cd18 ct18), sl18⟩) (c18 : PySem.W.codeIn K cd18 "_law_word" = true) (k18 : PySem.W.keepIn K (.ref f18) = true)
    (a19 : PySem.W.nsIn K mainGlobals "law" = some (some (.ref f19))) (l19 : K.lookup f19 = some ⟨oc19, od19, .func (PySem.W.fnOf "law" "law" (defArgs st_law) (defBody st_law) (defScope st_law) .none kV19 dc19 pm19 an19 cd19 ct19), sl19⟩) (c19 : PySem.W.codeIn K cd19 "law" = true) (k19 : PySem.W.keepIn K (.ref f19) = true)
    (z_ValueError : PySem.W.nsIn K mainGlobals "ValueError" = some none)
    (z_any : PySem.W.nsIn K mainGlobals "any" = some none)
    (z_int : PySem.W.nsIn K mainGlobals "int" = some none)
    (z_isinstance : PySem.W.nsIn K mainGlobals "isinstance" = some none)
    (z_len : PySem.W.nsIn K mainGlobals "len" = some none)
    (z_list : PySem.W.nsIn K mainGlobals "list" = some none)
    (z_max : PySem.W.nsIn K mainGlobals "max" = some none)
    (z_range : PySem.W.nsIn K mainGlobals "range" = some none)
    (z_sorted : PySem.W.nsIn K mainGlobals "sorted" = some none)
    (z_tuple : PySem.W.nsIn K mainGlobals "tuple" = some none)
    (z_zip : PySem.W.nsIn K mainGlobals "zip" = some none)
    (g_SIGNS : PySem.W.nsIn K mainGlobals "SIGNS" = some (some (.str "WeL" t_SIGNS)))
    (ns_NoRanking : PySem.W.nsIn K mainGlobals "NoRanking" = some (some (.ref C_NoRanking))) (xx_NoRanking : PySem.W.excIn K C_NoRanking [.type "ValueError", .type "Exception", .type "BaseException", .type "object"] "ValueError.__new__" = true) (xk_NoRanking : PySem.W.keepIn K (.ref C_NoRanking) = true) (xb_NoRanking : PySem.W.subIn K (.ref C_NoRanking) (.type "BaseException") = some true) (xt_NoRanking : PySem.W.typeIn K (.ref C_NoRanking) = some (.type "type"))
    (ea_NoRanking : PySem.W.findIn K (.ref C_NoRanking) "__getattribute__" = some (some (.builtin "BaseException.__getattribute__"))) (eb_NoRanking : PySem.W.findIn K (.ref C_NoRanking) "__getattr__" = some none) (ec_NoRanking : PySem.W.hasDictIn K C_NoRanking = true) (ed_NoRanking : PySem.W.findIn K (.ref C_NoRanking) "__class__" = some (some (.builtin "object.__class__"))) (ee_NoRanking : PySem.W.mroIn K C_NoRanking (.type "object") = some true) (ef_NoRanking : PySem.W.subIn K (.ref C_NoRanking) (.ref C_NoRanking) = some true)
    (nt_NoCount : PySem.W.nsIn K mainGlobals "NoCount" = some (some (.ref D_NoCount))) (ni_NoCount : PySem.W.isClsIn K D_NoCount = true) (ny_NoCount : PySem.W.typeIn K (.ref D_NoCount) = some (.type "type"))
    (nt_NoMarks : PySem.W.nsIn K mainGlobals "NoMarks" = some (some (.ref D_NoMarks))) (ni_NoMarks : PySem.W.isClsIn K D_NoMarks = true) (ny_NoMarks : PySem.W.typeIn K (.ref D_NoMarks) = some (.type "type"))
    (nt_NoWord : PySem.W.nsIn K mainGlobals "NoWord" = some (some (.ref D_NoWord))) (ni_NoWord : PySem.W.isClsIn K D_NoWord = true) (ny_NoWord : PySem.W.typeIn K (.ref D_NoWord) = some (.type "type"))
    (nt_NoRanking : PySem.W.nsIn K mainGlobals "NoRanking" = some (some (.ref D_NoRanking))) (ni_NoRanking : PySem.W.isClsIn K D_NoRanking = true) (ny_NoRanking : PySem.W.typeIn K (.ref D_NoRanking) = some (.type "type"))
    (nt_NoRow : PySem.W.nsIn K mainGlobals "NoRow" = some (some (.ref D_NoRow))) (ni_NoRow : PySem.W.isClsIn K D_NoRow = true) (ny_NoRow : PySem.W.typeIn K (.ref D_NoRow) = some (.type "type"))
    (nt_NoMove : PySem.W.nsIn K mainGlobals "NoMove" = some (some (.ref D_NoMove))) (ni_NoMove : PySem.W.isClsIn K D_NoMove = true) (ny_NoMove : PySem.W.typeIn K (.ref D_NoMove) = some (.type "type"))
    (nt_Clash : PySem.W.nsIn K mainGlobals "Clash" = some (some (.ref D_Clash))) (ni_Clash : PySem.W.isClsIn K D_Clash = true) (ny_Clash : PySem.W.typeIn K (.ref D_Clash) = some (.type "type"))
    (nt_NoSaying : PySem.W.nsIn K mainGlobals "NoSaying" = some (some (.ref D_NoSaying))) (ni_NoSaying : PySem.W.isClsIn K D_NoSaying = true) (ny_NoSaying : PySem.W.typeIn K (.ref D_NoSaying) = some (.type "type"))
    (nt_NoMachine : PySem.W.nsIn K mainGlobals "NoMachine" = some (some (.ref D_NoMachine))) (ni_NoMachine : PySem.W.isClsIn K D_NoMachine = true) (ny_NoMachine : PySem.W.typeIn K (.ref D_NoMachine) = some (.type "type"))
    (nt_NoRoom : PySem.W.nsIn K mainGlobals "NoRoom" = some (some (.ref D_NoRoom))) (ni_NoRoom : PySem.W.isClsIn K D_NoRoom = true) (ny_NoRoom : PySem.W.typeIn K (.ref D_NoRoom) = some (.type "type"))
    (nt_NoLetter : PySem.W.nsIn K mainGlobals "NoLetter" = some (some (.ref D_NoLetter))) (ni_NoLetter : PySem.W.isClsIn K D_NoLetter = true) (ny_NoLetter : PySem.W.typeIn K (.ref D_NoLetter) = some (.type "type"))
    (nt_TooMany : PySem.W.nsIn K mainGlobals "TooMany" = some (some (.ref D_TooMany))) (ni_TooMany : PySem.W.isClsIn K D_TooMany = true) (ny_TooMany : PySem.W.typeIn K (.ref D_TooMany) = some (.type "type"))
    (nt_NoNames : PySem.W.nsIn K mainGlobals "NoNames" = some (some (.ref D_NoNames))) (ni_NoNames : PySem.W.isClsIn K D_NoNames = true) (ny_NoNames : PySem.W.typeIn K (.ref D_NoNames) = some (.type "type"))
    (nt_NoText : PySem.W.nsIn K mainGlobals "NoText" = some (some (.ref D_NoText))) (ni_NoText : PySem.W.isClsIn K D_NoText = true) (ny_NoText : PySem.W.typeIn K (.ref D_NoText) = some (.type "type"))
    (nt_RankError : PySem.W.nsIn K mainGlobals "RankError" = some (some (.ref D_RankError))) (ni_RankError : PySem.W.isClsIn K D_RankError = true) (ny_RankError : PySem.W.typeIn K (.ref D_RankError) = some (.type "type"))
    (eg : PySem.W.specialIn K (.builtin "object.__class__") "__get__" = some (some (.builtin "getset_descriptor.__get__"))) (eh : PySem.W.takesIn K (.builtin "object.__class__") = some true)
    (sk_NoRanking_NoCount : PySem.W.subIn K (.ref C_NoRanking) (.ref D_NoCount) = some false)
    (sk_NoRanking_NoMarks : PySem.W.subIn K (.ref C_NoRanking) (.ref D_NoMarks) = some false)
    (sk_NoRanking_NoWord : PySem.W.subIn K (.ref C_NoRanking) (.ref D_NoWord) = some false)
    (sk_NoRanking_NoRanking : PySem.W.subIn K (.ref C_NoRanking) (.ref D_NoRanking) = some true)
    (sk_NoRanking_NoRow : PySem.W.subIn K (.ref C_NoRanking) (.ref D_NoRow) = some false)
    (sk_NoRanking_NoMove : PySem.W.subIn K (.ref C_NoRanking) (.ref D_NoMove) = some false)
    (sk_NoRanking_Clash : PySem.W.subIn K (.ref C_NoRanking) (.ref D_Clash) = some false)
    (sk_NoRanking_NoSaying : PySem.W.subIn K (.ref C_NoRanking) (.ref D_NoSaying) = some false)
    (sk_NoRanking_NoMachine : PySem.W.subIn K (.ref C_NoRanking) (.ref D_NoMachine) = some false)
    (sk_NoRanking_NoRoom : PySem.W.subIn K (.ref C_NoRanking) (.ref D_NoRoom) = some false)
    (sk_NoRanking_NoLetter : PySem.W.subIn K (.ref C_NoRanking) (.ref D_NoLetter) = some false)
    (sk_NoRanking_TooMany : PySem.W.subIn K (.ref C_NoRanking) (.ref D_TooMany) = some false)
    (sk_NoRanking_NoNames : PySem.W.subIn K (.ref C_NoRanking) (.ref D_NoNames) = some false)
    (sk_NoRanking_NoText : PySem.W.subIn K (.ref C_NoRanking) (.ref D_NoText) = some false)
    (sk_NoRanking_ValueError : PySem.W.subIn K (.ref C_NoRanking) (.type "ValueError") = some true)
    (sx_NoRanking_RankError : PySem.W.subIn K (.ref C_NoRanking) (.ref D_RankError) = some true)
    (sb_RankError : PySem.W.subIn K (.ref D_RankError) (.type "BaseException") = some true) (T : ∀ ns : List Int, ns.length ≤ 63 → F_law [.scr ns] = .ok (.val (.bl true))) :
    ∃ fd : FuncData, (∀ (s : Shared) (v : Value), BindsTo s fd ⟨[v], []⟩ [("_law_script", v)]) ∧ ∀ base : Heap, K.In base → base.Ns mainGlobals mg → FnOk l.prog w K mg base (L2.CX l.prog w) 7 fa fd ["_law_script"] (spLaw K) := by
  have e := hfa.symm.trans (PySem.W.mg_of X G a19)
  cases e
  have H0 : Has K mg "look_ranking" st_look_ranking ["ranking", "count"] _ _ := has_of X G a0 l0 c0 k0 fun F => F.binds (ps := ["ranking", "count"]) fun _ _ _ _ _ _ us hl => match us, hl with | [_, _], _ => rfl
  have H1 : Has K mg "beats" st_beats ["ranking", "one", "two"] _ _ := has_of X G a1 l1 c1 k1 fun F => F.binds (ps := ["ranking", "one", "two"]) fun _ _ _ _ _ _ us hl => match us, hl with | [_, _, _], _ => rfl
  have H2 : Has K mg "best" st_best ["ranking", "word"] _ _ := has_of X G a2 l2 c2 k2 fun F => F.binds (ps := ["ranking", "word"]) fun _ _ _ _ _ _ us hl => match us, hl with | [_, _], _ => rfl
  have H3 : Has K mg "added" st_added ["one", "two"] _ _ := has_of X G a3 l3 c3 k3 fun F => F.binds (ps := ["one", "two"]) fun _ _ _ _ _ _ us hl => match us, hl with | [_, _], _ => rfl
  have H4 : Has K mg "spread" st_spread ["count", "machine", "ranking"] _ _ := has_of X G a4 l4 c4 k4 fun F => F.binds (ps := ["count", "machine", "ranking"]) fun _ _ _ _ _ _ us hl => match us, hl with | [_, _, _], _ => rfl
  have H5 : Has K mg "way_to" st_way_to ["machine", "found", "room"] _ _ := has_of X G a5 l5 c5 k5 fun F => F.binds (ps := ["machine", "found", "room"]) fun _ _ _ _ _ _ us hl => match us, hl with | [_, _, _], _ => rfl
  have H6 : Has K mg "best_walk" st_best_walk ["count", "machine", "ranking"] _ _ := has_of X G a6 l6 c6 k6 fun F => F.binds (ps := ["count", "machine", "ranking"]) fun _ _ _ _ _ _ us hl => match us, hl with | [_, _, _], _ => rfl
  have H7 : Has K mg "fits" st_fits ["ranking", "row"] _ _ := has_of X G a7 l7 c7 k7 fun F => F.binds (ps := ["ranking", "row"]) fun _ _ _ _ _ _ us hl => match us, hl with | [_, _], _ => rfl
  have H8 : Has K mg "row_of" st_row_of ["one", "two"] _ _ := has_of X G a8 l8 c8 k8 fun F => F.binds (ps := ["one", "two"]) fun _ _ _ _ _ _ us hl => match us, hl with | [_, _], _ => rfl
  have H9 : Has K mg "tongue" st_tongue ["ranking", "words"] _ _ := has_of X G a9 l9 c9 k9 fun F => F.binds (ps := ["ranking", "words"]) fun _ _ _ _ _ _ us hl => match us, hl with | [_, _], _ => rfl
  have H10 : Has K mg "_law_asked" st__law_asked ["_law_which", "_law_ranking_here", "_law_word_here"] _ _ := has_of X G a10 l10 c10 k10 fun F => F.binds (ps := ["_law_which", "_law_ranking_here", "_law_word_here"]) fun _ _ _ _ _ _ us hl => match us, hl with | [_, _, _], _ => rfl
  have H11 : Has K mg "_law_mixed" st__law_mixed ["_law_cell", "_law_many"] _ _ := has_of X G a11 l11 c11 k11 fun F => F.binds (ps := ["_law_cell", "_law_many"]) fun _ _ _ _ _ _ us hl => match us, hl with | [_, _], _ => rfl
  have H12 : Has K mg "_law_bad" st__law_bad ["_law_ranking_here", "_law_cell"] _ _ := has_of X G a12 l12 c12 k12 fun F => F.binds (ps := ["_law_ranking_here", "_law_cell"]) fun _ _ _ _ _ _ us hl => match us, hl with | [_, _], _ => rfl
  have H13 : Has K mg "_law_cell_at" st__law_cell_at ["_law_script", "_law_k"] _ _ := has_of X G a13 l13 c13 k13 fun F => F.binds (ps := ["_law_script", "_law_k"]) fun _ _ _ _ _ _ us hl => match us, hl with | [_, _], _ => rfl
  have H14 : Has K mg "_law_ranking" st__law_ranking ["_law_cell", "_law_count"] _ _ := has_of X G a14 l14 c14 k14 fun F => F.binds (ps := ["_law_cell", "_law_count"]) fun _ _ _ _ _ _ us hl => match us, hl with | [_, _], _ => rfl
  have H15 : Has K mg "_law_kinds" st__law_kinds ["_law_e"] _ _ := has_of X G a15 l15 c15 k15 fun F => F.binds (ps := ["_law_e"]) fun _ _ _ _ _ _ us hl => match us, hl with | [_], _ => rfl
  have H16 : Has K mg "_law_refused" st__law_refused ["_law_which", "_law_ranking_here", "_law_word_here"] _ _ := has_of X G a16 l16 c16 k16 fun F => F.binds (ps := ["_law_which", "_law_ranking_here", "_law_word_here"]) fun _ _ _ _ _ _ us hl => match us, hl with | [_, _, _], _ => rfl
  have H17 : Has K mg "_law_marks" st__law_marks ["_law_cell", "_law_count"] _ _ := has_of X G a17 l17 c17 k17 fun F => F.binds (ps := ["_law_cell", "_law_count"]) fun _ _ _ _ _ _ us hl => match us, hl with | [_, _], _ => rfl
  have H18 : Has K mg "_law_word" st__law_word ["_law_cells", "_law_count"] _ _ := has_of X G a18 l18 c18 k18 fun F => F.binds (ps := ["_law_cells", "_law_count"]) fun _ _ _ _ _ _ us hl => match us, hl with | [_, _], _ => rfl
  have H19 : Has K mg "law" st_law ["_law_script"] _ _ := has_of X G a19 l19 c19 k19 fun F => F.binds (ps := ["_law_script"]) fun _ _ _ _ _ _ us hl => match us, hl with | [_], _ => rfl
  have Z_ValueError := PySem.W.mg_none_of X G z_ValueError
  have Z_any := PySem.W.mg_none_of X G z_any
  have Z_int := PySem.W.mg_none_of X G z_int
  have Z_isinstance := PySem.W.mg_none_of X G z_isinstance
  have Z_len := PySem.W.mg_none_of X G z_len
  have Z_list := PySem.W.mg_none_of X G z_list
  have Z_max := PySem.W.mg_none_of X G z_max
  have Z_range := PySem.W.mg_none_of X G z_range
  have Z_sorted := PySem.W.mg_none_of X G z_sorted
  have Z_tuple := PySem.W.mg_none_of X G z_tuple
  have Z_zip := PySem.W.mg_none_of X G z_zip
  have G_SIGNS := PySem.W.mg_of X G g_SIGNS
  have E_NoRanking : Exc1 K mg "NoRanking" C_NoRanking := ⟨PySem.W.mg_of X G ns_NoRanking, ns_NoRanking, xx_NoRanking, xk_NoRanking, xb_NoRanking, xt_NoRanking⟩
  have e_NoRanking : ExcC K C_NoRanking := ⟨ea_NoRanking, eb_NoRanking, xb_NoRanking, ec_NoRanking, ed_NoRanking, eg, eh, ee_NoRanking⟩
  have m_NoCount := PySem.W.mg_of X G nt_NoCount
  have m_NoMarks := PySem.W.mg_of X G nt_NoMarks
  have m_NoWord := PySem.W.mg_of X G nt_NoWord
  have m_NoRanking := PySem.W.mg_of X G nt_NoRanking
  have m_NoRow := PySem.W.mg_of X G nt_NoRow
  have m_NoMove := PySem.W.mg_of X G nt_NoMove
  have m_Clash := PySem.W.mg_of X G nt_Clash
  have m_NoSaying := PySem.W.mg_of X G nt_NoSaying
  have m_NoMachine := PySem.W.mg_of X G nt_NoMachine
  have m_NoRoom := PySem.W.mg_of X G nt_NoRoom
  have m_NoLetter := PySem.W.mg_of X G nt_NoLetter
  have m_TooMany := PySem.W.mg_of X G nt_TooMany
  have m_NoNames := PySem.W.mg_of X G nt_NoNames
  have m_NoText := PySem.W.mg_of X G nt_NoText
  have m_RankError := PySem.W.mg_of X G nt_RankError
  have k_NoRanking_NoCount := kitE_own (K := K) ef_NoRanking ni_NoCount ny_NoCount sk_NoRanking_NoCount
  have k_NoRanking_NoMarks := kitE_own (K := K) ef_NoRanking ni_NoMarks ny_NoMarks sk_NoRanking_NoMarks
  have k_NoRanking_NoWord := kitE_own (K := K) ef_NoRanking ni_NoWord ny_NoWord sk_NoRanking_NoWord
  have k_NoRanking_NoRanking := kitE_own (K := K) ef_NoRanking ni_NoRanking ny_NoRanking sk_NoRanking_NoRanking
  have k_NoRanking_NoRow := kitE_own (K := K) ef_NoRanking ni_NoRow ny_NoRow sk_NoRanking_NoRow
  have k_NoRanking_NoMove := kitE_own (K := K) ef_NoRanking ni_NoMove ny_NoMove sk_NoRanking_NoMove
  have k_NoRanking_Clash := kitE_own (K := K) ef_NoRanking ni_Clash ny_Clash sk_NoRanking_Clash
  have k_NoRanking_NoSaying := kitE_own (K := K) ef_NoRanking ni_NoSaying ny_NoSaying sk_NoRanking_NoSaying
  have k_NoRanking_NoMachine := kitE_own (K := K) ef_NoRanking ni_NoMachine ny_NoMachine sk_NoRanking_NoMachine
  have k_NoRanking_NoRoom := kitE_own (K := K) ef_NoRanking ni_NoRoom ny_NoRoom sk_NoRanking_NoRoom
  have k_NoRanking_NoLetter := kitE_own (K := K) ef_NoRanking ni_NoLetter ny_NoLetter sk_NoRanking_NoLetter
  have k_NoRanking_TooMany := kitE_own (K := K) ef_NoRanking ni_TooMany ny_TooMany sk_NoRanking_TooMany
  have k_NoRanking_NoNames := kitE_own (K := K) ef_NoRanking ni_NoNames ny_NoNames sk_NoRanking_NoNames
  have k_NoRanking_NoText := kitE_own (K := K) ef_NoRanking ni_NoText ny_NoText sk_NoRanking_NoText
  have k_NoRanking_ValueError := kitE_val (K := K) (by decide +kernel) sk_NoRanking_ValueError
  have x_NoRanking_RankError := exm_own (K := K) sb_RankError ni_RankError ny_RankError sx_NoRanking_RankError
  refine ⟨PySem.W.fnOf "law" "law" (defArgs st_law) (defBody st_law) (defScope st_law) .none kV19 dc19 pm19 an19 cd19 ct19, fun s v => .of_eq rfl, fun base _ _ => ?_⟩
  have C_look_ranking : Cal l.prog w K mg base (XR K) 1 "look_ranking" F_look_ranking 2 := ok_look_ranking H0 Z_len Z_list Z_range Z_sorted E_NoRanking
  have C_beats : Cal l.prog w K mg base (XR K) 2 "beats" F_beats 3 := ok_beats H1 C_look_ranking Z_len
  have C_best : Cal l.prog w K mg base (XR K) 3 "best" F_best 2 := ok_best H2 C_beats C_look_ranking Z_any Z_len Z_range
  have C_added : Cal l.prog w K mg base (XR K) 1 "added" F_added 2 := ok_added H3 Z_tuple Z_zip
  have C_spread : Cal l.prog w K mg base (XR K) 3 "spread" F_spread 3 := ok_spread H4 C_added C_beats Z_len Z_range Z_tuple
  have C_way_to : Cal l.prog w K mg base (XR K) 1 "way_to" F_way_to 3 := ok_way_to H5 
  have C_best_walk : Cal l.prog w K mg base (XR K) 4 "best_walk" F_best_walk 3 := ok_best_walk H6 C_beats C_spread C_way_to Z_len Z_range Z_tuple
  have C_fits : Cal l.prog w K mg base (XR K) 2 "fits" F_fits 2 := ok_fits H7 C_look_ranking Z_len
  have C_row_of : Cal l.prog w K mg base (XR K) 1 "row_of" F_row_of 2 := ok_row_of H8 Z_int Z_zip G_SIGNS
  have C_tongue : Cal l.prog w K mg base (XR K) 4 "tongue" F_tongue 2 := ok_tongue H9 C_best Z_tuple
  have C__law_asked : Cal l.prog w K mg base (XR K) 5 "_law_asked" F__law_asked 3 := ok__law_asked H10 C_beats C_best C_best_walk C_fits C_row_of C_tongue Z_len
  have C__law_mixed : Cal l.prog w K mg base (XR K) 1 "_law_mixed" F__law_mixed 2 := ok__law_mixed H11 Z_range
  have C__law_bad : Cal l.prog w K mg base (XR K) 2 "_law_bad" F__law_bad 2 := ok__law_bad H12 C__law_mixed Z_len
  have C__law_cell_at : Cal l.prog w K mg base (XR K) 1 "_law_cell_at" F__law_cell_at 2 := ok__law_cell_at H13 Z_len
  have C__law_ranking : Cal l.prog w K mg base (XR K) 1 "_law_ranking" F__law_ranking 2 := ok__law_ranking H14 Z_range Z_tuple
  have C__law_kinds : Cal l.prog w K mg base (XR K) 1 "_law_kinds" F__law_kinds 1 := ok__law_kinds H15 Z_ValueError Z_isinstance E_NoRanking e_NoRanking k_NoRanking_NoCount m_NoCount k_NoRanking_NoMarks m_NoMarks k_NoRanking_NoWord m_NoWord k_NoRanking_NoRanking m_NoRanking k_NoRanking_NoRow m_NoRow k_NoRanking_NoMove m_NoMove k_NoRanking_Clash m_Clash k_NoRanking_NoSaying m_NoSaying k_NoRanking_NoMachine m_NoMachine k_NoRanking_NoRoom m_NoRoom k_NoRanking_NoLetter m_NoLetter k_NoRanking_TooMany m_TooMany k_NoRanking_NoNames m_NoNames k_NoRanking_NoText m_NoText k_NoRanking_ValueError
  have C__law_refused : Cal l.prog w K mg base (XR K) 6 "_law_refused" F__law_refused 3 := ok__law_refused H16 C__law_asked C__law_kinds E_NoRanking x_NoRanking_RankError m_RankError
  have C__law_marks : Cal l.prog w K mg base (XR K) 2 "_law_marks" F__law_marks 2 := ok__law_marks H17 C__law_mixed Z_range Z_tuple
  have C__law_word : Cal l.prog w K mg base (XR K) 3 "_law_word" F__law_word 2 := ok__law_word H18 C__law_marks C__law_mixed Z_len Z_list Z_max Z_tuple
  exact ok_law H19 C__law_asked C__law_bad C__law_cell_at C__law_ranking C__law_refused C__law_word Z_range T
end Tg

namespace Tg
open PySem L2
/-! _law_cell_at, _law_mixed -/
def cellAt (ns : List Int) (k : Int) : Int := (ns[k.toNat]?).getD 0
@[simp] theorem cell_at_eq {ns : List Int} {k : Int} (h : 0 ≤ k) : F__law_cell_at [.scr ns, .int k] = .ok (.val (.int (cellAt ns k))) := by
  refine W_eq (runB_W ?_)
  simp only [body__law_cell_at, sSeq_eq, sIf_eq]
  by_cases hk : k < ns.length
  · have hk' : k.toNat < ns.length := by omega
    simp [hk, atI_of h hk, cellAt, List.getElem?_eq_getElem hk']
  · simp [hk, cellAt, List.getElem?_eq_none (show ns.length ≤ k.toNat by omega)]
end Tg

namespace Tg
open PySem L2
/-! _law_mixed -/
theorem mixed_W {c m : Int} (h0 : 0 ≤ m) (h1 : m ≤ 60000) : W (F__law_mixed [.int c, .int m]) (fun s => ∃ xs : List Int, s = .own (xs.map .int) ∧ xs.length = m.toNat ∧ ∀ x ∈ xs, 0 ≤ x) NE := by
  have hr : -1000000 ≤ m ∧ m ≤ 1000000 := by omega
  refine runB_W ?_
  simp [body__law_mixed]
  by_cases h : c % 2 = 1
  · simp [h, hr]
    refine W_bind.2 (W_range (fun i e => ∃ (xs : List Int) (y : Int) (z : Option S), e = [some (.val (.int c)), some (.val (.int m)), some (.own (xs.map .int)), some (.val (.int y)), z] ∧ xs.length = i ∧ ∀ x ∈ xs, 0 ≤ x) ⟨[], _, _, rfl, rfl, by simp⟩ ?_ ?_)
    · rintro i e hi ⟨xs, y, z, rfl, hl, hp⟩
      simp [hl]
      refine ⟨by omega, xs ++ [y % 5040], by simp, by simp [hl], ?_⟩
      intro x hx
      rcases List.mem_append.mp hx with hx | hx
      · exact hp x hx
      · rw [List.mem_singleton.mp hx]; omega
    · rintro e ⟨xs, y, z, rfl, hl, hp⟩
      simp
      exact ⟨xs, rfl, hl, hp⟩
  · have hb : ∀ z : Int, (z % 2147483647).natAbs < 2 ^ 200 := fun z => Nat.lt_of_lt_of_le (show _ < 2147483647 by omega) (by decide)
    simp [h, hr, hb]
    refine W_bind.2 (W_range (fun i e => ∃ (xs : List Int) (y : Int) (z : Option S), e = [some (.val (.int c)), some (.val (.int m)), some (.own (xs.map .int)), some (.val (.int y)), z] ∧ y.natAbs < 2 ^ 200 ∧ xs.length = i ∧ ∀ x ∈ xs, 0 ≤ x) ⟨[], _, _, rfl, ?_, rfl, by simp⟩ ?_ ?_)
    · exact hb _
    · rintro i e hi ⟨xs, y, z, rfl, hy, hl, hp⟩
      simp [hl, hy]
      refine ⟨by omega, xs ++ [(y * y + 48271 * y + i + 1) % 2147483647], _, ⟨by simp, rfl⟩, hb _, by simp [hl], ?_⟩
      intro x hx
      rcases List.mem_append.mp hx with hx | hx
      · exact hp x hx
      · rw [List.mem_singleton.mp hx]; omega
    · rintro e ⟨xs, y, z, rfl, hy, hl, hp⟩
      simp
      exact ⟨xs, rfl, hl, hp⟩
end Tg

namespace Tg
open PySem L2
/-! _law_marks, _law_word -/
abbrev tnum (w : List Int) : D := .tup (w.map .int)
@[simp] theorem flatL_tnum (xs : List (List Int)) : D.flatL (xs.map tnum) = true := flatL_map (fun w => by simp [tnum]) xs
@[simp] theorem flatL_tnum' (xs : List (List Int)) : D.flatL (xs.map fun w => D.tup (w.map .int)) = true := flatL_tnum xs
theorem most_at {y : Int} : ∃ z : Int, atI [D.int 2, D.int 3, D.int 10, D.int 10] (y % 4) = some (D.int z) ∧ 0 < z := by
  have h : y % 4 = 0 ∨ y % 4 = 1 ∨ y % 4 = 2 ∨ y % 4 = 3 := by omega
  rcases h with h | h | h | h <;> rw [h]
  · exact ⟨2, rfl, by decide⟩
  · exact ⟨3, rfl, by decide⟩
  · exact ⟨10, rfl, by decide⟩
  · exact ⟨10, rfl, by decide⟩
theorem marks_W {c n : Int} (h0 : 0 ≤ n) (h1 : n ≤ 1000) : W (F__law_marks [.int c, .int n]) (fun s => ∃ ms : List Int, s = .val (tnum ms) ∧ ms.length = n.toNat ∧ ∀ x ∈ ms, 0 ≤ x) NE := by
  have hr : -1000000 ≤ n ∧ n ≤ 1000000 := by omega
  refine runB_W ?_
  simp [body__law_marks]
  refine W_then (mixed_W (by omega) (by omega)) ?_
  rintro s ⟨xs, rfl, hl, hp⟩
  obtain ⟨last, hlast, _⟩ := atI_some (xs := xs) (i := n) (by omega) (by omega)
  obtain ⟨most, hmost, hpos⟩ := most_at (y := last)
  simp [hlast, hmost, hr]
  refine W_bind.2 (W_range (fun i e => ∃ (ms : List Int) (y z : Option S), e = [some (.val (.int c)), some (.val (.int n)), some (.own (xs.map .int)), some (.val (.int most)), some (.own (ms.map .int)), y, z] ∧ ms.length = i ∧ ∀ x ∈ ms, 0 ≤ x) ⟨[], _, _, rfl, rfl, by simp⟩ ?_ ?_)
  · rintro i e hi ⟨ms, y, z, rfl, hm, hq⟩
    have hi' : i < xs.length := by omega
    have hx := List.getElem?_eq_getElem hi'
    have hs : 0 < (i : Int) + 1 ∧ ((i : Int) + 1).natAbs < 2 ^ 200 := ⟨by omega, Nat.lt_of_lt_of_le (show _ < 2000 by omega) (by decide)⟩
    have fin : ∀ v : Int, 0 ≤ v → ∃ ms' : List Int, ms.map D.int ++ [D.int v] = ms'.map D.int ∧ ms'.length = i + 1 ∧ ∀ x ∈ ms', 0 ≤ x := fun v hv => ⟨ms ++ [v], by simp, by simp [hm], fun x hx => by
      rcases List.mem_append.mp hx with hx | hx
      · exact hq x hx
      · rw [List.mem_singleton.mp hx]; exact hv⟩
    have f1 := fin (xs[i] % most) (Int.emod_nonneg _ (by omega))
    have f2 := fin (c / ((i : Int) + 1) % 1000000000000000000000000000000000000000) (Int.emod_nonneg _ (by decide))
    simp [hx, hlast, hpos]
    by_cases c1 : last % 8 = 7
    · by_cases c2 : xs[i] / 10 % 2 = 1
      · simp [c1, c2, hs, hm, hx]
        exact ⟨by omega, f2⟩
      · simp [c1, c2, hm, hx]
        exact ⟨by omega, f1⟩
    · simp [c1, hm]
      exact ⟨by omega, f1⟩
  · rintro e ⟨ms, y, z, rfl, hm, hq⟩
    simp
    exact ⟨ms, rfl, hm, hq⟩
def words (ws : List (List Int)) : D := .tup (ws.map tnum)
theorem word_W {cells : List Int} {n : Int} (h0 : 1 ≤ n) (h1 : n ≤ 1000) (hc : cells.length ≤ 1000) : W (F__law_word [.lst (cells.map .int), .int n]) (fun s => ∃ ws : List (List Int), s = .val (words ws) ∧ ws.length = cells.length ∧ ∀ w ∈ ws, w.length = n.toNat ∧ ∀ x ∈ w, 0 ≤ x) NE := by
  have hr : -1000000 ≤ n ∧ n ≤ 1000000 := by omega
  refine runB_W ?_
  simp [body__law_word]
  refine W_bind.2 (W_for (fun i e => ∃ (ws : List (List Int)) (x y z : Option S), e = [some (.val (.lst (cells.map .int))), some (.val (.int n)), some (.own (ws.map tnum)), x, y, z] ∧ ws.length = i ∧ ∀ w ∈ ws, w.length = n.toNat ∧ ∀ x ∈ w, 0 ≤ x) ⟨[], _, _, _, rfl, rfl, by simp⟩ ?_ ?_)
  · rintro i d e hd ⟨ws, x, y, z, rfl, hl, hp⟩
    have hi : i < cells.length := by
      have q := (List.getElem?_eq_some_iff.mp hd).1
      simpa using q
    obtain ⟨c, rfl⟩ : ∃ c : Int, d = .int c := by
      rw [List.getElem?_map, List.getElem?_eq_getElem hi] at hd
      exact ⟨_, (Option.some.inj hd).symm⟩
    have fin : ∀ v : List Int, (v.length = n.toNat ∧ ∀ x ∈ v, 0 ≤ x) → ∃ ws' : List (List Int), ws.map tnum ++ [tnum v] = ws'.map tnum ∧ ws'.length = i + 1 ∧ ∀ w ∈ ws', w.length = n.toNat ∧ ∀ x ∈ w, 0 ≤ x := fun v hv => ⟨ws ++ [v], by simp, by simp [hl], fun w hw => by
      rcases List.mem_append.mp hw with hw | hw
      · exact hp w hw
      · rw [List.mem_singleton.mp hw]; exact hv⟩
    simp
    refine W_then (marks_W (by omega) h1) ?_
    rintro s ⟨ms, rfl, hm, hmp⟩
    simp
    refine W_then (mixed_W (by omega) (by omega)) ?_
    rintro s ⟨xs, rfl, hx, hxp⟩
    obtain ⟨x0, x1, x2, x3, rfl⟩ : ∃ x0 x1 x2 x3, xs = [x0, x1, x2, x3] := by
      match xs, hx with
      | [a, b, c, d], _ => exact ⟨a, b, c, d, rfl⟩
    by_cases c1 : x0 % 4 = 1
    · by_cases c2 : 0 < ws.length
      · obtain ⟨w, hw, hwm⟩ := atI_some (xs := ws) (i := x1 % ws.length) (by have := Int.emod_nonneg x1 (show (ws.length : Int) ≠ 0 by omega); omega) (Int.emod_lt_of_pos _ (by omega))
        have hwl := hp w hwm
        have hn0 : 0 < n := by omega
        have hi0 := Int.emod_nonneg x2 (show n ≠ 0 by omega)
        have hi1 := Int.emod_lt_of_pos x2 hn0
        obtain ⟨u, hu, _⟩ := atI_some (xs := w) (i := x2 % n) (by omega) (by omega)
        have hix := ixN_of (n := w.length) hi0 (by omega)
        simp [-List.map_set, set_map_int, c1, c2, hw, hu, hn0, kitem_eq, hix]
        refine ⟨by omega, fin (w.set _ _) ⟨by simpa using hwl.1, fun x hx => ?_⟩⟩
        rcases List.mem_or_eq_of_mem_set hx with hx | hx
        · exact hwl.2 x hx
        · rw [hx]; split <;> omega
      · simp [c1, c2]
        exact ⟨by omega, fin ms ⟨hm, hmp⟩⟩
    · simp [c1]
      exact ⟨by omega, fin ms ⟨hm, hmp⟩⟩
  · rintro e ⟨ws, x, y, z, rfl, hl, hp⟩
    simp
    exact ⟨ws, rfl, by simpa using hl, hp⟩
end Tg

namespace Tg
open PySem L2
/-! rankings: _law_ranking, look_ranking -/
def rng (n : Nat) : List Int := (List.range n).map fun (i : Nat) => (i : Int)
theorem rng_succ (n : Nat) : rng (n + 1) = rng n ++ [(n : Int)] := by simp [rng, List.range_succ]
theorem rng_len (n : Nat) : (rng n).length = n := by simp [rng]
theorem rng_mem {n : Nat} {x : Int} (h : x ∈ rng n) : 0 ≤ x ∧ x < n := by
  simp only [rng, List.mem_map, List.mem_range] at h
  obtain ⟨i, hi, rfl⟩ := h
  omega
theorem mem_rng {n : Nat} {x : Int} (h0 : 0 ≤ x) (h1 : x < n) : x ∈ rng n := by
  simp only [rng, List.mem_map, List.mem_range]
  exact ⟨x.toNat, by omega, by omega⟩
theorem rangeL_rng (n : Int) : rangeL 0 n = (rng n.toNat).map .int := by rw [rangeL_map]; simp [rng]
theorem insI_comm (x y : Int) : ∀ l : List Int, insI x (insI y l) = insI y (insI x l)
  | [] => by
    simp only [insI]
    by_cases h : x ≤ y <;> by_cases h2 : y ≤ x <;> simp [h, h2, insI]
    · omega
    · omega
  | z :: l => by
    by_cases hx : x ≤ z <;> by_cases hy : y ≤ z <;> by_cases h : x ≤ y <;> by_cases h2 : y ≤ x <;> simp [insI, hx, hy, h, h2, insI_comm x y l] <;> omega
theorem sortI_congr {a b : List Int} (h : a.Perm b) : sortI a = sortI b := by
  induction h with
  | nil => rfl
  | cons x _ ih => simp only [sortI, ih]
  | swap x y l => simp only [sortI]; exact insI_comm _ _ _
  | trans _ _ i1 i2 => exact i1.trans i2
theorem insI_head {x : Int} : ∀ {l : List Int}, (∀ y ∈ l, x ≤ y) → insI x l = x :: l
  | [], _ => rfl
  | y :: l, h => by simp [insI, h y List.mem_cons_self]
theorem sortI_sorted : ∀ {l : List Int}, l.Pairwise (· ≤ ·) → sortI l = l
  | [], _ => rfl
  | x :: l, h => by
    rw [List.pairwise_cons] at h
    rw [sortI, sortI_sorted h.2, insI_head h.1]
theorem rng_sorted (n : Nat) : (rng n).Pairwise (· ≤ ·) := by
  induction n with
  | zero => exact List.Pairwise.nil
  | succ n ih =>
    rw [rng_succ, List.pairwise_append]
    refine ⟨ih, List.pairwise_singleton _ _, fun x hx y hy => ?_⟩
    rw [List.mem_singleton.mp hy]
    have := rng_mem hx
    omega
theorem rng_nodup (n : Nat) : (rng n).Nodup := by
  induction n with
  | zero => exact List.nodup_nil
  | succ n ih =>
    rw [rng_succ, List.nodup_append]
    refine ⟨ih, List.nodup_cons.mpr ⟨List.not_mem_nil, List.nodup_nil⟩, fun x hx y hy e => ?_⟩
    rw [List.mem_singleton.mp hy] at e
    have := rng_mem hx
    omega
/-- r has each of n wishes once -/
def IsRk (n : Nat) (r : List Int) : Prop := r.Perm (rng n)
theorem IsRk.len {n : Nat} {r : List Int} (h : IsRk n r) : r.length = n := by rw [h.length_eq, rng_len]
theorem IsRk.mem {n : Nat} {r : List Int} (h : IsRk n r) {x : Int} (hx : x ∈ r) : 0 ≤ x ∧ x < n := rng_mem (h.mem_iff.mp hx)
theorem IsRk.has {n : Nat} {r : List Int} (h : IsRk n r) {x : Int} (h0 : 0 ≤ x) (h1 : x < n) : x ∈ r := h.mem_iff.mpr (mem_rng h0 h1)
theorem IsRk.nodup {n : Nat} {r : List Int} (h : IsRk n r) : r.Nodup := h.nodup_iff.mpr (rng_nodup n)
theorem IsRk.sort {n : Nat} {r : List Int} (h : IsRk n r) : sortI r = rng n := (sortI_congr h).trans (sortI_sorted (rng_sorted n))
theorem insert_perm (l : List Int) (j : Nat) (v : Int) : (l.take j ++ v :: l.drop j).Perm (v :: l) := by
  have h : (l.take j ++ v :: l.drop j).Perm (v :: (l.take j ++ l.drop j)) := List.perm_middle
  rwa [List.take_append_drop] at h
end Tg

namespace Tg
open PySem L2
/-! _law_ranking -/
theorem law_ranking_W {c n : Int} (h0 : 0 ≤ n) (h1 : n ≤ 1000) : W (F__law_ranking [.int c, .int n]) (fun s => ∃ r : List Int, s = .val (.tup (r.map .int)) ∧ IsRk n.toNat r) NE := by
  have hr : -1000000 ≤ n ∧ n ≤ 1000000 := by omega
  have hb : ∀ z : Int, (z % 2147483647).natAbs < 2 ^ 200 := fun z => Nat.lt_of_lt_of_le (show _ < 2147483647 by omega) (by decide)
  have main : ∀ y : Int, W ((kfor (gName 4) (sSeq (sInsert [4] 2 (eOp2 oMod (eVar 3) (eOp2 oAdd (eVar 4) (eInt 1))) (eVar 4)) (sSet [] 3 (eOp2 oFdiv (eVar 3) (eOp2 oAdd (eVar 4) (eInt 1)))))
      [some (.val (.int c)), some (.val (.int n)), some (.own []), some (.val (.int y)), none] (rangeL 0 n)).bind (cont (sRet (eOp1 oTuple (eVar 2))))) (PQ (fun _ => False) fun s => ∃ r : List Int, s = .val (.tup (r.map .int)) ∧ IsRk n.toNat r) NE := by
    intro y
    refine W_bind.2 (W_range (fun i e => ∃ (r : List Int) (y : Int) (z : Option S), e = [some (.val (.int c)), some (.val (.int n)), some (.own (r.map .int)), some (.val (.int y)), z] ∧ IsRk i r) ⟨[], _, _, rfl, List.Perm.refl _⟩ ?_ ?_)
    · rintro i e hi ⟨r, y, z, rfl, hk⟩
      have hl := hk.len
      have hs : 0 < (i : Int) + 1 ∧ ((i : Int) + 1).natAbs < 2 ^ 200 := ⟨by omega, Nat.lt_of_lt_of_le (show _ < 2000 by omega) (by decide)⟩
      have m0 := Int.emod_nonneg y (show (i : Int) + 1 ≠ 0 by omega)
      have m1 := Int.emod_lt_of_pos y hs.1
      simp [hs, hl]
      refine ⟨⟨by omega, by omega, by omega⟩, r.take (y % (i + 1)).toNat ++ (i : Int) :: r.drop (y % (i + 1)).toNat, by simp, ?_⟩
      unfold IsRk
      rw [rng_succ]
      exact (insert_perm r _ _).trans ((List.Perm.cons _ hk).trans (List.perm_append_singleton _ _).symm)
    · rintro e ⟨r, y, z, rfl, hk⟩
      simp
      exact ⟨r, rfl, hk⟩
  refine runB_W ?_
  simp [body__law_ranking]
  by_cases h : c % 2 = 0
  · simp [h, hr, hb]
    exact main _
  · simp [h, hr]
    exact main _
end Tg

namespace Tg
open PySem L2
/-! look_ranking -/
theorem look_ranking_eq {n : Nat} {r : List Int} (h : IsRk n r) (hn : n < 64) : F_look_ranking [.tup (r.map .int), .int n] = .ok (.val .non) := by
  refine W_eq (runB_W ?_)
  have h1 : -1000000 ≤ (n : Int) ∧ (n : Int) ≤ 1000000 := by omega
  simp [body_look_ranking, h.len, hn, h1, rangeL_rng, h.sort]
end Tg

namespace Tg
open PySem L2
/-! which marks beat which -/
def beatsB (a b : List Int) : List Int → Bool
  | [] => false
  | w :: r => if nth a w = nth b w then beatsB a b r else decide (nth a w < nth b w)
end Tg

namespace Tg
open PySem L2
/-! beats -/
theorem beats_eq {n : Nat} {r a b : List Int} (h : IsRk n r) (hn : n < 64) (ha : a.length = n) (hb : b.length = n) : F_beats [.tup (r.map .int), tnum a, tnum b] = .ok (.val (.bl (beatsB a b r))) := by
  refine W_eq (runB_W ?_)
  have hl := look_ranking_eq h hn
  simp [body_beats, tnum, ha, hl]
  refine W_bind.2 (W_for (fun i e => (∃ x : Option S, e = [some (.val (.tup (r.map .int))), some (.val (tnum a)), some (.val (tnum b)), x]) ∧ beatsB a b r = beatsB a b (r.drop i)) ⟨⟨_, rfl⟩, rfl⟩ ?_ ?_)
  · rintro i d e hd ⟨⟨x, rfl⟩, hi⟩
    rw [List.getElem?_map] at hd
    cases hz : r[i]? with
    | none => rw [hz] at hd; cases hd
    | some w =>
      rw [hz] at hd
      cases hd
      obtain ⟨hlt, hw⟩ := List.getElem?_eq_some_iff.mp hz
      have hm := h.mem (List.mem_of_getElem? hz)
      have e1 := nth_at (a := a) hm.1 (by omega)
      have e2 := nth_at (a := b) hm.1 (by omega)
      have hdr : r.drop i = w :: r.drop (i + 1) := by rw [List.drop_eq_getElem_cons hlt, hw]
      rw [hdr] at hi
      by_cases c : nth a w = nth b w
      · simp [tnum, e1, e2, c]
        rw [hi, beatsB, if_pos c]
      · simp [tnum, e1, e2, c]
        rw [hi, beatsB, if_neg c]
  · rintro e ⟨⟨x, rfl⟩, hi⟩
    simp at hi
    simp [hi, beatsB]
end Tg

namespace Tg
open PySem L2
/-! best and the law's own look at it -/
def say (ws : List (List Int)) (k : Int) : List Int := (ws[k.toNat]?).getD []
theorem say_at {ws : List (List Int)} {k : Int} (h0 : 0 ≤ k) (h1 : k < ws.length) : atI ws k = some (say ws k) := by
  rw [atI_of h0 h1]
  unfold say
  rw [List.getElem?_eq_getElem (by omega)]
  rfl
theorem say_mem {ws : List (List Int)} {k : Int} (h0 : 0 ≤ k) (h1 : k < ws.length) : say ws k ∈ ws := by
  unfold say
  rw [List.getElem?_eq_getElem (by omega)]
  exact List.getElem_mem _
theorem mem_say {ws : List (List Int)} {w : List Int} (h : w ∈ ws) : ∃ k : Int, 0 ≤ k ∧ k < ws.length ∧ say ws k = w := by
  obtain ⟨i, hi, e⟩ := List.mem_iff_getElem.mp h
  refine ⟨(i : Int), by omega, by omega, ?_⟩
  unfold say
  rw [show ((i : Int)).toNat = i by omega, List.getElem?_eq_getElem hi, e]
  rfl
def eqOn (a b p : List Int) : Bool := p.all fun w => nth a w == nth b w
theorem beats_snoc (a b : List Int) (w : Int) : ∀ p : List Int, beatsB a b (p ++ [w]) = (beatsB a b p || (eqOn a b p && decide (nth a w < nth b w)))
  | [] => by
    simp only [List.nil_append, beatsB, eqOn, List.all_nil, Bool.true_and, Bool.false_or]
    by_cases h : nth a w = nth b w
    · simp [h]
    · simp [h]
  | x :: p => by
    simp only [List.cons_append, beatsB, eqOn, List.all_cons]
    by_cases h : nth a x = nth b x
    · simp [h, beats_snoc a b w p, eqOn]
    · simp [h]
theorem beats_tri (a b : List Int) : ∀ p : List Int, beatsB a b p = true ∨ beatsB b a p = true ∨ eqOn a b p = true
  | [] => .inr (.inr rfl)
  | x :: p => by
    by_cases h : nth a x = nth b x
    · have ih := beats_tri a b p
      simpa [beatsB, eqOn, h] using ih
    · have h' : ¬ nth b x = nth a x := fun e => h e.symm
      simp [beatsB, eqOn, h, h']
      omega
theorem beats_eqOn {a b z : List Int} : ∀ {p : List Int}, eqOn a b p = true → beatsB z a p = beatsB z b p
  | [], _ => rfl
  | x :: p, h => by
    simp only [eqOn, List.all_cons, Bool.and_eq_true, beq_iff_eq] at h
    simp [beatsB, h.1, beats_eqOn (p := p) h.2]
/-- no saying beats k's by p -/
def minB (ws : List (List Int)) (p : List Int) (k : Int) : Bool := !ws.any fun o => beatsB o (say ws k) p
def bestL (ws : List (List Int)) (p : List Int) : List Int := (rng ws.length).filter (minB ws p)
theorem minB_iff {ws : List (List Int)} {p : List Int} {k : Int} : minB ws p k = true ↔ ∀ o ∈ ws, beatsB o (say ws k) p = false := by
  simp [minB]
theorem mem_bestL {ws : List (List Int)} {p : List Int} {k : Int} : k ∈ bestL ws p ↔ (0 ≤ k ∧ k < ws.length) ∧ minB ws p k = true := by
  unfold bestL
  rw [List.mem_filter]
  exact ⟨fun ⟨h1, h2⟩ => ⟨rng_mem h1, h2⟩, fun ⟨h1, h2⟩ => ⟨mem_rng h1.1 h1.2, h2⟩⟩
theorem best_nil (ws : List (List Int)) : bestL ws [] = rng ws.length := by
  unfold bestL
  rw [List.filter_eq_self]
  intro k _
  rw [minB_iff]
  exact fun _ _ => rfl
/-- the least mark at w of those that are left -/
theorem best_snoc {ws : List (List Int)} {p : List Int} {w m : Int} (hm : ∀ k ∈ bestL ws p, m ≤ nth (say ws k) w) (hx : ∃ k ∈ bestL ws p, nth (say ws k) w = m) :
    bestL ws (p ++ [w]) = (bestL ws p).filter (fun k => decide (nth (say ws k) w = m)) := by
  unfold bestL
  rw [List.filter_filter]
  apply List.filter_congr
  intro k hk
  have hk' := rng_mem hk
  rw [Bool.eq_iff_iff, Bool.and_eq_true, minB_iff, minB_iff, decide_eq_true_eq]
  constructor
  · intro h
    have h1 : ∀ o ∈ ws, beatsB o (say ws k) p = false := fun o ho => by
      have := h o ho
      rw [beats_snoc, Bool.or_eq_false_iff] at this
      exact this.1
    refine ⟨?_, h1⟩
    obtain ⟨j, hj, e⟩ := hx
    have hj' := mem_bestL.mp hj
    have hkb : k ∈ bestL ws p := mem_bestL.mpr ⟨hk', minB_iff.mpr h1⟩
    have hle := hm k hkb
    have hjm := say_mem hj'.1.1 hj'.1.2
    have hkm := say_mem hk'.1 hk'.2
    have t := h _ hjm
    rw [beats_snoc, Bool.or_eq_false_iff] at t
    have eq : eqOn (say ws j) (say ws k) p = true := by
      rcases beats_tri (say ws j) (say ws k) p with q | q | q
      · rw [h1 _ hjm] at q; cases q
      · rw [minB_iff.mp hj'.2 _ hkm] at q; cases q
      · exact q
    rw [eq, Bool.true_and] at t
    have t2 := of_decide_eq_false t.2
    omega
  · rintro ⟨h2, h1⟩ o ho
    rw [beats_snoc, h1 o ho, Bool.false_or, Bool.and_eq_false_iff]
    by_cases q : eqOn o (say ws k) p = true
    · right
      obtain ⟨j, j0, j1, rfl⟩ := mem_say ho
      have hj : j ∈ bestL ws p := mem_bestL.mpr ⟨⟨j0, j1⟩, minB_iff.mpr fun z hz => by rw [beats_eqOn q]; exact h1 z hz⟩
      have := hm j hj
      rw [decide_eq_false_iff_not]
      omega
    · left
      exact Bool.eq_false_iff.mpr q
theorem best_ne {ws : List (List Int)} (h : 0 < ws.length) : ∀ p : List Int, ∃ k, k ∈ bestL ws p := by
  intro p
  have go : ∀ (r q : List Int), (∃ k, k ∈ bestL ws q) → ∃ k, k ∈ bestL ws (q ++ r) := by
    intro r
    induction r with
    | nil => intro q hq; rw [List.append_nil]; exact hq
    | cons w r ih =>
      intro q ⟨k, hk⟩
      have e : q ++ w :: r = (q ++ [w]) ++ r := by simp
      rw [e]
      apply ih
      cases hb : bestL ws q with
      | nil => rw [hb] at hk; cases hk
      | cons x xs =>
        have hle := minI_le (xs.map fun k => nth (say ws k) w) (nth (say ws x) w)
        have hme := minI_mem (xs.map fun k => nth (say ws k) w) (nth (say ws x) w)
        have hx : ∃ k ∈ bestL ws q, nth (say ws k) w = minI (nth (say ws x) w) (xs.map fun k => nth (say ws k) w) := by
          rw [hb]
          rcases List.mem_cons.mp hme with h | h
          · exact ⟨x, List.mem_cons_self, h.symm⟩
          · obtain ⟨k, hk, e⟩ := List.mem_map.mp h
            exact ⟨k, List.mem_cons_of_mem _ hk, e⟩
        have hs := best_snoc (m := minI (nth (say ws x) w) (xs.map fun k => nth (say ws k) w)) (fun k hk => by
          rw [hb] at hk
          rcases List.mem_cons.mp hk with h | h
          · rw [h]; exact hle.1
          · exact hle.2 _ (List.mem_map_of_mem h)) hx
        obtain ⟨k, hk, e⟩ := hx
        exact ⟨k, by rw [hs, List.mem_filter]; exact ⟨hk, decide_eq_true e⟩⟩
  have := go p [] (by
    rw [best_nil]
    exact ⟨0, mem_rng (by omega) (by omega)⟩)
  simpa using this
theorem best_eq {n : Nat} {r : List Int} {ws : List (List Int)} (h : IsRk n r) (hn : n < 64) (hw : 0 < ws.length) (hw2 : ws.length ≤ 1000) (hp : ∀ w ∈ ws, w.length = n) : F_best [.tup (r.map .int), words ws] = .ok (.own ((bestL ws r).map .int)) := by
  refine W_eq (runB_W ?_)
  have h00 := List.getElem?_eq_getElem hw
  have h0 := hp _ (List.getElem_mem hw)
  have hl := look_ranking_eq h hn
  have hr : -1000000 ≤ (ws.length : Int) ∧ (ws.length : Int) ≤ 1000000 := by omega
  simp [body_best, words, h00, h0, hl, hr]
  refine W_bind.2 (W_range (fun i e => ∃ (x y : Option S), e = [some (.val (.tup (r.map .int))), some (.val (words ws)), some (.own (((rng i).filter (minB ws r)).map .int)), x, y]) ⟨_, _, rfl⟩ ?_ ?_)
  · rintro i e hi ⟨x, y, rfl⟩
    have hi' : i < ws.length := by omega
    have hg := List.getElem?_eq_getElem hi'
    have hgm := List.getElem_mem hi'
    have hsay : say ws (i : Int) = ws[i] := by
      unfold say
      rw [show ((i : Int)).toNat = i by omega, hg]
      rfl
    have hsnoc : (rng (i + 1)).filter (minB ws r) = (rng i).filter (minB ws r) ++ if minB ws r i = true then [(i : Int)] else [] := by
      rw [rng_succ, List.filter_append, List.filter_cons]
      rfl
    have hfl : ((rng i).filter (minB ws r)).length ≤ 65536 := Nat.le_trans (List.length_filter_le _ _) (by rw [rng_len]; omega)
    simp [words]
    refine W_bind.2 (W_cm ws tnum .bl (fun o => beatsB o (say ws i) r) rfl (by omega) ?_ ?_)
    · intro o ho
      have hb := beats_eq h hn (hp o ho) (hp _ hgm)
      rw [hsay]
      simp [hg, hb]
    · have hmin : (List.map (fun o => beatsB o (say ws i) r) ws).any id = !minB ws r i := by simp [minB]
      have hk1 : k1 oAny (.own (List.map D.bl (List.map (fun o => beatsB o (say ws i) r) ws))) = .ok (.val (.bl (!minB ws r i))) := by
        rw [k1_eq, S.d_own, oAny_b, hmin]
      simp only [kc_eq, hk1, R.bind_ok, ktv_eq, ktn_eq, Bool.not_not]
      rw [hsnoc]
      by_cases c : minB ws r i = true
      · simp [c, words, hfl]
      · simp [c, words]
  · rintro e ⟨x, y, rfl⟩
    simp [bestL]
end Tg

namespace Tg
open PySem L2
/-! row_of -/
def sgn (a b : Int) : Nat := if a < b then 87 else if b < a then 76 else 101
def rowOf (a b : List Int) : List Nat := List.zipWith sgn a b
theorem zip_ints : ∀ a b : List Int, zipD (a.map .int) (b.map .int) = (a.zip b).map fun p => D.tup [.int p.1, .int p.2]
  | [], _ => by simp [zipD]
  | _ :: _, [] => by simp [zipD]
  | x :: a, y :: b => by simp [zipD, zip_ints a b]
theorem sign_at (x y : Int) : atI [87, 101, 76] ((if y ≤ x then 1 else 0) + if y < x then 1 else 0) = some (sgn x y) := by
  unfold sgn
  by_cases h1 : x < y
  · rw [if_neg (by omega), if_neg (by omega), if_pos h1]; rfl
  · by_cases h2 : y < x
    · rw [if_pos (by omega), if_pos h2, if_neg h1, if_pos h2]; rfl
    · rw [if_pos (by omega), if_neg h2, if_neg h1, if_neg h2]; rfl
theorem rowOf_len {a b : List Int} (h : a.length = b.length) : (rowOf a b).length = a.length := by simp [rowOf, h]
theorem rowOf_get {a b : List Int} {i : Nat} {x y : Int} (ha : a[i]? = some x) (hb : b[i]? = some y) : (rowOf a b)[i]? = some (sgn x y) := by
  simp [rowOf, List.getElem?_zipWith, ha, hb]
theorem row_of_eq {a b : List Int} (h : a.length = b.length) (hl : a.length ≤ 1000) : F_row_of [tnum a, tnum b] = .ok (.val (.str (rowOf a b))) := by
  refine W_eq (runB_W ?_)
  simp [body_row_of, tnum, zip_ints]
  refine W_bind.2 (W_for (fun i e => ∃ (x y : Option S), e = [some (.val (tnum a)), some (.val (tnum b)), some (.val (.str ((rowOf a b).take i))), x, y]) ⟨_, _, rfl⟩ ?_ ?_)
  · rintro i d e hd ⟨x, y, rfl⟩
    rw [List.getElem?_map] at hd
    cases hz : (a.zip b)[i]? with
    | none => rw [hz] at hd; cases hd
    | some p =>
      rw [hz] at hd
      cases hd
      obtain ⟨h1, h2⟩ := List.getElem?_zip_eq_some.mp hz
      have hg := rowOf_get h1 h2
      have hi := (List.getElem?_eq_some_iff.mp h1).1
      have hr := rowOf_len h
      have ht : (rowOf a b).take (i + 1) = (rowOf a b).take i ++ [sgn p.1 p.2] := by rw [List.take_add_one, hg]; rfl
      simp [sign_at, ht]
      omega
  · rintro e ⟨x, y, rfl⟩
    have hr := rowOf_len h
    simp
    rw [← h, Nat.min_self, List.take_of_length_le (by omega)]
end Tg

namespace Tg
open PySem L2
theorem nodup_split {w : Int} : ∀ {l m l' m' : List Int}, (l ++ w :: m).Nodup → l ++ w :: m = l' ++ w :: m' → l = l'
  | [], m, [], m', _, _ => rfl
  | [], m, y :: l', m', h, e => by
    simp only [List.nil_append, List.cons_append, List.cons.injEq] at e
    obtain ⟨rfl, rfl⟩ := e
    simp at h
  | x :: l, m, [], m', h, e => by
    simp only [List.nil_append, List.cons_append, List.cons.injEq] at e
    obtain ⟨rfl, rfl⟩ := e
    simp at h
  | x :: l, m, y :: l', m', h, e => by
    simp only [List.cons_append, List.cons.injEq] at e
    obtain ⟨rfl, e⟩ := e
    rw [List.cons_append, List.nodup_cons] at h
    rw [nodup_split h.2 e]
end Tg

namespace Tg
open PySem L2
/-! rows as texts; fits -/
def IsRow (n : Nat) (row : List Nat) : Prop := row.length = n ∧ ∀ c ∈ row, c = 87 ∨ c = 101 ∨ c = 76
def sg (row : List Nat) (w : Int) : Nat := (row[w.toNat]?).getD 101
theorem sg_at {row : List Nat} {w : Int} (h0 : 0 ≤ w) (h1 : w < row.length) : atI row w = some (sg row w) := by
  rw [atI_of h0 h1]
  unfold sg
  rw [List.getElem?_eq_getElem (by omega)]
  rfl
theorem IsRow.sg {n : Nat} {row : List Nat} (h : IsRow n row) (w : Int) : sg row w = 87 ∨ sg row w = 101 ∨ sg row w = 76 := by
  unfold Tg.sg
  by_cases hw : w.toNat < row.length
  · rw [List.getElem?_eq_getElem hw]
    exact h.2 _ (List.getElem_mem hw)
  · rw [List.getElem?_eq_none (by omega)]
    exact .inr (.inl rfl)
theorem IsRow.lt {n : Nat} {row : List Nat} (h : IsRow n row) (w : Int) : Tg.sg row w < 0x110000 := by
  rcases h.sg w with e | e | e <;> rw [e] <;> decide
theorem IsRow.sgs {n : Nat} {row : List Nat} (h : IsRow n row) : Sg row := fun c hc => by
  rcases h.2 c hc with e | e | e <;> rw [e] <;> decide
theorem oEq_c {c d : Nat} (hc : c < 0x110000) (hd : d < 0x110000) : oEq (.str [c]) (.str [d]) = .ok (.val (.bl (decide (c = d)))) := by
  rw [oEq_s (fun x hx => by rw [List.mem_singleton.mp hx]; exact hc) (fun x hx => by rw [List.mem_singleton.mp hx]; exact hd)]
  simp
theorem oNe_c {c d : Nat} (hc : c < 0x110000) (hd : d < 0x110000) : oNe (.str [c]) (.str [d]) = .ok (.val (.bl (decide (c ≠ d)))) := by
  rw [oNe_s (fun x hx => by rw [List.mem_singleton.mp hx]; exact hc) (fun x hx => by rw [List.mem_singleton.mp hx]; exact hd)]
  simp
def fitsB (row : List Nat) : List Int → Bool
  | [] => true
  | w :: r => if sg row w = 101 then fitsB row r else decide (sg row w = 87)
/-- each L stands behind some W -/
theorem fitsB_iff {n : Nat} {row : List Nat} (hr : IsRow n row) : ∀ r : List Int, fitsB row r = true ↔ ∀ l w m, r = l ++ w :: m → sg row w = 76 → ∃ o ∈ l, sg row o = 87
  | [] => ⟨fun _ l w m e => (by cases l <;> cases e), fun _ => rfl⟩
  | x :: r => by
    have ih := fitsB_iff hr r
    rcases hr.sg x with hx | hx | hx
    · constructor
      · intro _ l w m e hw
        cases l with
        | nil => cases e; omega
        | cons y l => cases e; exact ⟨x, List.mem_cons_self, hx⟩
      · intro _
        simp [fitsB, hx]
    · rw [fitsB, if_pos hx, ih]
      constructor
      · intro q l w m e hw
        cases l with
        | nil => cases e; omega
        | cons y l =>
          cases e
          obtain ⟨o, ho, h2⟩ := q l w m rfl hw
          exact ⟨o, List.mem_cons_of_mem _ ho, h2⟩
      · intro q l w m e hw
        obtain ⟨o, ho, h2⟩ := q (x :: l) w m (by rw [e]; rfl) hw
        rcases List.mem_cons.mp ho with h | h
        · rw [h] at h2; omega
        · exact ⟨o, h, h2⟩
    · constructor
      · intro q
        simp [fitsB, hx] at q
      · intro q
        obtain ⟨o, ho, _⟩ := q [] x r rfl hx
        cases ho
end Tg

namespace Tg
open PySem L2
/-! fits -/
theorem fits_eq {n : Nat} {r : List Int} {row : List Nat} (h : IsRk n r) (hn : n < 64) (hr : IsRow n row) : F_fits [.tup (r.map .int), .str row] = .ok (.val (.bl (fitsB row r))) := by
  refine W_eq (runB_W ?_)
  have hl := look_ranking_eq h hn
  have hz : n ≤ 65536 := by omega
  simp [body_fits, hr.1, hl, hz]
  refine W_bind.2 (W_for (fun i e => (∃ x : Option S, e = [some (.val (.tup (r.map .int))), some (.val (.str row)), x]) ∧ fitsB row r = fitsB row (r.drop i)) ⟨⟨_, rfl⟩, rfl⟩ ?_ ?_)
  · rintro i d e hd ⟨⟨x, rfl⟩, hi⟩
    rw [List.getElem?_map] at hd
    cases hq : r[i]? with
    | none => rw [hq] at hd; cases hd
    | some w =>
      rw [hq] at hd
      cases hd
      obtain ⟨hlt, hw⟩ := List.getElem?_eq_some_iff.mp hq
      have hm := h.mem (List.mem_of_getElem? hq)
      have e1 := sg_at (row := row) hm.1 (by rw [hr.1]; omega)
      have e2 := oNe_c (c := sg row w) (d := 101) (hr.lt w) (by decide)
      have e3 := oEq_c (c := sg row w) (d := 87) (hr.lt w) (by decide)
      have hdr : r.drop i = w :: r.drop (i + 1) := by rw [List.drop_eq_getElem_cons hlt, hw]
      rw [hdr] at hi
      by_cases c : sg row w = 101
      · rw [c] at e1 e2
        simp [e1, e2, hr.1, hz]
        rw [hi, fitsB, if_pos c]
      · simp [e1, e2, e3, c, hr.1, hz]
        rw [hi, fitsB, if_neg c]
  · rintro e ⟨⟨x, rfl⟩, hi⟩
    simp at hi
    simp [hi, fitsB]
end Tg

namespace Tg
open PySem L2
/-! look_ranking refuses what is no ranking -/
theorem look_bad {n : Nat} {x : List Int} (h : ¬ IsRk n x) (hx : x.length < 64) (hn : n < 64) : F_look_ranking [.tup (x.map .int), .int n] = .ex (.exc "NoRanking" []) := by
  have h1 : -1000000 ≤ (n : Int) ∧ (n : Int) ≤ 1000000 := by omega
  have hs : sortI x ≠ rng n := fun e => h (by
    have p := sortI_perm x
    rw [e] at p
    exact p.symm)
  refine W_exq (runB_W ?_)
  by_cases hl : x.length = n
  · have hx2 : n < 64 := hn
    simp [body_look_ranking, hl, hx2, h1, rangeL_rng, hs]
  · have hl2 : ¬ ((x.length : Int) = n) := by omega
    simp [body_look_ranking, hl2]
theorem kinds_norank : F__law_kinds [.exc "NoRanking" []] = .ok (.own [.str [78, 111, 82, 97, 110, 107, 105, 110, 103]]) := by with_unfolding_all rfl
end Tg

namespace Tg
/-! ways with least costs: an abstract state of rooms, ties that raise costs -/
namespace BF
structure Tie (C : Type) where
  fr : Nat
  to : Nat
  act : C → C
structure Ordr (C : Type) (lt : C → C → Prop) : Prop where
  irr : ∀ a, ¬ lt a a
  tr : ∀ a b c, ¬ lt a b → ¬ lt b c → ¬ lt a c
  asym : ∀ a b, lt a b → ¬ lt b a
/-- ¬ lt b a : a is at most b -/
abbrev F (C : Type) := List (Option (C × Option Nat))
variable {C : Type} {lt : C → C → Prop} {ts : List (Tie C)} {z : C}
/-- what ties lead to, with what costs -/
inductive Walk (ts : List (Tie C)) (z : C) : Nat → C → Prop
  | nil : Walk ts z 0 z
  | snoc {c : C} {k : Nat} {t : Tie C} : ts[k]? = some t → Walk ts z t.fr c → Walk ts z t.to (t.act c)
/-- the rooms back to room 0 -/
inductive Ch (ts : List (Tie C)) (f : F C) : Nat → List Nat → Prop
  | zero {c : C} {v : Nat} : f[v]? = some (some (c, none)) → Ch ts f v [v]
  | step {c : C} {v k : Nat} {t : Tie C} {l : List Nat} : f[v]? = some (some (c, some k)) → ts[k]? = some t → Ch ts f t.fr l → Ch ts f v (v :: l)
theorem Ch.det {f : F C} {v : Nat} {l : List Nat} (h : Ch ts f v l) : ∀ {l2}, Ch ts f v l2 → l = l2 := by
  induction h with
  | zero e =>
    intro l2 h2
    cases h2 with
    | zero e2 => rfl
    | step e2 _ _ => rw [e] at e2; cases e2
  | step e ht _ ih =>
    intro l2 h2
    cases h2 with
    | zero e2 => rw [e] at e2; cases e2
    | step e2 ht2 h3 =>
      rw [e] at e2
      cases e2
      rw [ht] at ht2
      cases ht2
      rw [ih h3]
theorem Ch.suf {f : F C} {v : Nat} {l : List Nat} (h : Ch ts f v l) : ∀ x ∈ l, ∃ l2, Ch ts f x l2 ∧ l2.length ≤ l.length := by
  induction h with
  | @zero c v e =>
    intro x hx
    rw [List.mem_singleton.mp hx]
    exact ⟨[v], .zero e, Nat.le_refl _⟩
  | @step c v k t l e ht h ih =>
    intro x hx
    rcases List.mem_cons.mp hx with rfl | hx
    · exact ⟨_, .step e ht h, Nat.le_refl _⟩
    · obtain ⟨l2, h1, h2⟩ := ih x hx
      exact ⟨l2, h1, by rw [List.length_cons]; omega⟩
theorem Ch.nodup {f : F C} {v : Nat} {l : List Nat} (h : Ch ts f v l) : l.Nodup := by
  induction h with
  | zero e => exact List.nodup_cons.mpr ⟨List.not_mem_nil, List.nodup_nil⟩
  | @step c v k t l e ht h ih =>
    refine List.nodup_cons.mpr ⟨fun hm => ?_, ih⟩
    obtain ⟨l2, h1, h2⟩ := h.suf v hm
    have := (Ch.step e ht h).det h1
    rw [← this, List.length_cons] at h2
    omega
theorem Ch.inb {f : F C} {v : Nat} {l : List Nat} (h : Ch ts f v l) : ∀ x ∈ l, x < f.length := by
  induction h with
  | zero e => intro x hx; rw [List.mem_singleton.mp hx]; exact (List.getElem?_eq_some_iff.mp e).1
  | step e ht h ih =>
    intro x hx
    rcases List.mem_cons.mp hx with rfl | hx
    · exact (List.getElem?_eq_some_iff.mp e).1
    · exact ih x hx
theorem nodup_len {l : List Nat} {n : Nat} (h : l.Nodup) (hl : ∀ x ∈ l, x < n) : l.length ≤ n := by
  have := h.length_le_of_subset (l₂ := List.range n) (fun x hx => List.mem_range.mpr (hl x hx))
  rwa [List.length_range] at this
theorem Ch.len {f : F C} {v : Nat} {l : List Nat} (h : Ch ts f v l) : l.length ≤ f.length := nodup_len h.nodup h.inb
/-- the state in pass i, the ties below j gone through; p: the pass in which a room was last changed -/
structure Inv (lt : C → C → Prop) (ts : List (Tie C)) (z : C) (R i j : Nat) (f : F C) (p : Nat → Nat) (chg : Bool) : Prop where
  len : f.length = R
  zero : f[0]? = some (some (z, none))
  z1 : ∀ v c, f[v]? = some (some (c, none)) → v = 0
  p0 : p 0 = 0
  ch : ∀ v c t, f[v]? = some (some (c, t)) → ∃ l, Ch ts f v l
  ptr : ∀ v c k, f[v]? = some (some (c, some k)) → ∃ t, ts[k]? = some t ∧ t.to = v ∧ ∃ c' u, f[t.fr]? = some (some (c', u)) ∧ ¬ lt c (t.act c') ∧ p v ≤ p t.fr + 1
  wk : ∀ v c t, f[v]? = some (some (c, t)) → Walk ts z v c
  con : ∀ k t, ts[k]? = some t → ∀ c u, f[t.fr]? = some (some (c, u)) → (∃ d u', f[t.to]? = some (some (d, u')) ∧ ¬ lt (t.act c) d) ∨ i ≤ p t.fr ∨ (j ≤ k ∧ i ≤ p t.fr + 1)
  yes : chg = true → ∃ v c t, f[v]? = some (some (c, t)) ∧ i ≤ p v
  no : chg = false → ∀ v, p v < i
theorem Inv.start {R : Nat} (hR : 0 < R) : Inv lt ts z R 1 0 ((List.replicate R none).set 0 (some (z, none))) (fun _ => 0) false := by
  have g : ∀ v c t, ((List.replicate R (none : Option (C × Option Nat))).set 0 (some (z, none)))[v]? = some (some (c, t)) → v = 0 ∧ c = z ∧ t = none := fun v c t h => by
    by_cases e : 0 = v
    · subst e
      rw [List.getElem?_set_self (by simpa using hR)] at h
      cases h
      exact ⟨rfl, rfl, rfl⟩
    · rw [List.getElem?_set_ne e] at h
      have := (List.getElem?_eq_some_iff.mp h).2
      rw [List.getElem_replicate] at this
      cases this
  have z0 : ((List.replicate R (none : Option (C × Option Nat))).set 0 (some (z, none)))[0]? = some (some (z, none)) := List.getElem?_set_self (by simpa using hR)
  refine ⟨by simp, z0, fun v c h => (g v c _ h).1, rfl, fun v c t h => ?_, fun v c k h => ?_, fun v c t h => ?_, fun k t ht c u h => .inr (.inr ⟨Nat.zero_le _, by omega⟩), fun h => (by cases h), fun _ v => Nat.zero_lt_one⟩
  · obtain ⟨rfl, rfl, rfl⟩ := g v c t h
    exact ⟨_, .zero h⟩
  · cases (g v c _ h).2.2
  · obtain ⟨rfl, rfl, rfl⟩ := g v c t h
    exact .nil
theorem Ch.along (O : Ordr C lt) (ext : ∀ t ∈ ts, ∀ c, ¬ lt (t.act c) c) {R i j : Nat} {f : F C} {p : Nat → Nat} {chg : Bool} (I : Inv lt ts z R i j f p chg) {v : Nat} {l : List Nat} (h : Ch ts f v l) :
    ∀ x ∈ l, ∀ c t c2 t2, f[v]? = some (some (c, t)) → f[x]? = some (some (c2, t2)) → ¬ lt c c2 := by
  induction h with
  | zero e =>
    intro x hx c t c2 t2 h1 h2
    rw [List.mem_singleton.mp hx, h1] at h2
    cases h2
    exact O.irr _
  | @step c0 v k t l e ht h ih =>
    intro x hx c u c2 u2 h1 h2
    rcases List.mem_cons.mp hx with rfl | hx
    · rw [h1] at h2
      cases h2
      exact O.irr _
    · obtain ⟨t', ht', _, c', u', h3, h4, _⟩ := I.ptr v c0 k e
      rw [ht] at ht'
      cases ht'
      rw [e] at h1
      cases h1
      exact O.tr _ _ _ h4 (O.tr _ _ _ (ext t (List.mem_of_getElem? ht) c') (ih x hx c' u' c2 u2 h3 h2))
/-- a tie is gone through: it lowers nothing -/
theorem Inv.skip {R i j : Nat} {f : F C} {p : Nat → Nat} {chg : Bool} (I : Inv lt ts z R i j f p chg) {t : Tie C} (ht : ts[j]? = some t) (h : ∀ c u, f[t.fr]? = some (some (c, u)) → ∃ d u', f[t.to]? = some (some (d, u')) ∧ ¬ lt (t.act c) d) : Inv lt ts z R i (j + 1) f p chg :=
  ⟨I.len, I.zero, I.z1, I.p0, I.ch, I.ptr, I.wk, fun k t' ht' c u hc => by
    by_cases e : k = j
    · subst e
      rw [ht] at ht'
      cases ht'
      exact .inl (h c u hc)
    · rcases I.con k t' ht' c u hc with h1 | h1 | ⟨h1, h2⟩
      · exact .inl h1
      · exact .inr (.inl h1)
      · exact .inr (.inr ⟨by omega, h2⟩), I.yes, I.no⟩
/-- .. it lowers -/
theorem Inv.fire (O : Ordr C lt) (ext : ∀ t ∈ ts, ∀ c, ¬ lt (t.act c) c) (mono : ∀ t ∈ ts, ∀ a b, ¬ lt a b → ¬ lt (t.act a) (t.act b)) {R i j : Nat} {f : F C} {p : Nat → Nat} {chg : Bool} (I : Inv lt ts z R i j f p chg) (le : ∀ v, p v ≤ i) {t : Tie C} (ht : ts[j]? = some t) (hto : t.to < R) (wz : ∀ v c, Walk ts z v c → ¬ lt c z) {c : C} {u : Option Nat} (hc : f[t.fr]? = some (some (c, u)))
    (h : ∀ d u', f[t.to]? = some (some (d, u')) → lt (t.act c) d) : Inv lt ts z R i (j + 1) (f.set t.to (some (t.act c, some j))) (fun v => if v = t.to then i else p v) true ∧ ∀ v, (if v = t.to then i else p v) ≤ i := by
  have hl : t.to < f.length := by rw [I.len]; exact hto
  have ne : t.fr ≠ t.to := fun e => by
    rw [e] at hc
    exact ext t (List.mem_of_getElem? ht) c (h c u hc)
  have wc := I.wk _ _ _ hc
  have n0 : t.to ≠ 0 := fun e => by
    have h1 := h z none (by rw [e]; exact I.zero)
    exact wz _ _ (.snoc ht wc) h1
  obtain ⟨l0, hl0⟩ := I.ch _ _ _ hc
  -- the new room does not lie on the way to the tie's beginning
  have nin : t.to ∉ l0 := fun hm => by
    have : ∃ d u', f[t.to]? = some (some (d, u')) := by
      obtain ⟨l2, h2, _⟩ := hl0.suf _ hm
      cases h2 with
      | zero e => exact ⟨_, _, e⟩
      | step e _ _ => exact ⟨_, _, e⟩
    obtain ⟨d, u', hd⟩ := this
    have h1 := hl0.along O ext I _ hm c u d u' hc hd
    exact O.tr _ _ _ (ext t (List.mem_of_getElem? ht) c) h1 (h d u' hd)
  have old : ∀ {v : Nat}, v ≠ t.to → (f.set t.to (some (t.act c, some j)))[v]? = f[v]? := fun {v} hv => List.getElem?_set_ne fun z => hv z.symm
  have new : (f.set t.to (some (t.act c, some j)))[t.to]? = some (some (t.act c, some j)) := List.getElem?_set_self hl
  -- chains that stay
  have stay : ∀ {v l}, Ch ts f v l → t.to ∉ l → Ch ts (f.set t.to (some (t.act c, some j))) v l := fun {v l} hh => by
    induction hh with
    | @zero c v e => exact fun hn => .zero (by rw [old fun z => hn (by rw [z]; exact List.mem_cons_self)]; exact e)
    | @step c v k t' l e ht' _ ih => exact fun hn => .step (by rw [old fun z => hn (by rw [z]; exact List.mem_cons_self)]; exact e) ht' (ih fun z => hn (List.mem_cons_of_mem _ z))
  have cNew : Ch ts (f.set t.to (some (t.act c, some j))) t.to (t.to :: l0) := .step new ht (stay hl0 nin)
  have any : ∀ {v l}, Ch ts f v l → ∃ l2, Ch ts (f.set t.to (some (t.act c, some j))) v l2 := fun {v l} hh => by
    induction hh with
    | @zero c' v e =>
      by_cases q : v = t.to
      · rw [q]; exact ⟨_, cNew⟩
      · exact ⟨_, .zero (by rw [old q]; exact e)⟩
    | @step c' v k t' l e ht' _ ih =>
      by_cases q : v = t.to
      · rw [q]; exact ⟨_, cNew⟩
      · obtain ⟨l2, h2⟩ := ih
        exact ⟨_, .step (by rw [old q]; exact e) ht' h2⟩
  have pv : i ≤ p t.fr + 1 := by
    rcases I.con j t ht c u hc with ⟨d, u', h1, h2⟩ | h1 | ⟨_, h1⟩
    · exact absurd (h d u' h1) h2
    · omega
    · exact h1
  refine ⟨⟨by rw [List.length_set]; exact I.len, by rw [old fun e => n0 e.symm]; exact I.zero, fun v c' h' => ?_, ?_, fun v c' t' h' => ?_, fun v c' k h' => ?_, fun v c' t' h' => ?_, fun k t' ht' c' u' h' => ?_, fun _ => ⟨t.to, _, _, new, by rw [if_pos rfl]; exact Nat.le_refl _⟩, fun z => nomatch z⟩, fun v => ?_⟩
  · by_cases q : v = t.to
    · rw [q, new] at h'; cases h'
    · rw [old q] at h'; exact I.z1 v c' h'
  · rw [if_neg fun e => n0 e.symm]; exact I.p0
  · by_cases q : v = t.to
    · rw [q]; exact ⟨_, cNew⟩
    · rw [old q] at h'
      obtain ⟨l, hl⟩ := I.ch _ _ _ h'
      exact any hl
  · by_cases q : v = t.to
    · rw [q, new] at h'
      cases h'
      refine ⟨t, ht, q.symm, c, u, by rw [old ne]; exact hc, O.irr _, ?_⟩
      rw [if_pos q, if_neg ne]
      exact pv
    · rw [old q] at h'
      obtain ⟨t', ht', h1, c2, u2, h2, h3, h4⟩ := I.ptr v c' k h'
      rw [if_neg q]
      by_cases q2 : t'.fr = t.to
      · refine ⟨t', ht', h1, t.act c, some j, by rw [q2]; exact new, ?_, ?_⟩
        · rw [q2] at h2
          exact O.tr _ _ _ h3 (mono t' (List.mem_of_getElem? ht') _ _ (O.asym _ _ (h c2 u2 h2)))
        · rw [if_pos q2]; have := le v; omega
      · exact ⟨t', ht', h1, c2, u2, by rw [old q2]; exact h2, h3, by rw [if_neg q2]; exact h4⟩
  · by_cases q : v = t.to
    · rw [q, new] at h'
      cases h'
      rw [q]
      exact .snoc ht wc
    · rw [old q] at h'; exact I.wk _ _ _ h'
  · by_cases q : t'.fr = t.to
    · right; left
      rw [if_pos q]
      exact Nat.le_refl _
    · rw [old q] at h'
      rw [if_neg q]
      by_cases q2 : t'.to = t.to
      · rw [q2]
        by_cases e : k = j
        · subst e
          rw [ht] at ht'
          cases ht'
          rw [hc] at h'
          cases h'
          exact .inl ⟨_, _, new, O.irr _⟩
        · rcases I.con k t' ht' c' u' h' with ⟨d, v, h1, h2⟩ | h1 | ⟨h1, h2⟩
          · rw [q2] at h1
            exact .inl ⟨_, _, new, O.tr _ _ _ h2 (O.asym _ _ (h d v h1))⟩
          · exact .inr (.inl h1)
          · exact .inr (.inr ⟨by omega, h2⟩)
      · rw [old q2]
        rcases I.con k t' ht' c' u' h' with h1 | h1 | ⟨h1, h2⟩
        · exact .inl h1
        · exact .inr (.inl h1)
        · by_cases e : k = j
          · subst e
            rw [ht] at ht'
            cases ht'
            exact absurd rfl q2
          · exact .inr (.inr ⟨by omega, h2⟩)
  · by_cases q : v = t.to
    · rw [if_pos q]; exact Nat.le_refl _
    · rw [if_neg q]; exact le v
/-- a new pass -/
theorem Inv.next {R i : Nat} {f : F C} {p : Nat → Nat} {chg : Bool} (I : Inv lt ts z R i ts.length f p chg) (le : ∀ v, p v ≤ i) : Inv lt ts z R (i + 1) 0 f p false :=
  ⟨I.len, I.zero, I.z1, I.p0, I.ch, I.ptr, I.wk, fun k t ht c u hc => by
    rcases I.con k t ht c u hc with h | h | ⟨h, _⟩
    · exact .inl h
    · exact .inr (.inr ⟨Nat.zero_le _, by omega⟩)
    · have := (List.getElem?_eq_some_iff.mp ht).1
      omega, (fun z => nomatch z), fun _ v => Nat.lt_succ_of_le (le v)⟩
theorem Ch.pass {R i j : Nat} {f : F C} {p : Nat → Nat} {chg : Bool} (I : Inv lt ts z R i j f p chg) {v : Nat} {l : List Nat} (h : Ch ts f v l) : p v + 1 ≤ l.length := by
  induction h with
  | @zero c v e => rw [I.z1 v c e, I.p0]; exact Nat.le_refl _
  | @step c v k t l e ht h ih =>
    obtain ⟨t', ht', _, c', u', _, _, h5⟩ := I.ptr v c k e
    rw [ht] at ht'
    cases ht'
    rw [List.length_cons]
    omega
/-- a pass that changes something is one of the first R - 1 -/
theorem Inv.bound {R i j : Nat} {f : F C} {p : Nat → Nat} (I : Inv lt ts z R i j f p true) : i + 1 ≤ R := by
  obtain ⟨v, c, t, h1, h2⟩ := I.yes rfl
  obtain ⟨l, hl⟩ := I.ch _ _ _ h1
  have h3 := hl.pass I
  have h4 := hl.len
  rw [I.len] at h4
  omega
/-- the end: costs that are the least -/
structure Done (lt : C → C → Prop) (ts : List (Tie C)) (z : C) (R : Nat) (f : F C) : Prop where
  len : f.length = R
  zero : f[0]? = some (some (z, none))
  z1 : ∀ v c, f[v]? = some (some (c, none)) → v = 0
  ch : ∀ v c t, f[v]? = some (some (c, t)) → ∃ l, Ch ts f v l
  ptr : ∀ v c k, f[v]? = some (some (c, some k)) → ∃ t : Tie C, ts[k]? = some t ∧ t.to = v ∧ ∃ c' u, f[t.fr]? = some (some (c', u)) ∧ ¬ lt c (t.act c')
  wk : ∀ v c t, f[v]? = some (some (c, t)) → Walk ts z v c
  con : ∀ (k : Nat) (t : Tie C), ts[k]? = some t → ∀ c u, f[t.fr]? = some (some (c, u)) → ∃ d u', f[t.to]? = some (some (d, u')) ∧ ¬ lt (t.act c) d
theorem Inv.fin {R i : Nat} {f : F C} {p : Nat → Nat} (I : Inv lt ts z R i ts.length f p false) : Done lt ts z R f :=
  ⟨I.len, I.zero, I.z1, I.ch, fun v c k h => by
    obtain ⟨t, h1, h2, c', u, h3, h4, _⟩ := I.ptr v c k h
    exact ⟨t, h1, h2, c', u, h3, h4⟩, I.wk, fun k t ht c u hc => by
    rcases I.con k t ht c u hc with h | h | ⟨h, _⟩
    · exact h
    · have := I.no rfl t.fr; omega
    · have := (List.getElem?_eq_some_iff.mp ht).1
      omega⟩
theorem Done.least (O : Ordr C lt) (mono : ∀ t ∈ ts, ∀ a b, ¬ lt a b → ¬ lt (t.act a) (t.act b)) {R : Nat} {f : F C} (I : Done lt ts z R f) {v : Nat} {c : C} (h : Walk ts z v c) : ∃ d u, f[v]? = some (some (d, u)) ∧ ¬ lt c d := by
  induction h with
  | nil => exact ⟨_, _, I.zero, O.irr _⟩
  | @snoc c k t ht _ ih =>
    obtain ⟨d, u, h1, h2⟩ := ih
    obtain ⟨d', u', h3, h4⟩ := I.con k t ht d u h1
    exact ⟨d', u', h3, O.tr _ _ _ (mono t (List.mem_of_getElem? ht) _ _ h2) h4⟩
/-- in the end a room's cost is just that of its tie -/
theorem Done.just (anti : ∀ a b, (∃ v, Walk ts z v a) → (∃ v, Walk ts z v b) → ¬ lt a b → ¬ lt b a → a = b) {R : Nat} {f : F C} (I : Done lt ts z R f) {v : Nat} {c : C} {k : Nat} (h : f[v]? = some (some (c, some k))) : ∃ t, ts[k]? = some t ∧ t.to = v ∧ ∃ c' u, f[t.fr]? = some (some (c', u)) ∧ c = t.act c' := by
  obtain ⟨t, h1, h2, c', u, h3, h4⟩ := I.ptr v c k h
  obtain ⟨d, u', h5, h6⟩ := I.con k t h1 c' u h3
  rw [h2, h] at h5
  cases h5
  exact ⟨t, h1, h2, c', u, h3, anti _ _ ⟨v, I.wk _ _ _ h⟩ ⟨t.to, .snoc h1 (I.wk _ _ _ h3)⟩ h4 h6⟩
end BF
end Tg

namespace Tg
open PySem L2
/-! marks put together; the order by a ranking -/
def vadd (n : Nat) (a b : List Int) : List Int := (rng n).map fun w => nth a w + nth b w
def zeroV (n : Nat) : List Int := (rng n).map fun _ => 0
theorem rng_at {n : Nat} {w : Int} (h : 0 ≤ w ∧ w < (n : Int)) : (rng n)[w.toNat]? = some w := by
  have : w.toNat < n := by omega
  simp [rng, this]
  omega
theorem vadd_len (n : Nat) (a b : List Int) : (vadd n a b).length = n := by unfold vadd; rw [List.length_map, rng_len]
theorem vadd_nth {n : Nat} (a b : List Int) {w : Int} (h : 0 ≤ w ∧ w < (n : Int)) : nth (vadd n a b) w = nth a w + nth b w := by
  show ((vadd n a b)[w.toNat]?).getD 0 = _
  unfold vadd
  rw [List.getElem?_map, rng_at h]
  rfl
theorem zeroV_len (n : Nat) : (zeroV n).length = n := by unfold zeroV; rw [List.length_map, rng_len]
theorem zeroV_nth (n : Nat) (w : Int) : nth (zeroV n) w = 0 := by
  unfold nth zeroV
  rw [List.getElem?_map]
  cases (rng n)[w.toNat]? <;> rfl
theorem nth_ext' {n : Nat} {a b : List Int} (ha : a.length = n) (hb : b.length = n) (h : ∀ w : Int, 0 ≤ w → w < (n : Int) → nth a w = nth b w) : a = b := by
  refine List.ext_getElem? fun i => ?_
  by_cases hi : i < n
  · have := h (i : Int) (by omega) (by omega)
    unfold nth at this
    rw [Int.toNat_natCast, List.getElem?_eq_getElem (by omega), List.getElem?_eq_getElem (by omega)] at this
    rw [List.getElem?_eq_getElem (by omega), List.getElem?_eq_getElem (by omega)]
    exact congrArg some this
  · rw [List.getElem?_eq_none (by omega), List.getElem?_eq_none (by omega)]
theorem zip_vadd {n : Nat} {a b : List Int} (ha : a.length = n) (hb : b.length = n) : (a.zip b).map (fun p => p.1 + p.2) = vadd n a b := by
  refine List.ext_getElem? fun i => ?_
  by_cases hi : i < n
  · unfold vadd
    have h1 := List.getElem?_eq_getElem (show i < a.length by omega)
    have h2 := List.getElem?_eq_getElem (show i < b.length by omega)
    have h3 : (a.zip b)[i]? = some (a[i], b[i]) := List.getElem?_zip_eq_some.mpr ⟨h1, h2⟩
    rw [List.getElem?_map, List.getElem?_map, h3]
    have : (rng n)[i]? = some (i : Int) := by simp [rng, hi]
    rw [this]
    simp [nth, h1, h2]
  · rw [List.getElem?_eq_none (by rw [List.length_map, List.length_zip]; omega), List.getElem?_eq_none (by rw [vadd_len]; omega)]
abbrev LT' (r a b : List Int) : Prop := beatsB a b r = true
theorem lt_irr (a : List Int) : ∀ r : List Int, beatsB a a r = false
  | [] => rfl
  | x :: r => by rw [beatsB, if_pos rfl, lt_irr a r]
theorem lt_tr {a b c : List Int} : ∀ {r : List Int}, beatsB a b r = false → beatsB b c r = false → beatsB a c r = false
  | [], _, _ => rfl
  | x :: r, h1, h2 => by
    rw [beatsB] at h1 h2 ⊢
    by_cases e1 : nth a x = nth b x
    · rw [if_pos e1] at h1
      by_cases e2 : nth b x = nth c x
      · rw [if_pos e2] at h2
        rw [if_pos (e1.trans e2)]
        exact lt_tr h1 h2
      · rw [if_neg e2] at h2
        rw [if_neg (by rw [e1]; exact e2), e1]
        exact h2
    · rw [if_neg e1, decide_eq_false_iff_not] at h1
      by_cases e2 : nth b x = nth c x
      · rw [if_neg (by rw [← e2]; exact e1), decide_eq_false_iff_not, ← e2]
        exact h1
      · rw [if_neg e2, decide_eq_false_iff_not] at h2
        rw [if_neg (by omega), decide_eq_false_iff_not]
        omega
theorem lt_asym {a b : List Int} : ∀ {r : List Int}, beatsB a b r = true → beatsB b a r = false
  | [], h => by cases h
  | x :: r, h => by
    rw [beatsB] at h ⊢
    by_cases e : nth a x = nth b x
    · rw [if_pos e] at h
      rw [if_pos e.symm]
      exact lt_asym h
    · rw [if_neg e, decide_eq_true_eq] at h
      rw [if_neg (fun z => e z.symm), decide_eq_false_iff_not]
      omega
theorem lt_ord (r : List Int) : BF.Ordr (List Int) (LT' r) := ⟨fun a h => (by rw [LT', lt_irr] at h; cases h), fun a b c h1 h2 h => (by
  rw [LT', Bool.not_eq_true] at h1 h2
  rw [LT', lt_tr h1 h2] at h
  cases h), fun a b h h2 => (by
  rw [LT', lt_asym h] at h2
  cases h2)⟩
/-- all that counts is what is more at the first unlike wish -/
theorem lt_ext {a b : List Int} : ∀ {r : List Int}, (∀ w ∈ r, nth a w ≤ nth b w) → beatsB b a r = false
  | [], _ => rfl
  | x :: r, h => by
    rw [beatsB]
    have hx := h x List.mem_cons_self
    by_cases e : nth b x = nth a x
    · rw [if_pos e]; exact lt_ext fun w hw => h w (List.mem_cons_of_mem _ hw)
    · rw [if_neg e, decide_eq_false_iff_not]; omega
theorem lt_congr {a b a' b' : List Int} : ∀ {r : List Int}, (∀ w ∈ r, nth a w - nth b w = nth a' w - nth b' w) → beatsB a b r = beatsB a' b' r
  | [], _ => rfl
  | x :: r, h => by
    rw [beatsB, beatsB]
    have hx := h x List.mem_cons_self
    by_cases e : nth a x = nth b x
    · rw [if_pos e, if_pos (by omega)]; exact lt_congr fun w hw => h w (List.mem_cons_of_mem _ hw)
    · rw [if_neg e, if_neg (by omega), decide_eq_decide]; omega
theorem lt_anti {n : Nat} {a b r : List Int} (hr : IsRk n r) (ha : a.length = n) (hb : b.length = n) (h1 : beatsB a b r = false) (h2 : beatsB b a r = false) : a = b := by
  have go : ∀ r : List Int, beatsB a b r = false → beatsB b a r = false → ∀ w ∈ r, nth a w = nth b w := by
    intro r
    induction r with
    | nil => intro _ _ w hw; cases hw
    | cons x r ih =>
      intro h1 h2 w hw
      rw [beatsB] at h1 h2
      by_cases e : nth a x = nth b x
      · rw [if_pos e] at h1
        rw [if_pos e.symm] at h2
        rcases List.mem_cons.mp hw with rfl | hw
        · exact e
        · exact ih h1 h2 w hw
      · rw [if_neg e, decide_eq_false_iff_not] at h1
        rw [if_neg (fun z => e z.symm), decide_eq_false_iff_not] at h2
        omega
  exact nth_ext' ha hb fun w h0 h3 => go r h1 h2 w (hr.has h0 h3)
/-! machines -/
structure MT where
  fr : Nat
  to : Nat
  tx : List Nat
  ms : List Int
def mtie (n : Nat) (t : MT) : BF.Tie (List Int) := ⟨t.fr, t.to, fun c => vadd n c t.ms⟩
def mties (n : Nat) (ts : List MT) : List (BF.Tie (List Int)) := ts.map (mtie n)
structure MOk (n R : Nat) (ts : List MT) : Prop where
  R1 : 1 ≤ R
  R2 : R ≤ 100
  le : ts.length ≤ 1000
  ok : ∀ t ∈ ts, t.fr < R ∧ t.to < R ∧ t.ms.length = n ∧ ∀ x ∈ t.ms, 0 ≤ x
theorem mem_nth {a : List Int} {w : Int} (h : ∀ x ∈ a, 0 ≤ x) : 0 ≤ nth a w := by
  unfold nth
  cases e : a[w.toNat]? with
  | none => exact Int.le_refl _
  | some x => exact h x (List.mem_of_getElem? e)
theorem mties_get {n : Nat} {ts : List MT} {k : Nat} {b : BF.Tie (List Int)} (h : (mties n ts)[k]? = some b) : ∃ t, ts[k]? = some t ∧ b = mtie n t := by
  unfold mties at h
  rw [List.getElem?_map] at h
  cases e : ts[k]? with
  | none => rw [e] at h; cases h
  | some t => rw [e] at h; cases h; exact ⟨t, rfl, rfl⟩
theorem mties_at {n : Nat} {ts : List MT} {k : Nat} {t : MT} (h : ts[k]? = some t) : (mties n ts)[k]? = some (mtie n t) := by
  unfold mties
  rw [List.getElem?_map, h]
  rfl
theorem m_ext {n R : Nat} {ts : List MT} {r : List Int} (hr : IsRk n r) (M : MOk n R ts) : ∀ t ∈ mties n ts, ∀ c, ¬ LT' r (t.act c) c := fun t ht c h => by
  obtain ⟨t', ht', rfl⟩ := List.mem_map.mp ht
  have := lt_ext (r := r) (a := c) (b := vadd n c t'.ms) fun w hw => by
    rw [vadd_nth c t'.ms (hr.mem hw)]
    have := mem_nth (w := w) (M.ok t' ht').2.2.2
    omega
  rw [show LT' r ((mtie n t').act c) c = (beatsB (vadd n c t'.ms) c r = true) from rfl, this] at h
  cases h
theorem m_mono {n R : Nat} {ts : List MT} {r : List Int} (hr : IsRk n r) (M : MOk n R ts) : ∀ t ∈ mties n ts, ∀ a b, ¬ LT' r a b → ¬ LT' r (t.act a) (t.act b) := fun t ht a b h h2 => by
  obtain ⟨t', ht', rfl⟩ := List.mem_map.mp ht
  refine h ?_
  have h2 : beatsB (vadd n a t'.ms) (vadd n b t'.ms) r = true := h2
  rwa [lt_congr (a' := a) (b' := b) fun w hw => by rw [vadd_nth _ _ (hr.mem hw), vadd_nth _ _ (hr.mem hw)]; omega] at h2
theorem m_walk {n R : Nat} {ts : List MT} (M : MOk n R ts) {v : Nat} {c : List Int} (h : BF.Walk (mties n ts) (zeroV n) v c) : v < R ∧ c.length = n ∧ ∀ w, 0 ≤ w → w < (n : Int) → 0 ≤ nth c w := by
  induction h with
  | nil => exact ⟨M.R1, zeroV_len n, fun w _ _ => by rw [zeroV_nth]; exact Int.le_refl _⟩
  | @snoc c k t ht _ ih =>
    obtain ⟨t', ht', rfl⟩ := mties_get ht
    have ho := M.ok t' (List.mem_of_getElem? ht')
    refine ⟨ho.2.1, vadd_len _ _ _, fun w h0 h1 => ?_⟩
    show 0 ≤ nth (vadd n c t'.ms) w
    rw [vadd_nth _ _ ⟨h0, h1⟩]
    have := ih.2.2 w h0 h1
    have := mem_nth (w := w) ho.2.2.2
    omega
theorem m_wz {n R : Nat} {ts : List MT} {r : List Int} (hr : IsRk n r) (M : MOk n R ts) : ∀ v c, BF.Walk (mties n ts) (zeroV n) v c → ¬ LT' r c (zeroV n) := fun v c h h2 => by
  have := lt_ext (r := r) (a := zeroV n) (b := c) fun w hw => by
    rw [zeroV_nth]
    exact (m_walk M h).2.2 w (hr.mem hw).1 (hr.mem hw).2
  rw [LT', this] at h2
  cases h2
theorem m_anti {n R : Nat} {ts : List MT} {r : List Int} (hr : IsRk n r) (M : MOk n R ts) : ∀ a b, (∃ v, BF.Walk (mties n ts) (zeroV n) v a) → (∃ v, BF.Walk (mties n ts) (zeroV n) v b) → ¬ LT' r a b → ¬ LT' r b a → a = b := fun a b ⟨_, ha⟩ ⟨_, hb⟩ h1 h2 =>
  lt_anti hr (m_walk M ha).2.1 (m_walk M hb).2.1 (by simpa using h1) (by simpa using h2)
/-! as data -/
abbrev tieD (t : MT) : D := .tup [.int t.fr, .int t.to, .str t.tx, tnum t.ms]
abbrev machD (ends : List Bool) (ts : List MT) : D := .tup [.tup (ends.map .bl), .tup (ts.map tieD)]
def okD : Option Nat → D
  | none => .non
  | some k => .int k
def fndD : Option (List Int × Option Nat) → D
  | none => .non
  | some (c, k) => .tup [tnum c, okD k]
theorem zero_comp {P : S → Prop} {E : D → Prop} {n v : Nat} {e : En} (hn : n ≤ 1000) (hv : v < e.length) (h : P (.own ((zeroV n).map .int))) : W (kcomp [] [v] (gName v) tTrue (eInt 0) e (rangeL 0 n)) P E :=
  W_cm (rng n) .int .int (fun _ => 0) (by rw [rangeL_rng, Int.toNat_natCast]) (by rw [rng_len]; omega) (fun w _ => by simp) (by exact h)
end Tg

namespace Tg
open PySem L2
/-! added, spread -/
theorem added_eq {n : Nat} {a b : List Int} (hn : n ≤ 1000) (ha : a.length = n) (hb : b.length = n) : F_added [tnum a, tnum b] = .ok (.val (tnum (vadd n a b))) := by
  refine W_eq (runB_W ?_)
  simp [-List.map_map, body_added, tnum, zipD_map]
  refine W_bind.2 (W_cm (a.zip b) (fun p => D.tup [.int p.1, .int p.2]) .int (fun p => p.1 + p.2) rfl (by rw [List.length_zip]; omega) ?_ ?_)
  · rintro ⟨x, y⟩ hm
    simp
  · rw [zip_vadd ha hb]
    simp
theorem fndD_is (o : Option (List Int × Option Nat)) : isNon (fndD o) = o.isNone := by
  cases o with
  | none => rfl
  | some p => rfl
theorem fnd_at {f : BF.F (List Int)} {v : Nat} {o : Option (List Int × Option Nat)} (h : f[v]? = some o) : (f.map fndD)[v]? = some (fndD o) := by rw [List.getElem?_map, h]; rfl
abbrev spE (n : Nat) (ends : List Bool) (ts : List MT) (r : List Int) (f : BF.F (List Int)) (again : Bool) (x5 x6 x7 x8 x9 x10 : Option S) : En := [some (.val (.int n)), some (.val (machD ends ts)), some (.val (tnum r)), some (.own (f.map fndD)), some (.val (.bl again)), x5, x6, x7, x8, x9, x10, none, none]
theorem flat_fnd (o : Option (List Int × Option Nat)) : (fndD o).flat = true := by
  cases o with
  | none => rfl
  | some p =>
    obtain ⟨c, k⟩ := p
    cases k <;> simp [fndD, okD]
theorem spread_ex {n : Nat} {ends : List Bool} {ts : List MT} {r : List Int} (hn : n ≤ 6) (hr : IsRk n r) (M : MOk n ends.length ts) :
    ∃ f : BF.F (List Int), F_spread [.int n, machD ends ts, tnum r] = .ok (.own (f.map fndD)) ∧ BF.Done (LT' r) (mties n ts) (zeroV n) ends.length f := by
  have hz : -1000000 ≤ (n : Int) ∧ (n : Int) ≤ 1000000 := by omega
  have hR1 := M.R1
  have hR2 := M.R2
  have hle := M.le
  have hz2 : -1000000 ≤ (ts.length : Int) ∧ (ts.length : Int) ≤ 1000000 := by omega
  have O := lt_ord r
  have ext := m_ext hr M
  have mono := m_mono hr M
  have wz := m_wz hr M
  have mlen : (mties n ts).length = ts.length := by unfold mties; rw [List.length_map]
  obtain ⟨s, e, f, rfl, h⟩ := W_ex' (show W (F_spread [.int n, machD ends ts, tnum r]) (fun s => ∃ f : BF.F (List Int), s = .own (f.map fndD) ∧ BF.Done (LT' r) (mties n ts) (zeroV n) ends.length f) NE by
    refine runB_W ?_
    simp [-List.map_map, body_spread]
    refine W_bind.2 (W_cmap ends .bl (fun _ => .non) rfl (by omega) (fun x _ => by simp) ?_)
    have fl0 : D.flatL (ends.map fun _ => D.non) = true := flatL_map (fun _ => rfl) ends
    simp [-List.map_map, fl0, hz]
    refine W_bind.2 (zero_comp (by omega) (by simp) ?_)
    have hix : ixN ends.length 0 = some 0 := ixN_of (by omega) (by omega)
    simp [-List.map_map, -List.map_set, kitem_eq, hix]
    have st : (ends.map fun _ => D.non).set 0 (D.tup [D.tup ((zeroV n).map D.int), D.non]) = ((List.replicate ends.length (none : Option (List Int × Option Nat))).set 0 (some (zeroV n, none))).map fndD := by
      rw [List.map_set]
      congr 1
      rw [List.map_replicate, List.map_const']
      rfl
    rw [st]
    refine W_bind.2 (W_while (fun k e => ∃ (f : BF.F (List Int)) (again : Bool) (x5 x6 x7 x8 x9 x10 : Option S), e = spE n ends ts r f again x5 x6 x7 x8 x9 x10 ∧
      ((again = true ∧ ∃ (i : Nat) (p : Nat → Nat), BF.Inv (LT' r) (mties n ts) (zeroV n) ends.length i 0 f p false ∧ 1 ≤ i ∧ i ≤ ends.length ∧ k = ends.length + 1 - i) ∨ (again = false ∧ BF.Done (LT' r) (mties n ts) (zeroV n) ends.length f)))
      (k := ends.length) ⟨_, true, none, none, none, none, none, none, rfl, .inl ⟨rfl, 1, _, BF.Inv.start hR1, Nat.le_refl _, hR1, by omega⟩⟩ (by omega) ?_)
    rintro k e ⟨f, again, x5, x6, x7, x8, x9, x10, rfl, hst⟩
    rcases hst with ⟨rfl, i, p, I, hi1, hiR, hk⟩ | ⟨rfl, hD⟩
    · simp [-List.map_map, -Bool.exists_bool, hz2]
      refine W_mono (W_range (P := fun fl => ∃ (f : BF.F (List Int)) (chg : Bool) (p : Nat → Nat) (x5 x6 x7 x8 x9 x10 : Option S), fl = .nx (spE n ends ts r f chg x5 x6 x7 x8 x9 x10) ∧ BF.Inv (LT' r) (mties n ts) (zeroV n) ends.length i ts.length f p chg ∧ ∀ v, p v ≤ i) (fun j e => ∃ (f : BF.F (List Int)) (chg : Bool) (p : Nat → Nat) (x5 x6 x7 x8 x9 x10 : Option S), e = spE n ends ts r f chg x5 x6 x7 x8 x9 x10 ∧ BF.Inv (LT' r) (mties n ts) (zeroV n) ends.length i j f p chg ∧ ∀ v, p v ≤ i) ⟨f, false, p, x5, x6, x7, x8, x9, x10, rfl, I, fun v => Nat.le_of_lt (I.no rfl v)⟩ ?_ ?_) ?_
      · rintro j e hj ⟨f, chg, p, x5, x6, x7, x8, x9, x10, rfl, I, hp⟩
        have hj' : j < ts.length := by omega
        have htj := List.getElem?_eq_getElem hj'
        generalize ts[j] = t at htj
        have htm := List.mem_of_getElem? htj
        obtain ⟨ho1, ho2, ho3, ho4⟩ := M.ok t htm
        have hbt := mties_at (n := n) htj
        have hlf := I.len
        have hfr := List.getElem?_eq_getElem (show t.fr < f.length by omega)
        have hto := List.getElem?_eq_getElem (show t.to < f.length by omega)
        generalize f[t.fr] = ofr at hfr
        generalize f[t.to] = oto at hto
        have afr := fnd_at hfr
        have ato := fnd_at hto
        cases ofr with
        | none =>
          have I2 := I.skip hbt (fun c u hc => by rw [show (mtie n t).fr = t.fr from rfl, hfr] at hc; cases hc)
          simp [-List.map_map, -Bool.exists_bool, htj, tieD, afr, fndD]
          exact ⟨f, chg, ⟨rfl, rfl⟩, p, I2, hp⟩
        | some q =>
          obtain ⟨c, u⟩ := q
          have hcl := (m_walk M (I.wk _ _ _ hfr)).2.1
          have ead := added_eq (n := n) (by omega) hcl ho3
          have afr : (f.map fndD)[t.fr]? = some (.tup [tnum c, okD u]) := afr
          have fire := fun h => I.fire O ext mono hp hbt ho2 wz hfr h
          have hixt : ixN f.length (t.to : Int) = some t.to := by rw [ixN_of (by omega) (by omega)]; rfl
          have set_eq : ∀ k : Nat, (f.map fndD).set t.to (.tup [tnum (vadd n c t.ms), .int k]) = (f.set t.to (some (vadd n c t.ms, some k))).map fndD := fun k => by rw [List.map_set]; rfl
          cases oto with
          | none =>
            have F := fire (fun d u' h => by rw [show (mtie n t).to = t.to from rfl, hto] at h; cases h)
            simp [-List.map_map, -Bool.exists_bool, -List.map_set, htj, tieD, afr, ato, fndD, tnum, ead, kitem_eq, hixt, okD]
            rw [show (f.map fndD).set t.to (D.tup [D.tup ((vadd n c t.ms).map D.int), D.int j]) = _ from set_eq j]
            exact ⟨_, true, ⟨rfl, rfl⟩, _, F.1, F.2⟩
          | some q2 =>
            obtain ⟨d, u2⟩ := q2
            have hdl := (m_walk M (I.wk _ _ _ hto)).2.1
            have ato : (f.map fndD)[t.to]? = some (.tup [tnum d, okD u2]) := ato
            have ebe := beats_eq (a := vadd n c t.ms) (b := d) hr (by omega) (vadd_len _ _ _) hdl
            cases hb : beatsB (vadd n c t.ms) d r with
            | true =>
              rw [hb] at ebe
              have F := fire (fun d' u' h => by
                rw [show (mtie n t).to = t.to from rfl, hto] at h
                cases h
                exact hb)
              simp [-List.map_map, -Bool.exists_bool, -List.map_set, htj, tieD, afr, ato, fndD, tnum, ead, ebe, kitem_eq, hixt, okD]
              rw [show (f.map fndD).set t.to (D.tup [D.tup ((vadd n c t.ms).map D.int), D.int j]) = _ from set_eq j]
              exact ⟨_, true, ⟨rfl, rfl⟩, _, F.1, F.2⟩
            | false =>
              rw [hb] at ebe
              have I2 := I.skip hbt (fun c' u' hc => by
                rw [show (mtie n t).fr = t.fr from rfl, hfr] at hc
                cases hc
                exact ⟨d, u2, hto, by rw [Bool.not_eq_true]; exact hb⟩)
              simp [-List.map_map, -Bool.exists_bool, -List.map_set, htj, tieD, afr, ato, fndD, tnum, ead, ebe, kitem_eq, hixt, okD]
              exact ⟨f, chg, ⟨rfl, rfl⟩, p, I2, hp⟩
      · rintro e ⟨f, chg, p, x5, x6, x7, x8, x9, x10, rfl, I, hp⟩
        rw [Int.toNat_natCast] at I
        exact ⟨f, chg, p, x5, x6, x7, x8, x9, x10, rfl, I, hp⟩
      · rintro fl ⟨f', chg, p, x5, x6, x7, x8, x9, x10, rfl, I, hp⟩
        rw [← mlen] at I
        cases chg with
        | true =>
          have hb := I.bound
          exact ⟨ends.length + 1 - (i + 1), by omega, f', true, ⟨x5, x6, x7, x8, x9, x10, rfl⟩, .inl ⟨rfl, i + 1, ⟨p, I.next hp⟩, by omega, by omega, rfl⟩⟩
        | false => exact ⟨0, by omega, f', false, ⟨x5, x6, x7, x8, x9, x10, rfl⟩, .inr ⟨rfl, I.fin⟩⟩
    · simp [-List.map_map, -Bool.exists_bool]
      exact ⟨f, rfl, hD⟩)
  exact ⟨f, e, h⟩
end Tg

namespace Tg
open PySem L2
/-! way_to, best_walk -/
/-- a walk's ties gone through, from a room with some marks on -/
def goP (n : Nat) (ts : List MT) : Nat × List Int → List Nat → Option (Nat × List Int)
  | s, [] => some s
  | (v, c), k :: ks => match ts[k]? with
    | some t => if t.fr = v then goP n ts (t.to, vadd n c t.ms) ks else none
    | none => none
theorem goP_cons {n : Nat} {ts : List MT} {t : MT} {k : Nat} (h : ts[k]? = some t) (c : List Int) (ks : List Nat) : goP n ts (t.fr, c) (k :: ks) = goP n ts (t.to, vadd n c t.ms) ks := by
  rw [goP, h]
  show (if t.fr = t.fr then _ else _) = _
  rw [if_pos rfl]
theorem way_ex {n : Nat} {ends : List Bool} {ts : List MT} {r : List Int} (hr : IsRk n r) (M : MOk n ends.length ts) {f : BF.F (List Int)} (hD : BF.Done (LT' r) (mties n ts) (zeroV n) ends.length f) {v : Nat} {c : List Int} {u : Option Nat} (hv : f[v]? = some (some (c, u))) :
    ∃ ks : List Nat, F_way_to [machD ends ts, .lst (f.map fndD), .int v] = .ok (.own (ks.map fun (k : Nat) => D.int (k : Int))) ∧ goP n ts (0, zeroV n) ks = some (v, c) ∧ ks.length ≤ 200 := by
  have hR2 := M.R2
  have just := fun {v c k} h => hD.just (m_anti hr M) (v := v) (c := c) (k := k) h
  obtain ⟨s, e, ks, rfl, h⟩ := W_ex' (show W (F_way_to [machD ends ts, .lst (f.map fndD), .int v]) (fun s => ∃ ks : List Nat, s = .own (ks.map fun (k : Nat) => D.int (k : Int)) ∧ goP n ts (0, zeroV n) ks = some (v, c) ∧ ks.length ≤ 200) NE by
    refine runB_W ?_
    simp [-List.map_map, body_way_to]
    obtain ⟨l0, hl0⟩ := hD.ch _ _ _ hv
    have hl1 := hl0.len
    rw [hD.len] at hl1
    refine W_bind.2 (W_while (fun k e => ∃ (x : Nat) (ks : List Nat) (c' : List Int) (u' : Option Nat) (l : List Nat), e = [some (.val (machD ends ts)), some (.val (.lst (f.map fndD))), some (.val (.int x)), some (.own (ks.map fun (k : Nat) => D.int (k : Int)))] ∧ f[x]? = some (some (c', u')) ∧ BF.Ch (mties n ts) f x l ∧ k = l.length ∧ ks.length + l.length = l0.length ∧ goP n ts (x, c') ks = some (v, c))
      (k := l0.length) ⟨v, [], c, u, l0, rfl, hv, hl0, rfl, by simp, rfl⟩ (by omega) ?_)
    rintro k e ⟨x, ks, c', u', l, rfl, hx, hl, rfl, hlen, hg⟩
    have ax : (f.map fndD)[x]? = some (.tup [tnum c', okD u']) := fnd_at hx
    cases u' with
    | none =>
      simp [-List.map_map, ax, okD]
      have hx0 := hD.z1 _ _ hx
      subst hx0
      rw [hD.zero] at hx
      cases hx
      exact ⟨ks, rfl, hg, by omega⟩
    | some k =>
      cases hl with
      | zero e => rw [hx] at e; cases e
      | @step c2 _ k2 t2 l' e ht2 hl' =>
        rw [hx] at e
        cases e
        obtain ⟨t, ht, hto, c3, u3, h3, h4⟩ := just hx
        rw [ht2] at ht
        cases ht
        obtain ⟨t', ht', rfl⟩ := mties_get ht2
        have hto : t'.to = x := hto
        have h3 : f[t'.fr]? = some (some (c3, u3)) := h3
        have h4 : c' = vadd n c3 t'.ms := h4
        rw [List.length_cons] at hlen
        have hks : 1 + ks.length ≤ 65536 := by omega
        have hfl : D.flatL (ks.map fun (k : Nat) => D.int (k : Int)) = true := flatL_map (fun _ => rfl) ks
        simp [-List.map_map, ax, okD, hks, hfl, ht', tieD]
        exact ⟨l'.length, by omega, t'.fr, k :: ks, ⟨rfl, rfl⟩, c3, ⟨u3, h3⟩, l', hl', rfl, by rw [List.length_cons]; omega, by rw [goP_cons ht', hto, ← h4]; exact hg⟩)
  exact ⟨ks, e, h⟩
def cstD : Option (List Int × Option Nat) → D
  | none => .non
  | some (c, _) => tnum c
/-- the best end by r -/
def Bst (ends : List Bool) (r : List Int) (f : BF.F (List Int)) (i : Nat) : Option Nat → Prop
  | none => ∀ v, v < i → ends[v]? = some true → f[v]? = some none
  | some v => v < i ∧ ends[v]? = some true ∧ ∃ c u, f[v]? = some (some (c, u)) ∧ ∀ v' c' u', v' < i → ends[v']? = some true → f[v']? = some (some (c', u')) → beatsB c' c r = false
theorem bl_at {ends : List Bool} {i : Nat} {b : Bool} (h : ends[i]? = some b) : (ends.map D.bl)[i]? = some (.bl b) := by rw [List.getElem?_map, h]; rfl
theorem best_walk_ex {n : Nat} {ends : List Bool} {ts : List MT} {r : List Int} (hn : n ≤ 6) (hr : IsRk n r) (M : MOk n ends.length ts) :
    ∃ f : BF.F (List Int), BF.Done (LT' r) (mties n ts) (zeroV n) ends.length f ∧
      ((F_best_walk [.int n, machD ends ts, tnum r] = .ok (.val .non) ∧ Bst ends r f ends.length none) ∨
      ∃ (v : Nat) (c : List Int) (u : Option Nat) (ks : List Nat), F_best_walk [.int n, machD ends ts, tnum r] = .ok (.val (.tup [tnum c, .lst (ks.map fun (k : Nat) => D.int (k : Int)), .lst (f.map cstD)])) ∧ Bst ends r f ends.length (some v) ∧ f[v]? = some (some (c, u)) ∧ goP n ts (0, zeroV n) ks = some (v, c) ∧ ks.length ≤ 200) := by
  have hz : -1000000 ≤ (n : Int) ∧ (n : Int) ≤ 1000000 := by omega
  have hR1 := M.R1
  have hR2 := M.R2
  have hz2 : -1000000 ≤ (ends.length : Int) ∧ (ends.length : Int) ≤ 1000000 := by omega
  obtain ⟨f, e1, hD⟩ := spread_ex hn hr M
  have e0 := beats_eq (a := zeroV n) (b := zeroV n) hr (by omega) (zeroV_len n) (zeroV_len n)
  have hfl := hD.len
  refine ⟨f, hD, ?_⟩
  obtain ⟨s, e, h⟩ := W_ex' (show W (F_best_walk [.int n, machD ends ts, tnum r]) (fun s => (s = .val .non ∧ Bst ends r f ends.length none) ∨ (∃ (v : Nat) (c : List Int) (u : Option Nat) (ks : List Nat), s = .val (.tup [tnum c, .lst (ks.map fun (k : Nat) => D.int (k : Int)), .lst (f.map cstD)]) ∧ Bst ends r f ends.length (some v) ∧ f[v]? = some (some (c, u)) ∧ goP n ts (0, zeroV n) ks = some (v, c) ∧ ks.length ≤ 200)) NE by
    refine runB_W ?_
    simp [-List.map_map, body_best_walk, hz]
    refine W_bind.2 (zero_comp (by omega) (by simp) ?_)
    have flf : D.flatL (f.map fndD) = true := flatL_map (fun o => flat_fnd o) f
    simp [-List.map_map, tnum, e0, e1, flf, hfl, hz2]
    refine W_bind.2 (W_range (fun i e => ∃ (o : Option Nat) (x6 : Option S), e = [some (.val (.int n)), some (.val (machD ends ts)), some (.val (tnum r)), some (.val (tnum (zeroV n))), some (.own (f.map fndD)), some (.val (okD o)), x6, none, none, none] ∧ Bst ends r f i o) ⟨none, none, rfl, fun v hv => absurd hv (Nat.not_lt_zero v)⟩ ?_ ?_)
    · rintro i e hi ⟨o, x6, rfl, hb⟩
      have hi' : i < ends.length := by omega
      have hei := List.getElem?_eq_getElem hi'
      have hfi := List.getElem?_eq_getElem (show i < f.length by omega)
      generalize ends[i] = b at hei
      generalize f[i] = fo at hfi
      have ae := bl_at hei
      have af := fnd_at hfi
      have keep0 : (b = false ∨ fo = none) → Bst ends r f (i + 1) o := fun h => by
        have ne : ∀ v c u, v = i → ends[v]? = some true → f[v]? = some (some (c, u)) → False := fun v c u hv h1 h2 => by
          subst hv
          rcases h with h | h
          · rw [hei, h] at h1; cases h1
          · rw [hfi, h] at h2; cases h2
        cases o with
        | none =>
          intro v hv h1
          by_cases c : v = i
          · subst c
            rcases h with h | h
            · rw [hei, h] at h1; cases h1
            · rw [hfi, h]
          · exact hb v (by omega) h1
        | some v =>
          obtain ⟨h1, h2, c, u, h3, h4⟩ := hb
          refine ⟨by omega, h2, c, u, h3, fun v' c' u' h5 h6 h7 => ?_⟩
          by_cases q : v' = i
          · exact (ne v' c' u' q h6 h7).elim
          · exact h4 v' c' u' (by omega) h6 h7
      cases b with
      | false =>
        have k0 := keep0 (.inl rfl)
        simp [-List.map_map, machD, ae]
        exact ⟨o, rfl, k0⟩
      | true =>
        cases fo with
        | none =>
          have k0 := keep0 (.inr rfl)
          simp [-List.map_map, machD, ae, af, fndD]
          exact ⟨o, rfl, k0⟩
        | some q =>
          obtain ⟨c, u⟩ := q
          have af : (f.map fndD)[i]? = some (.tup [tnum c, okD u]) := af
          have hcl := (m_walk M (hD.wk _ _ _ hfi)).2.1
          cases o with
          | none =>
            have k0 : Bst ends r f (i + 1) (some i) := ⟨by omega, hei, c, u, hfi, fun v' c' u' h5 h6 h7 => by
              by_cases q : v' = i
              · subst q
                rw [hfi] at h7
                cases h7
                exact lt_irr _ _
              · rw [hb v' (by omega) h6] at h7
                cases h7⟩
            simp [-List.map_map, machD, ae, af, okD]
            exact ⟨some i, rfl, k0⟩
          | some v =>
            obtain ⟨h1, h2, c2, u2, h3, h4⟩ := hb
            have hcl2 := (m_walk M (hD.wk _ _ _ h3)).2.1
            have af2 : (f.map fndD)[v]? = some (.tup [tnum c2, okD u2]) := fnd_at h3
            have ebe := beats_eq (a := c) (b := c2) hr (by omega) hcl hcl2
            cases hbb : beatsB c c2 r with
            | true =>
              rw [hbb] at ebe
              have k0 : Bst ends r f (i + 1) (some i) := ⟨by omega, hei, c, u, hfi, fun v' c' u' h5 h6 h7 => by
                by_cases q : v' = i
                · subst q
                  rw [hfi] at h7
                  cases h7
                  exact lt_irr _ _
                · exact lt_tr (h4 v' c' u' (by omega) h6 h7) (lt_asym hbb)⟩
              simp [-List.map_map, machD, ae, af, af2, okD, ebe, tnum]
              exact ⟨some i, rfl, k0⟩
            | false =>
              rw [hbb] at ebe
              have k0 : Bst ends r f (i + 1) (some v) := ⟨by omega, h2, c2, u2, h3, fun v' c' u' h5 h6 h7 => by
                by_cases q : v' = i
                · subst q
                  rw [hfi] at h7
                  cases h7
                  exact hbb
                · exact h4 v' c' u' (by omega) h6 h7⟩
              simp [-List.map_map, machD, ae, af, af2, okD, ebe, tnum]
              exact ⟨some v, rfl, k0⟩
    · rintro e ⟨o, x6, rfl, hb⟩
      rw [Int.toNat_natCast] at hb
      cases o with
      | none =>
        simp [-List.map_map, okD]
        exact hb
      | some v =>
        obtain ⟨h1, h2, c, u, h3, h4⟩ := hb
        obtain ⟨ks, e5, h5, h6⟩ := way_ex hr M hD h3
        have af2 : (f.map fndD)[v]? = some (.tup [tnum c, okD u]) := fnd_at h3
        simp [-List.map_map, okD]
        refine W_bind.2 (W_forM f fndD rfl (fun pre e => ∃ x8 : Option S, e = [some (.val (.int n)), some (.val (machD ends ts)), some (.val (tnum r)), some (.val (tnum (zeroV n))), some (.val (.lst (f.map fndD))), some (.val (.int v)), x6, some (.own (pre.map cstD)), x8, none]) ⟨none, rfl⟩ ?_ ?_)
        · rintro pre o post e hx ⟨x8, rfl⟩
          have hpl : pre.length ≤ 65536 := by
            have := congrArg List.length hx
            rw [List.length_append] at this
            omega
          cases o with
          | none =>
            simp [-List.map_map, fndD, hpl, cstD]
          | some q =>
            obtain ⟨c', u'⟩ := q
            simp [-List.map_map, fndD, hpl, cstD]
        · rintro e ⟨x8, rfl⟩
          simp [-List.map_map, af2, e5]
          exact ⟨v, c, u, ks, ⟨rfl, rfl⟩, ⟨h1, h2, c, u, h3, h4⟩, h3, h5, h6⟩)
  rcases h with ⟨rfl, h⟩ | ⟨v, c, u, ks, rfl, h⟩
  · exact .inl ⟨e, h⟩
  · exact .inr ⟨v, c, u, ks, e, h⟩
end Tg

namespace Tg
open PySem L2
theorem bad_len {n : Nat} {x : List Int} (h : x.length ≠ n) : ¬ IsRk n x := fun e => h e.len
theorem bad_mem {n : Nat} {x : List Int} {v : Int} (hv : v ∈ x) (h : v < 0 ∨ (n : Int) ≤ v) : ¬ IsRk n x := fun e => by
  have := e.mem hv
  omega
theorem bad_twice {n : Nat} {r : List Int} (hr : IsRk n r) {k j : Nat} {a b : Int} (hk : r[k]? = some a) (hj : r[j]? = some b) (hkj : k ≠ j) : ¬ IsRk n (r.take k ++ b :: r.drop (k + 1)) := fun e => by
  have hlk := (List.getElem?_eq_some_iff.mp hk).1
  have hlj := (List.getElem?_eq_some_iff.mp hj).1
  have hs : r = r.take k ++ a :: r.drop (k + 1) := by
    have h2 : r.drop k = a :: r.drop (k + 1) := by
      rw [List.drop_eq_getElem_cons hlk]
      rw [List.getElem?_eq_getElem hlk] at hk
      cases hk
      rfl
    rw [← h2, List.take_append_drop]
  have hp : (r.take k ++ b :: r.drop (k + 1)).Perm (r.take k ++ a :: r.drop (k + 1)) := by
    rw [← hs]
    exact e.trans hr.symm
  have hp2 := (List.perm_append_left_iff (r.take k)).mp hp
  have hab : a = b := by
    have h1 : (b :: r.drop (k + 1)).sum = (a :: r.drop (k + 1)).sum := by
      have : ∀ {l m : List Int}, l.Perm m → l.sum = m.sum := fun {l m} h => by
        induction h with
        | nil => rfl
        | cons x _ ih => simp [ih]
        | swap x y l => simp; omega
        | trans _ _ i1 i2 => exact i1.trans i2
      exact this hp2
    simp at h1
    omega
  subst hab
  have nd := hr.nodup
  rw [List.getElem?_eq_getElem hlk] at hk
  rw [List.getElem?_eq_getElem hlj] at hj
  have h3 : r[k] = r[j] := by
    cases hk
    exact (Option.some.inj hj).symm
  exact hkj ((List.getElem_inj nd).mp h3)
theorem law_bad_W {n : Nat} {r : List Int} {c : Int} (hr : IsRk n r) (h1 : 1 ≤ n) (hn : n ≤ 6) : W (F__law_bad [tnum r, .int c]) (fun s => ∃ x : List Int, s = .val (tnum x) ∧ ¬ IsRk n x ∧ x.length < 64) NE := by
  refine runB_W ?_
  have hl := hr.len
  simp [body__law_bad]
  refine W_then (mixed_W (by omega) (by omega)) ?_
  rintro s ⟨xs, rfl, hxl, hx0⟩
  obtain ⟨x0, x1, x2, x3, rfl⟩ : ∃ a b c d, xs = [a, b, c, d] := by
    match xs, hxl with
    | [a, b, c, d], _ => exact ⟨a, b, c, d, rfl⟩
  have y0 := hx0 x0 (by simp)
  have y1 := hx0 x1 (by simp)
  have y3 := hx0 x3 (by simp)
  obtain ⟨k, hk⟩ : ∃ k : Nat, x0 % (n : Int) = k := ⟨(x0 % (n : Int)).toNat, by have := Int.emod_nonneg x0 (show (n : Int) ≠ 0 by omega); omega⟩
  have hkn : k < n := by have := Int.emod_lt_of_pos x0 (show 0 < (n : Int) by omega); omega
  obtain ⟨f, hf⟩ : ∃ f, f = c / 8 % 1000000000000000000000000000000000000000 * (x1 % 2) := ⟨_, rfl⟩
  have hf0 : 0 ≤ f := by
    rw [hf]
    exact Int.mul_nonneg (Int.emod_nonneg _ (by decide)) (Int.emod_nonneg _ (by decide))
  simp [hl, hk]
  refine ⟨h1, ⟨Nat.lt_of_lt_of_le (show _ < 1000000000000000000000000000000000000000 by omega) (by decide), by omega⟩, ?_⟩
  rw [← hf]
  have c1 : cutL (r.map D.int) none (some (k : Int)) = (r.take k).map .int := by rw [cut_to (by omega)]; simp
  have c2 : cutL (r.map D.int) (some ((k : Int) + 1)) none = (r.drop (k + 1)).map .int := by rw [cut_from (by omega), ← List.map_drop]; congr 1
  have c3 : cutL (r.map D.int) (some (k : Int)) none = (r.drop k).map .int := by rw [cut_from (by omega)]; simp
  have hkr : k < r.length := by omega
  have rk : r[k]? = some r[k] := List.getElem?_eq_getElem hkr
  by_cases q0 : x2 % 5 = 0
  · by_cases q1 : 1 < n
    · obtain ⟨j, b, hj, hjk, hat⟩ : ∃ (j : Nat) (b : Int), r[j]? = some b ∧ k ≠ j ∧ atI (r.map D.int) ((k : Int) - 1) = some (.int b) := by
        by_cases hz : k = 0
        · subst hz
          have hb : r[n - 1]? = some r[n - 1] := List.getElem?_eq_getElem (by omega)
          refine ⟨n - 1, r[n - 1], hb, by omega, ?_⟩
          show atI (r.map D.int) (-1) = _
          unfold atI
          have e1 : (r.map D.int).length - 1 = n - 1 := by simp [hl]
          have e2 : L2.ixN (r.map D.int).length (-1) = some (n - 1) := by
            unfold L2.ixN
            simp [hl]
            omega
          rw [e2]
          simp [hb]
        · have hb : r[k - 1]? = some r[k - 1] := List.getElem?_eq_getElem (by omega)
          refine ⟨k - 1, r[k - 1], hb, by omega, ?_⟩
          rw [atI_of (by omega) (by simp; omega)]
          simp [show ((k : Int) - 1).toNat = k - 1 by omega]
      have hz := bad_twice hr rk hj hjk
      have q1i : (1 : Int) < n := by omega
      simp [q1i, -List.map_take, -List.map_drop, q0, q1, hl, c1, c2, hat]
      refine ⟨by omega, by omega, r.take k ++ b :: r.drop (k + 1), by simp, hz, by simp; omega⟩
    · obtain rfl : n = 1 := by omega
      simp [-List.map_take, -List.map_drop, q0, hl, c1, c2]
      exact ⟨by omega, r.take k ++ (1 + f) :: r.drop (k + 1), by simp, bad_mem (v := 1 + f) (by simp) (by omega), by simp; omega⟩
  · by_cases q1 : x2 % 5 = 1
    · simp [-List.map_take, -List.map_drop, q1, hl, c1, c2]
      exact ⟨by omega, by omega, r.take k ++ (-1 - f) :: r.drop (k + 1), by simp, bad_mem (v := -1 - f) (by simp) (by omega), by simp; omega⟩
    · by_cases q2 : x2 % 5 = 2
      · simp [-List.map_take, -List.map_drop, q0, q1, q2, hl, c1, c2]
        exact ⟨by omega, r.take k ++ r.drop (k + 1), by simp, bad_len (by simp; omega), by simp; omega⟩
      · by_cases q3 : x2 % 5 = 3
        · simp [-List.map_take, -List.map_drop, q0, q1, q2, q3, hl, c1, c3]
          exact ⟨by omega, by omega, by omega, r.take k ++ (x3 % n) :: r.drop k, by simp, bad_len (by simp; omega), by simp; omega⟩
        · simp [-List.map_take, -List.map_drop, q0, q1, q2, q3, hl, c1, c2]
          exact ⟨by omega, by omega, r.take k ++ ((n : Int) + f) :: r.drop (k + 1), by simp, bad_mem (v := (n : Int) + f) (by simp) (by omega), by simp; omega⟩
end Tg

namespace Tg
open PySem L2
abbrev NR : D := .exc "NoRanking" []
theorem sl_words (ws : List (List Int)) {k : Int} (h : 0 ≤ k) : oSl none (some k) (words ws) = .ok (.val (words (ws.take k.toNat))) := by
  show R.ok (S.val (D.tup (cutL (ws.map tnum) none (some k)))) = _
  rw [cut_to h, ← List.map_take]
  rfl
section
variable {n : Nat} {x : List Int} (hx : ¬ IsRk n x) (hl : x.length < 64) (hn : n ≤ 6)
include hx hl hn
theorem beats_bad {a b : List Int} (ha : a.length = n) : F_beats [tnum x, tnum a, tnum b] = .ex NR := by
  have e := look_bad hx hl (by omega : n < 64)
  refine W_exq (runB_W ?_)
  simp [body_beats, tnum, ha, e]
theorem best_bad {ws : List (List Int)} (h0 : 0 < ws.length) (hp : ∀ w ∈ ws, w.length = n) : F_best [tnum x, words ws] = .ex NR := by
  have e := look_bad hx hl (by omega : n < 64)
  obtain ⟨w, r, rfl⟩ := List.exists_cons_of_length_pos h0
  have hw := hp w (by simp)
  refine W_exq (runB_W ?_)
  simp [body_best, words, tnum, hw, e]
theorem fits_bad {row : List Nat} (hr : row.length = n) : F_fits [tnum x, .str row] = .ex NR := by
  have e := look_bad hx hl (by omega : n < 64)
  refine W_exq (runB_W ?_)
  simp [body_fits, tnum, hr, e]
  omega
theorem tongue_bad {ws vs : List (List Int)} (h0 : 0 < ws.length) (hp : ∀ w ∈ ws, w.length = n) : F_tongue [tnum x, .lst [words ws, words vs]] = .ex NR := by
  have e := best_bad hx hl hn h0 hp
  refine W_exq (runB_W ?_)
  simp [body_tongue, eCompX, compLX, e]
theorem walk_bad {b : Bool} : F_best_walk [.int n, .tup [.tup [.bl b], .tup []], tnum x] = .ex NR := by
  have e := beats_bad hx hl hn (a := zeroV n) (b := zeroV n) (zeroV_len n)
  have hz : -1000000 ≤ (n : Int) ∧ (n : Int) ≤ 1000000 := by omega
  refine W_exq (runB_W ?_)
  simp [-List.map_map, body_best_walk, hz]
  refine W_bind.2 (zero_comp (by omega) (by simp) ?_)
  simp [-List.map_map, tnum, e]
theorem asked_bad {ws : List (List Int)} (h0 : 2 ≤ ws.length) (h1 : ws.length ≤ 20) (hp : ∀ w ∈ ws, w.length = n) (k : Int) : F__law_asked [.int k, tnum x, words ws] = .ex NR := by
  obtain ⟨a, b, r, rfl⟩ : ∃ a b r, ws = a :: b :: r := by
    match ws, h0 with
    | a :: b :: r, _ => exact ⟨a, b, r, rfl⟩
  have ha := hp a (by simp)
  have hb := hp b (by simp)
  have e0 := beats_bad hx hl hn (b := b) ha
  have e1 := best_bad hx hl hn (ws := a :: b :: r) (by simp) hp
  have e2 := fits_bad hx hl hn (row := rowOf a b) (by rw [rowOf_len (by omega)]; exact ha)
  have e2' := row_of_eq (a := a) (b := b) (by omega) (by omega)
  have e3 := tongue_bad hx hl hn (ws := (a :: b :: r).take 5) (vs := [a]) (by simp) (fun w hw => hp w (List.mem_of_mem_take hw))
  have e4 := walk_bad hx hl hn (b := decide (k = 4))
  refine W_exq (runB_W ?_)
  have c5 : cutL (D.tup (a.map .int) :: D.tup (b.map .int) :: r.map tnum) none (some 5) = ((a :: b :: r).take 5).map tnum := by rw [cut_to (by omega)]; simp
  have c1 : cutL (D.tup (a.map .int) :: D.tup (b.map .int) :: r.map tnum) none (some 1) = [a].map tnum := by rw [cut_to (by omega)]; simp
  by_cases q0 : k = 0
  · simp [body__law_asked, words, q0, e0]
  by_cases q1 : k = 1
  · simp [body__law_asked, words, q1]
    simp [words] at e1
    simp [e1]
  by_cases q2 : k = 2
  · simp [body__law_asked, words, q2, e2, e2']
  by_cases q3 : k = 3
  · simp [-List.map_cons, -List.map_take, body__law_asked, q3]
    have s5 := sl_words (a :: b :: r) (k := 5) (by decide)
    have s1 := sl_words (a :: b :: r) (k := 1) (by decide)
    simp only [Int.reduceToNat] at s5 s1
    simp [-List.map_cons, -List.map_take, -List.take_succ_cons, s5, s1]
    rw [show (a :: b :: r).take 1 = [a] from rfl, e3]
    simp
  · simp [body__law_asked, words, q0, q1, q2, q3, ha]
    rw [e4]
    simp
/-- refused -/
theorem refused_true {ws : List (List Int)} (h0 : 2 ≤ ws.length) (h1 : ws.length ≤ 20) (hp : ∀ w ∈ ws, w.length = n) (k : Int) : F__law_refused [.int k, tnum x, words ws] = .ok (.val (.bl true)) := by
  have e := asked_bad hx hl hn h0 h1 hp k
  have hs := oEq_self (d := D.lst [.str [78, 111, 82, 97, 110, 107, 105, 110, 103]]) (by decide +kernel)
  refine W_eq (runB_W ?_)
  simp [body__law_refused, e, kinds_norank, hs]
end
theorem rowOf_isRow {n : Nat} {a b : List Int} (ha : a.length = n) (hb : b.length = n) : IsRow n (rowOf a b) := by
  refine ⟨by rw [rowOf_len (by omega)]; exact ha, fun c hc => ?_⟩
  obtain ⟨i, hi, e⟩ := List.mem_iff_getElem.mp hc
  have : (rowOf a b)[i]? = some c := by rw [List.getElem?_eq_getElem hi, e]
  unfold rowOf at this
  rw [List.getElem?_zipWith] at this
  split at this
  · cases this
    unfold sgn
    split
    · exact .inl rfl
    · split
      · exact .inr (.inr rfl)
      · exact .inr (.inl rfl)
  · cases this
section
variable {n : Nat} {x : List Int} (hx : IsRk n x) (hn : n ≤ 6)
include hx hn
theorem tongue_eq {ws vs : List (List Int)} (h0 : 0 < ws.length) (h1 : ws.length ≤ 20) (hp : ∀ w ∈ ws, w.length = n) (g0 : 0 < vs.length) (g1 : vs.length ≤ 20) (gp : ∀ w ∈ vs, w.length = n) : F_tongue [tnum x, .lst [words ws, words vs]] = .ok (.val (.tup [tnum (bestL ws x), tnum (bestL vs x)])) := by
  have e := best_eq hx (by omega) h0 (by omega) hp
  have g := best_eq hx (by omega) g0 (by omega) gp
  refine W_eq (runB_W ?_)
  simp [body_tongue, eCompX, compLX, e, g]
theorem asked_ok {ws : List (List Int)} (h0 : 2 ≤ ws.length) (h1 : ws.length ≤ 20) (hp : ∀ w ∈ ws, w.length = n) (k : Int) : ∃ s, F__law_asked [.int k, tnum x, words ws] = .ok s ∧ ∀ m, s.d.shp (m + 5) = true := by
  obtain ⟨a, b, r, rfl⟩ : ∃ a b r, ws = a :: b :: r := by
    match ws, h0 with
    | a :: b :: r, _ => exact ⟨a, b, r, rfl⟩
  have ha := hp a (by simp)
  have hb := hp b (by simp)
  have e0 := beats_eq hx (by omega) ha hb
  have e1 := best_eq hx (by omega) (ws := a :: b :: r) (by simp) (by omega) hp
  have hrw := rowOf_isRow (a := a) (b := b) ha hb
  have e2 := fits_eq hx (by omega) hrw
  have e2' := row_of_eq (a := a) (b := b) (by omega) (by omega)
  have e3 := tongue_eq hx hn (ws := (a :: b :: r).take 5) (vs := [a]) (by simp) (by simp; omega) (fun w hw => hp w (List.mem_of_mem_take hw)) (by simp) (by simp) (fun w hw => hp w (by simp at hw; simp [hw]))
  refine W_ex' (runB_W ?_)
  by_cases q0 : k = 0
  · simp [body__law_asked, words, q0, e0]
    exact fun m => shp_bl _ _
  by_cases q1 : k = 1
  · simp [body__law_asked, words, q1]
    simp [words] at e1
    simp [e1]
    exact fun m => shpL_int _ _
  by_cases q2 : k = 2
  · simp [body__law_asked, words, q2, e2, e2']
    exact fun m => shp_bl _ _
  by_cases q3 : k = 3
  · simp [-List.map_cons, -List.map_take, body__law_asked, q3]
    have s5 := sl_words (a :: b :: r) (k := 5) (by decide)
    have s1 := sl_words (a :: b :: r) (k := 1) (by decide)
    simp only [Int.reduceToNat] at s5 s1
    simp [-List.map_cons, -List.map_take, -List.take_succ_cons, s5, s1]
    rw [show (a :: b :: r).take 1 = [a] from rfl, e3]
    simp [-List.take_succ_cons]
    intro m
    show (D.shp (m + 4) (tnum _) && (D.shp (m + 4) (tnum _) && true)) = true
    rw [Bool.and_eq_true, Bool.and_eq_true]
    exact ⟨shpL_int _ _, shpL_int _ _, rfl⟩
  · obtain ⟨f, _, h⟩ := best_walk_ex (ends := [decide (k = 4)]) (ts := []) hn hx ⟨by simp, by simp, by simp, fun t ht => nomatch ht⟩
    have hm : machD [decide (k = 4)] [] = .tup [.tup [.bl (decide (k = 4))], .tup []] := rfl
    rw [hm] at h
    simp [body__law_asked, words, q0, q1, q2, q3, ha]
    rcases h with ⟨h, _⟩ | ⟨v, c, u, ks, h, _⟩
    · simp [tnum] at h
      simp [h]
      exact fun m => shp_non _
    · simp [tnum] at h
      simp [h]
      intro m
      show (D.shp (m + 4) (tnum c) && (D.shp (m + 4) (D.lst _) && (D.shp (m + 4) (D.lst _) && true))) = true
      simp only [Bool.and_eq_true]
      refine ⟨shpL_int _ _, shpL_map _ fun k _ => shp_int _ _, shpL_map _ fun o _ => ?_, trivial⟩
      cases o with
      | none => exact shp_non _
      | some p => exact shpL_int _ _
end
end Tg

namespace Tg
open PySem L2
theorem law_true (ns : List Int) (h : ns.length ≤ 63) : F_law [.scr ns] = .ok (.val (.bl true)) := by
  refine W_eq (runB_W ?_)
  simp [body_law, cell_at_eq]
  obtain ⟨n, hn⟩ : ∃ n, n = 1 + cellAt ns 0 % 6 := ⟨_, rfl⟩
  obtain ⟨m, hm⟩ : ∃ m, m = 2 + cellAt ns 0 / 6 % 11 := ⟨_, rfl⟩
  have hn1 : 1 ≤ n ∧ n ≤ 6 := by omega
  have hm1 : 2 ≤ m ∧ m ≤ 12 := by omega
  rw [← hn, ← hm]
  have hr : -1000000 ≤ m ∧ m ≤ 1000000 := by omega
  refine ⟨hr, ?_⟩
  obtain ⟨cs, hcs⟩ : ∃ cs : List Int, cs = (rng m.toNat).map (fun k => cellAt ns (2 + k)) := ⟨_, rfl⟩
  have hcl : cs.length = m.toNat := by rw [hcs, List.length_map, rng_len]
  rw [rangeL_rng]
  refine W_bind.2 (W_cm (rng m.toNat) .int .int (fun k => cellAt ns (2 + k)) rfl (by rw [rng_len]; omega) ?_ ?_)
  · intro k hk
    have hk' := rng_mem hk
    simp [cell_at_eq (ns := ns) (show 0 ≤ 2 + k by omega)]
  · rw [← hcs]
    simp
    refine W_then (word_W hn1.1 (by omega) (by omega)) ?_
    rintro s ⟨ws, rfl, hl, hp⟩
    have hl0 : 2 ≤ ws.length := by omega
    have hl1 : ws.length ≤ 20 := by omega
    have hpn : ∀ w ∈ ws, w.length = n.toNat := fun w hw => (hp w hw).1
    simp [words]
    refine W_then (law_ranking_W (by omega) (by omega)) ?_
    rintro s ⟨r0, rfl, hrk0⟩
    -- what is told of the right one
    obtain ⟨v, hv⟩ : ∃ v : Int → S, ∀ k, F__law_asked [.int k, tnum r0, words ws] = .ok (v k) ∧ ∀ m, (v k).d.shp (m + 5) = true := ⟨fun k => (asked_ok hrk0 (by omega) hl0 hl1 hpn k).choose, fun k => (asked_ok hrk0 (by omega) hl0 hl1 hpn k).choose_spec⟩
    have asked : ∀ k, F__law_asked [.int k, tnum r0, words ws] = .ok (v k) := fun k => (hv k).1
    have r6 : rangeL 0 6 = [.int 0, .int 1, .int 2, .int 3, .int 4, .int 5] := rfl
    obtain ⟨T, hT⟩ : ∃ T, T = [(v 0).d, (v 1).d, (v 2).d, (v 3).d, (v 4).d, (v 5).d] := ⟨_, rfl⟩
    have hsT : (D.lst T).shp DEP = true := by
      rw [hT]
      have := fun k => (hv k).2 54
      show (D.shp 59 _ && (D.shp 59 _ && (D.shp 59 _ && (D.shp 59 _ && (D.shp 59 _ && (D.shp 59 _ && true)))))) = true
      simp [this]
    have aw : ∀ k, F__law_asked [.int k, .tup (r0.map .int), .tup (ws.map tnum)] = .ok (v k) := asked
    simp
    have r6b : rangeL 0 6 = ([0, 1, 2, 3, 4, 5] : List Int).map .int := rfl
    rw [r6b]
    refine W_bind.2 (W_cmap [0, 1, 2, 3, 4, 5] .int (fun k => (v k).d) rfl (by simp) ?_ ?_)
    · intro k _
      simp [aw]
    have hT2 : ([0, 1, 2, 3, 4, 5] : List Int).map (fun k => (v k).d) = T := by rw [hT]; rfl
    rw [hT2]
    have hap : D.int (cellAt ns 1) :: List.map D.int (cutL ns (some 14) (some 30)) = (cellAt ns 1 :: cutL ns (some 14) (some 30)).map .int := rfl
    have hcu : (cutL ns (some 14) (some 30)).length ≤ 63 := by unfold cutL; simp; omega
    have hk : ∀ fl : Bool, keep [5, 4, 3] fl [some (S.val (D.scr ns)), some (S.val (D.int n)), some (S.val (D.int m)), some (S.val (D.tup (ws.map tnum))), some (S.val (D.tup (r0.map D.int))), none, none, none, none, none] = [some (S.val (D.scr ns)), some (S.val (D.int n)), some (S.val (D.int m)), some (S.val (D.tup (ws.map tnum))), some (S.val (D.tup (r0.map D.int))), none, none, none, none, none] := fun fl => by cases fl <;> rfl
    simp [hk]
    refine ⟨by omega, W_bind.2 (W_for (fun i e => ∃ (a b c d : Option S), e = [some (.val (.scr ns)), some (.val (.int n)), some (.val (.int m)), some (.val (.tup (ws.map tnum))), some (.val (.tup (r0.map .int))), a, some (.own T), b, c, d]) ⟨none, none, none, none, rfl⟩ ?_ ?_)⟩
    · rintro i d e hd ⟨a, b, c, d2, rfl⟩
      rw [hap, List.getElem?_map] at hd
      cases hz : (cellAt ns 1 :: cutL ns (some 14) (some 30))[i]? with
      | none => rw [hz] at hd; cases hd
      | some x =>
        rw [hz] at hd
        cases hd
        simp
        refine W_then (law_ranking_W (by omega) (by omega)) ?_
        rintro s ⟨r, rfl, hrk⟩
        simp
        refine W_then (law_bad_W hrk (by omega) (by omega)) ?_
        rintro s ⟨y, rfl, hbad, hyl⟩
        have ref : ∀ k : Int, F__law_refused [.int k, .tup (y.map .int), .tup (ws.map tnum)] = .ok (.val (.bl true)) := fun k => refused_true hbad hyl (by omega) hl0 hl1 hpn k
        simp [r6b]
        refine W_for (fun j e => ∃ (a b c d : Option S), e = [some (.val (.scr ns)), some (.val (.int n)), some (.val (.int m)), some (.val (.tup (ws.map tnum))), some (.val (.tup (r0.map .int))), a, some (.own T), b, some (.val (tnum y)), d]) ⟨_, _, none, _, rfl⟩ ?_ ?_
        · rintro j d e hd ⟨a, b, c, d', rfl⟩
          obtain ⟨k, rfl⟩ : ∃ k : Int, d = .int k := by
            have hm := List.mem_of_getElem? hd
            simp only [List.mem_cons, List.not_mem_nil, or_false] at hm
            rcases hm with hm | hm | hm | hm | hm | hm <;> exact ⟨_, hm⟩
          simp [ref]
        · rintro e ⟨a, b, c, d, rfl⟩
          simp
    · rintro e ⟨a, b, c, d, rfl⟩
      simp
      rw [r6b]
      refine W_bind.2 (W_cmap [0, 1, 2, 3, 4, 5] .int (fun k => (v k).d) rfl (by simp) ?_ ?_)
      · intro k _
        simp [aw]
      rw [hT2]
      simp [oEq_self hsT]
end Tg

open PySem PySem.W PyProof.Rows in
set_option maxRecDepth 100000 in
set_option maxHeartbeats 0 in
theorem PySem.Challenge.cw_tonguerank_k06_what_is_no_ranking_holds : PySem.Challenge.rw_tonguerank_k06_what_is_no_ranking.Holds := by
  w_on; o_law; k_head; (case hw => w_witness2)
  k_fill
  refine L2.walk_of (l := PySem.Challenge.rw_tonguerank_k06_what_is_no_ranking) (n := 63) (k := 7) (x := "_law_script") (CX := fun w => L2.CX PySem.Challenge.rw_tonguerank_k06_what_is_no_ranking.prog w) (sp := fun w => Tg.spLaw _) rfl (by decide) rfl ⟨rfl, by decide, by decide⟩ (fun w h Y => PySem.W.kIn_of Y) ?F (fun _ _ a ns hl hO hS => Tg.law_in hl hO hS) (fun w H s u s2 hx => Tg.cx_end hx)
  case F =>
    intro w mg fa h KX G hmg
    refine' Tg.all_mk KX G hmg ?a0 ?l0 ?c0 ?k0 ?a1 ?l1 ?c1 ?k1 ?a2 ?l2 ?c2 ?k2 ?a3 ?l3 ?c3 ?k3 ?a4 ?l4 ?c4 ?k4 ?a5 ?l5 ?c5 ?k5 ?a6 ?l6 ?c6 ?k6 ?a7 ?l7 ?c7 ?k7 ?a8 ?l8 ?c8 ?k8 ?a9 ?l9 ?c9 ?k9 ?a10 ?l10 ?c10 ?k10 ?a11 ?l11 ?c11 ?k11 ?a12 ?l12 ?c12 ?k12 ?a13 ?l13 ?c13 ?k13 ?a14 ?l14 ?c14 ?k14 ?a15 ?l15 ?c15 ?k15 ?a16 ?l16 ?c16 ?k16 ?a17 ?l17 ?c17 ?k17 ?a18 ?l18 ?c18 ?k18 ?a19 ?l19 ?c19 ?k19 ?z_ValueError ?z_any ?z_int ?z_isinstance ?z_len ?z_list ?z_max ?z_range ?z_sorted ?z_tuple ?z_zip ?g_SIGNS ?ns_NoRanking ?xx_NoRanking ?xk_NoRanking ?xb_NoRanking ?xt_NoRanking ?ea_NoRanking ?eb_NoRanking ?ec_NoRanking ?ed_NoRanking ?ee_NoRanking ?ef_NoRanking ?nt_NoCount ?ni_NoCount ?ny_NoCount ?nt_NoMarks ?ni_NoMarks ?ny_NoMarks ?nt_NoWord ?ni_NoWord ?ny_NoWord ?nt_NoRanking ?ni_NoRanking ?ny_NoRanking ?nt_NoRow ?ni_NoRow ?ny_NoRow ?nt_NoMove ?ni_NoMove ?ny_NoMove ?nt_Clash ?ni_Clash ?ny_Clash ?nt_NoSaying ?ni_NoSaying ?ny_NoSaying ?nt_NoMachine ?ni_NoMachine ?ny_NoMachine ?nt_NoRoom ?ni_NoRoom ?ny_NoRoom ?nt_NoLetter ?ni_NoLetter ?ny_NoLetter ?nt_TooMany ?ni_TooMany ?ny_TooMany ?nt_NoNames ?ni_NoNames ?ny_NoNames ?nt_NoText ?ni_NoText ?ny_NoText ?nt_RankError ?ni_RankError ?ny_RankError ?eg ?eh ?sk_NoRanking_NoCount ?sk_NoRanking_NoMarks ?sk_NoRanking_NoWord ?sk_NoRanking_NoRanking ?sk_NoRanking_NoRow ?sk_NoRanking_NoMove ?sk_NoRanking_Clash ?sk_NoRanking_NoSaying ?sk_NoRanking_NoMachine ?sk_NoRanking_NoRoom ?sk_NoRanking_NoLetter ?sk_NoRanking_TooMany ?sk_NoRanking_NoNames ?sk_NoRanking_NoText ?sk_NoRanking_ValueError ?sx_NoRanking_RankError ?sb_RankError Tg.law_true
    (case a0 => k_is)
    (case l0 => k_is)
    (case c0 => k_is)
    (case k0 => k_is)
    (case a1 => k_is)
    (case l1 => k_is)
    (case c1 => k_is)
    (case k1 => k_is)
    (case a2 => k_is)
    (case l2 => k_is)
    (case c2 => k_is)
    (case k2 => k_is)
    (case a3 => k_is)
    (case l3 => k_is)
    (case c3 => k_is)
    (case k3 => k_is)
    (case a4 => k_is)
    (case l4 => k_is)
    (case c4 => k_is)
    (case k4 => k_is)
    (case a5 => k_is)
    (case l5 => k_is)
    (case c5 => k_is)
    (case k5 => k_is)
    (case a6 => k_is)
    (case l6 => k_is)
    (case c6 => k_is)
    (case k6 => k_is)
    (case a7 => k_is)
    (case l7 => k_is)
    (case c7 => k_is)
    (case k7 => k_is)
    (case a8 => k_is)
    (case l8 => k_is)
    (case c8 => k_is)
    (case k8 => k_is)
    (case a9 => k_is)
    (case l9 => k_is)
    (case c9 => k_is)
    (case k9 => k_is)
    (case a10 => k_is)
    (case l10 => k_is)
    (case c10 => k_is)
    (case k10 => k_is)
    (case a11 => k_is)
    (case l11 => k_is)
    (case c11 => k_is)
    (case k11 => k_is)
    (case a12 => k_is)
    (case l12 => k_is)
    (case c12 => k_is)
    (case k12 => k_is)
    (case a13 => k_is)
    (case l13 => k_is)
    (case c13 => k_is)
    (case k13 => k_is)
    (case a14 => k_is)
    (case l14 => k_is)
    (case c14 => k_is)
    (case k14 => k_is)
    (case a15 => k_is)
    (case l15 => k_is)
    (case c15 => k_is)
    (case k15 => k_is)
    (case a16 => k_is)
    (case l16 => k_is)
    (case c16 => k_is)
    (case k16 => k_is)
    (case a17 => k_is)
    (case l17 => k_is)
    (case c17 => k_is)
    (case k17 => k_is)
    (case a18 => k_is)
    (case l18 => k_is)
    (case c18 => k_is)
    (case k18 => k_is)
    (case a19 => k_is)
    (case l19 => k_is)
    (case c19 => k_is)
    (case k19 => k_is)
    (case z_ValueError => k_is)
    (case z_any => k_is)
    (case z_int => k_is)
    (case z_isinstance => k_is)
    (case z_len => k_is)
    (case z_list => k_is)
    (case z_max => k_is)
    (case z_range => k_is)
    (case z_sorted => k_is)
    (case z_tuple => k_is)
    (case z_zip => k_is)
    (case g_SIGNS => k_is)
    (case ns_NoRanking => k_is)
    (case xx_NoRanking => k_exc)
    (case xk_NoRanking => k_is)
    (case xb_NoRanking => k_is)
    (case xt_NoRanking => k_is)
    (case ea_NoRanking => k_is)
    (case eb_NoRanking => k_is)
    (case ec_NoRanking => k_is)
    (case ed_NoRanking => k_is)
    (case ee_NoRanking => k_is)
    (case ef_NoRanking => k_is)
    (case nt_NoCount => k_is)
    (case ni_NoCount => k_is)
    (case ny_NoCount => k_is)
    (case nt_NoMarks => k_is)
    (case ni_NoMarks => k_is)
    (case ny_NoMarks => k_is)
    (case nt_NoWord => k_is)
    (case ni_NoWord => k_is)
    (case ny_NoWord => k_is)
    (case nt_NoRanking => k_is)
    (case ni_NoRanking => k_is)
    (case ny_NoRanking => k_is)
    (case nt_NoRow => k_is)
    (case ni_NoRow => k_is)
    (case ny_NoRow => k_is)
    (case nt_NoMove => k_is)
    (case ni_NoMove => k_is)
    (case ny_NoMove => k_is)
    (case nt_Clash => k_is)
    (case ni_Clash => k_is)
    (case ny_Clash => k_is)
    (case nt_NoSaying => k_is)
    (case ni_NoSaying => k_is)
    (case ny_NoSaying => k_is)
    (case nt_NoMachine => k_is)
    (case ni_NoMachine => k_is)
    (case ny_NoMachine => k_is)
    (case nt_NoRoom => k_is)
    (case ni_NoRoom => k_is)
    (case ny_NoRoom => k_is)
    (case nt_NoLetter => k_is)
    (case ni_NoLetter => k_is)
    (case ny_NoLetter => k_is)
    (case nt_TooMany => k_is)
    (case ni_TooMany => k_is)
    (case ny_TooMany => k_is)
    (case nt_NoNames => k_is)
    (case ni_NoNames => k_is)
    (case ny_NoNames => k_is)
    (case nt_NoText => k_is)
    (case ni_NoText => k_is)
    (case ny_NoText => k_is)
    (case nt_RankError => k_is)
    (case ni_RankError => k_is)
    (case ny_RankError => k_is)
    (case eg => k_is)
    (case eh => k_is)
    (case sk_NoRanking_NoCount => k_is)
    (case sk_NoRanking_NoMarks => k_is)
    (case sk_NoRanking_NoWord => k_is)
    (case sk_NoRanking_NoRanking => k_is)
    (case sk_NoRanking_NoRow => k_is)
    (case sk_NoRanking_NoMove => k_is)
    (case sk_NoRanking_Clash => k_is)
    (case sk_NoRanking_NoSaying => k_is)
    (case sk_NoRanking_NoMachine => k_is)
    (case sk_NoRanking_NoRoom => k_is)
    (case sk_NoRanking_NoLetter => k_is)
    (case sk_NoRanking_TooMany => k_is)
    (case sk_NoRanking_NoNames => k_is)
    (case sk_NoRanking_NoText => k_is)
    (case sk_NoRanking_ValueError => k_is)
    (case sx_NoRanking_RankError => k_is)
    (case sb_RankError => k_is)
